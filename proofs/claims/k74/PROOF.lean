import PyProof.Rows.All
import Wide.All
import OpenK.AllK
import Wide.FinOn
import HandS.ForMost
import HandS.Exc
import HandS.ExcOwn
import HandS.TryOnly
import HandS.ExcIs
import HandS.ExcField
import HandS.ExcInit
import HandS.Defaults
import HandS.Style
import HandS.Flow
import HandS.CallLocal
import HandS.Lambda
import HandS.Wide
import HandS.Conv
import HandS.TupAny
import HandS.TupMul
import HandS.TupLe
import HandS.IsInst
import HandS.RaiseMore
import HandS.Deep
import HandS.Iter
import HandS.Zip
import HandS.SortInts
import HandS.SetFor
import HandS.ExcSuper
import HandS.WideBits
import HandS.NoneIn
import PyProof.ReprReads
import HandS.Head0
import HandS.Head1
import HandS.Head2
import HandS.HeadEnd
import HandS.HeadHook1
import HandS.HeadHook2
import HandS.HeadHook4
import HandS.HeadWalk
import KE.KExcSuper
import HandS.EndTab
import HandS.Star
import PyProof.AutoSeq1
import KE.GoesEnum
import KE.KStateDown
import PySem.Challenge.RW_stilltwins_k74_whole_webs_laid
set_option Elab.async false
set_option linter.all false
set_option maxRecDepth 100000
set_option maxHeartbeats 4000000
namespace PyI
open PySem PySem.Spec PyProof.Rows L2

/-! ### data -/
inductive D where
  | non | bl (b : Bool) | int (i : Int) | str (x : Str)
  | tup (xs : List D) | lst (xs : List D) | scr (xs : List D)
  | cell (l : Nat) | fn (i : Nat) | cls (i : Nat)
  /-- an exception that a suite holds: where it stands, its dict, its class, what it keeps -/
  | exn (a dd : Addr) (c : Nat) (ds : List D)

inductive Cel where
  | lst (xs : List D)
  | ins (c : Nat) (fs : List (Str × D))
  | dic (kvs : List (Option Key × D))
abbrev Mem := List Cel

/-- a slot: unset, data, a list of the def's own -/
inductive Sl where
  | un | v (d : D) | ol (xs : List D)
abbrev Sls := List Sl

inductive Out (α : Type) where
  | ok (a : α) (m : Mem) | exc (c : Nat) (ds : List D) (m : Mem) | bad
def Out.bind {α β : Type} (o : Out α) (k : α → Mem → Out β) : Out β := match o with
  | .ok a m => k a m
  | .exc c ds m => .exc c ds m
  | .bad => .bad

/-- the world: the written part, where the defs and classes stand -/
structure GC where
  P : Program
  w : World
  K : PySem.W.Frag
  mg : Str → Option Value
  base : Heap
  fa : Nat → Addr
  ca : Nat → Addr
  xf : Nat → List Str := fun _ => []
  tb : List (Addr × Str) := []

/-! ### lists in pairs -/
section
variable {α β γ : Type} {R R' : α → β → Prop}
theorem paired_imp {l₁ : List α} {l₂ : List β} (h : Paired R l₁ l₂) (f : ∀ a b, R a b → R' a b) : Paired R' l₁ l₂ := Paired.mapP h f
theorem paired_append {a b : List α} {c d : List β} (h : Paired R a c) (h' : Paired R b d) : Paired R (a ++ b) (c ++ d) := by
  induction h with
  | nil => exact h'
  | cons r _ ih => exact .cons r ih
theorem paired_get {l₁ : List α} {l₂ : List β} (h : Paired R l₁ l₂) : ∀ {i : Nat} {a : α}, l₁[i]? = some a → ∃ b, l₂[i]? = some b ∧ R a b := by
  induction h with
  | nil => intro i a e; simp at e
  | cons r _ ih =>
    intro i a e
    cases i with
    | zero => simp at e; subst e; exact ⟨_, rfl, r⟩
    | succ i => simp at e; simpa using ih e
theorem paired_get' {l₁ : List α} {l₂ : List β} (h : Paired R l₁ l₂) : ∀ {i : Nat} {b : β}, l₂[i]? = some b → ∃ a, l₁[i]? = some a ∧ R a b := by
  induction h with
  | nil => intro i a e; simp at e
  | cons r _ ih =>
    intro i a e
    cases i with
    | zero => simp at e; subst e; exact ⟨_, rfl, r⟩
    | succ i => simp at e; simpa using ih e
theorem paired_split : ∀ {a b : List α} {l : List β}, Paired R (a ++ b) l → ∃ c d, l = c ++ d ∧ Paired R a c ∧ Paired R b d
  | [], b, l, h => ⟨[], l, rfl, .nil, h⟩
  | x :: a, b, l, h => by
    cases h with
    | cons r t =>
      obtain ⟨c, d, e, h1, h2⟩ := paired_split t
      exact ⟨_ :: c, d, by rw [e]; rfl, .cons r h1, h2⟩
theorem paired_set {l₁ : List α} {l₂ : List β} (h : Paired R l₁ l₂) {a : α} {b : β} (r : R a b) : ∀ i, Paired R (l₁.set i a) (l₂.set i b) := by
  induction h with
  | nil => intro i; exact .nil
  | cons r' t ih =>
    intro i
    cases i with
    | zero => exact .cons r t
    | succ i => exact .cons r' (ih i)
theorem paired_take {l₁ : List α} {l₂ : List β} (h : Paired R l₁ l₂) : ∀ n, Paired R (l₁.take n) (l₂.take n) := by
  induction h with
  | nil => intro n; simp; exact .nil
  | cons r t ih => intro n; cases n with
    | zero => simp; exact .nil
    | succ n => simp; exact .cons r (ih n)
theorem paired_drop {l₁ : List α} {l₂ : List β} (h : Paired R l₁ l₂) : ∀ n, Paired R (l₁.drop n) (l₂.drop n) := by
  induction h with
  | nil => intro n; simp; exact .nil
  | cons r t ih => intro n; cases n with
    | zero => simp; exact .cons r t
    | succ n => simpa using ih n
theorem paired_mem {l₁ : List α} {l₂ : List β} (h : Paired R l₁ l₂) {a : α} (ha : a ∈ l₁) : ∃ b ∈ l₂, R a b := by
  induction h with
  | nil => cases ha
  | cons r t ih =>
    rcases List.mem_cons.mp ha with rfl | ha
    · exact ⟨_, List.mem_cons_self .., r⟩
    · obtain ⟨b, hb, rb⟩ := ih ha
      exact ⟨b, List.mem_cons_of_mem _ hb, rb⟩
theorem paired_map {f : α → γ} {l : List α} {l₂ : List β} {S : γ → β → Prop} (h : Paired (fun a b => S (f a) b) l l₂) : Paired S (l.map f) l₂ := by
  induction h with
  | nil => exact .nil
  | cons r t ih => exact .cons r ih
theorem paired_flip {l₁ : List α} {l₂ : List β} (h : Paired R l₁ l₂) : Paired (fun b a => R a b) l₂ l₁ := by
  induction h with
  | nil => exact .nil
  | cons r t ih => exact .cons r ih
end

/-! ### a value holds data, over the frozen part F of the heap and the cells' addresses -/
mutual
inductive Is (G : GC) (F : Hp) (ι : List Addr) : D → V → Prop
  | non : Is G F ι .non .non
  | bl (b : Bool) : Is G F ι (.bl b) (.bl b)
  | int (i : Int) : Is G F ι (.int i) (.int i)
  | str (x : Str) : Is G F ι (.str x) (.str x)
  | tup {a : Addr} {xs : List V} {ds : List D} : SqT G.K F a xs → IsAll G F ι ds xs → Is G F ι (.tup ds) (.ref a)
  | lst {a : Addr} {xs : List V} {ds : List D} : F a = some (.lst xs) → IsAll G F ι ds xs → Is G F ι (.lst ds) (.ref a)
  | scr {a : Addr} {xs : List V} {ds : List D} : SqL G.K F a xs → IsAll G F ι ds xs → Is G F ι (.scr ds) (.ref a)
  | cell {l : Nat} {a : Addr} : ι[l]? = some a → Is G F ι (.cell l) (.ref a)
  | fn (i : Nat) : Is G F ι (.fn i) (.ref (G.fa i))
  | cls (i : Nat) : Is G F ι (.cls i) (.ref (G.ca i))
  | exn {a dd : Addr} {c : Nat} {fs : List (Str × V)} {ds : List D} : F dd = some (.xd fs) → fs.map (·.1) = G.xf c → IsAll G F ι ds (fs.map (·.2)) → Is G F ι (.exn a dd c ds) (.ref a)
inductive IsAll (G : GC) (F : Hp) (ι : List Addr) : List D → List V → Prop
  | nil : IsAll G F ι [] []
  | cons {d : D} {v : V} {ds : List D} {vs : List V} : Is G F ι d v → IsAll G F ι ds vs → IsAll G F ι (d :: ds) (v :: vs)
end

/-- the frozen part grows, cells are added -/
structure Grow (F : Hp) (ι : List Addr) (F' : Hp) (ι' : List Addr) : Prop where
  f : ∀ a o, F a = some o → F' a = some o
  c : ι <+: ι'
theorem Grow.refl (F : Hp) (ι : List Addr) : Grow F ι F ι := ⟨fun _ _ h => h, List.prefix_rfl⟩
theorem Grow.trans {F F' F'' : Hp} {ι ι' ι'' : List Addr} (g : Grow F ι F' ι') (h : Grow F' ι' F'' ι'') : Grow F ι F'' ι'' := ⟨fun a o e => h.f a o (g.f a o e), g.c.trans h.c⟩
theorem prefix_get {α : Type} {l l' : List α} (h : l <+: l') {i : Nat} {a : α} (e : l[i]? = some a) : l'[i]? = some a := by
  obtain ⟨t, rfl⟩ := h
  rw [List.getElem?_append_left (List.getElem?_eq_some_iff.mp e).1]
  exact e
theorem SqT.grow {K : PySem.W.Frag} {F F' : Hp} (g : ∀ a o, F a = some o → F' a = some o) {a : Addr} {xs : List V} (h : SqT K F a xs) : SqT K F' a xs := by
  rcases h with (h | ⟨o, h⟩) | h
  · exact .inl (.inl (g _ _ h))
  · exact .inl (.inr ⟨o, g _ _ h⟩)
  · exact .inr h
theorem SqL.grow {K : PySem.W.Frag} {F F' : Hp} (g : ∀ a o, F a = some o → F' a = some o) {a : Addr} {xs : List V} (h : SqL K F a xs) : SqL K F' a xs := by
  rcases h with (h | ⟨o, h⟩) | h
  · exact .inl (.inl (g _ _ h))
  · exact .inl (.inr ⟨o, g _ _ h⟩)
  · exact .inr h
section
variable {G : GC} {F F' : Hp} {ι ι' : List Addr}
mutual
theorem Is.grow (g : Grow F ι F' ι') : ∀ {d : D} {v : V}, Is G F ι d v → Is G F' ι' d v
  | _, _, .non => .non
  | _, _, .bl b => .bl b
  | _, _, .int i => .int i
  | _, _, .str x => .str x
  | _, _, .tup h hs => .tup (SqT.grow g.f h) (IsAll.grow g hs)
  | _, _, .lst h hs => .lst (g.f _ _ h) (IsAll.grow g hs)
  | _, _, .scr h hs => .scr (SqL.grow g.f h) (IsAll.grow g hs)
  | _, _, .cell h => .cell (prefix_get g.c h)
  | _, _, .fn i => .fn i
  | _, _, .cls i => .cls i
  | _, _, .exn h e hs => .exn (g.f _ _ h) e (IsAll.grow g hs)
theorem IsAll.grow (g : Grow F ι F' ι') : ∀ {ds : List D} {vs : List V}, IsAll G F ι ds vs → IsAll G F' ι' ds vs
  | _, _, .nil => .nil
  | _, _, .cons h hs => .cons (Is.grow g h) (IsAll.grow g hs)
end
theorem IsAll.length : ∀ {ds : List D} {vs : List V}, IsAll G F ι ds vs → ds.length = vs.length
  | _, _, .nil => rfl
  | _, _, .cons _ hs => by simp [hs.length]
theorem IsAll.append : ∀ {ds es : List D} {vs ws : List V}, IsAll G F ι ds vs → IsAll G F ι es ws → IsAll G F ι (ds ++ es) (vs ++ ws)
  | _, _, _, _, .nil, h => h
  | _, _, _, _, .cons r t, h => .cons r (t.append h)
theorem IsAll.get : ∀ {ds : List D} {vs : List V} {i : Nat} {d : D}, IsAll G F ι ds vs → ds[i]? = some d → ∃ v, vs[i]? = some v ∧ Is G F ι d v
  | _, _, _, _, .nil, e => by simp at e
  | _, _, 0, _, .cons r _, e => by simp at e; subst e; exact ⟨_, rfl, r⟩
  | _, _, i + 1, _, .cons _ t, e => by simpa using t.get (by simpa using e)
theorem IsAll.get' : ∀ {ds : List D} {vs : List V} {i : Nat} {v : V}, IsAll G F ι ds vs → vs[i]? = some v → ∃ d, ds[i]? = some d ∧ Is G F ι d v
  | _, _, _, _, .nil, e => by simp at e
  | _, _, 0, _, .cons r _, e => by simp at e; subst e; exact ⟨_, rfl, r⟩
  | _, _, i + 1, _, .cons _ t, e => by simpa using t.get' (by simpa using e)
theorem IsAll.set : ∀ {ds : List D} {vs : List V} {d : D} {v : V} (i : Nat), IsAll G F ι ds vs → Is G F ι d v → IsAll G F ι (ds.set i d) (vs.set i v)
  | _, _, _, _, _, .nil, _ => .nil
  | _, _, _, _, 0, .cons _ t, r => .cons r t
  | _, _, _, _, i + 1, .cons r' t, r => .cons r' (t.set i r)
theorem IsAll.take : ∀ {ds : List D} {vs : List V} (n : Nat), IsAll G F ι ds vs → IsAll G F ι (ds.take n) (vs.take n)
  | _, _, 0, _ => by simpa using IsAll.nil
  | _, _, _ + 1, .nil => .nil
  | _, _, n + 1, .cons r t => .cons r (t.take n)
theorem IsAll.drop : ∀ {ds : List D} {vs : List V} (n : Nat), IsAll G F ι ds vs → IsAll G F ι (ds.drop n) (vs.drop n)
  | _, _, 0, h => h
  | _, _, _ + 1, .nil => .nil
  | _, _, n + 1, .cons _ t => t.drop n
theorem IsAll.rep {ds : List D} {vs : List V} (h : IsAll G F ι ds vs) : ∀ n : Nat, IsAll G F ι (List.replicate n ds).flatten (List.replicate n vs).flatten
  | 0 => .nil
  | n + 1 => by
    rw [List.replicate_succ, List.replicate_succ, List.flatten_cons, List.flatten_cons]
    exact h.append (h.rep n)
theorem IsAll.reverse : ∀ {ds : List D} {vs : List V}, IsAll G F ι ds vs → IsAll G F ι ds.reverse vs.reverse
  | _, _, .nil => .nil
  | _, _, .cons r t => by
    rw [List.reverse_cons, List.reverse_cons]
    exact t.reverse.append (.cons r .nil)
end

/-! ### cells -/
/-- a dict whose keys are None, ints and texts -/
def DicO (P : Program) (w : World) (a : Addr) (vs : List (Option Key × V)) : HO := .ext fun h => vs.length ≤ sizeLine ∧ (a == sysModules) = false ∧ ∃ us, KV vs us ∧ h.DictOf (L2.noneKind P w) a us
theorem dicO_code {P : Program} {w : World} {a : Addr} {vs : List (Option Key × V)} {q : Str} (e : DicO P w a vs = LamX.CodeO a q) : False := by
  unfold DicO LamX.CodeO at e
  have e' := HO.ext.inj e
  let h0 : Heap := { objs := Array.replicate a default }
  let ob : Obj := { cls := .none, data := .fields #[.none, .str q default] }
  have g : (h0.push ob).get? a = some ob := by
    have := Heap.get?_push_size (h := h0) (o := ob) rfl
    simpa [h0] using this
  have p : (fun h : Heap => ∃ (oc : Obj) (vs : Array Value) (t : Tok), h.get? a = some oc ∧ oc.data = .fields vs ∧ vs[1]? = some (.str q t)) (h0.push ob) := ⟨ob, _, default, g, rfl, rfl⟩
  rw [← e'] at p
  obtain ⟨_, _, us, _, o, es, ep, h1, _, h3, _⟩ := p
  rw [g] at h1
  cases h1
  cases h3
def CelRep (G : GC) (F : Hp) (ι : List Addr) (H : Hp) : Cel → Addr → Prop
  | .lst ds, a => ∃ xs, H a = some (.lst xs) ∧ IsAll G F ι ds xs
  | .dic kvs, a => ∃ vs : List (Option Key × V), H a = some (DicO G.P G.w a vs) ∧ Paired (fun (p : Option Key × D) (q : Option Key × V) => p.1 = q.1 ∧ Is G F ι p.2 q.2) kvs vs
  | .ins c fs, a => ∃ dx vs, H a = some (.ins (G.ca c) dx vs) ∧ Paired (fun (p : Str × D) (q : Str × V) => p.1 = q.1 ∧ Is G F ι p.2 q.2) fs vs
/-- the heap without the tables of code -/
def nt (H : Hp) : Hp := fun a => match H a with
  | some (.tbl _) => none
  | o => o
theorem nt_some {H : Hp} {a : Addr} {o : HO} (h : nt H a = some o) : H a = some o := by
  unfold nt at h
  split at h
  · cases h
  · exact h
theorem nt_tbl {H : Hp} {a : Addr} {ps : Array Value} (h : nt H a = some (.tbl ps)) : False := by
  unfold nt at h
  split at h
  · cases h
  · next z => exact z _ h
theorem nt_of {H : Hp} {a : Addr} {o : HO} (h : H a = some o) (n : ∀ ps, o ≠ .tbl ps) : nt H a = some o := by
  unfold nt
  rw [h]
  split
  · next e => exact absurd (Option.some.inj e) (n _)
  · rfl
theorem nt_none {H : Hp} {a : Addr} (h : H a = none) : nt H a = none := by
  unfold nt
  rw [h]
/-- nothing of the tables of code stands there -/
structure NoCode (H : Hp) (a : Addr) : Prop where
  t : ∀ ps, H a ≠ some (.tbl ps)
  c : ∀ q, H a ≠ some (LamX.CodeO a q)
theorem NoCode.non {H : Hp} {a : Addr} (h : H a = none) : NoCode H a := ⟨fun _ z => (by rw [h] at z; cases z), fun _ z => by rw [h] at z; cases z⟩
theorem NoCode.lst {H : Hp} {a : Addr} {xs : List V} (h : H a = some (.lst xs)) : NoCode H a := ⟨fun _ z => (by rw [h] at z; cases z), fun _ z => by rw [h] at z; cases z⟩
theorem NoCode.cel {G : GC} {F : Hp} {ι : List Addr} {H : Hp} {c : Cel} {a : Addr} (r : CelRep G F ι H c a) : NoCode H a := by
  cases c with
  | lst ds => obtain ⟨xs, h, _⟩ := r; exact .lst h
  | ins c fs => obtain ⟨dx, vs, h, _⟩ := r; exact ⟨fun _ z => (by rw [h] at z; cases z), fun _ z => by rw [h] at z; cases z⟩
  | dic kvs => obtain ⟨vs, h, _⟩ := r; exact ⟨fun _ z => (by rw [h] at z; cases z), fun _ z => dicO_code (Option.some.inj (h.symm.trans z))⟩
theorem tabs_upd {T : List (Addr × Str)} {H : Hp} {a : Addr} {o : HO} (t : LamX.Tabs T H) (h : NoCode H a) : LamX.Tabs T (upd H a o) := by
  intro p hp
  obtain ⟨ps, h1, h2, h3⟩ := t p hp
  refine ⟨ps, by rw [upd_ne (fun z => by rw [z] at h1; exact h.t _ h1)]; exact h1, h2, fun pos cv hc => ?_⟩
  obtain ⟨c, e1, e2⟩ := h3 pos cv hc
  exact ⟨c, e1, by rw [upd_ne (fun z => by rw [z] at e2; exact h.c _ e2)]; exact e2⟩
/-- the cells μ stand at the addresses ι; F is held by H and lies apart -/
structure Rep (G : GC) (F : Hp) (ι : List Addr) (μ : Mem) (H : Hp) : Prop where
  sub : ∀ a o, F a = some o → H a = some o
  nd : ι.Nodup
  off : ∀ a ∈ ι, F a = none
  cell : Paired (CelRep G F ι H) μ ι
  tab : LamX.Tabs G.tb H
  ftb : ∀ a o, F a = some o → ∀ ps, o ≠ .tbl ps
/-- where a def was entered -/
structure Ent where
  ι : List Addr
  F : Hp
  H : Hp
  w : Bool := true
/-- what stays, from an entry on -/
structure Ext (E : Ent) (F : Hp) (ι : List Addr) (H : Hp) : Prop where
  grow : Grow E.F E.ι F ι
  keep : ∀ a o, E.H a = some o → a ∉ E.ι → H a = some o
  there : ∀ a, nt H a = none → E.H a = none
  newc : ∀ a ∈ ι, a ∈ E.ι ∨ E.H a = none
  newf : ∀ a o, F a = some o → (∀ fs, o ≠ .xd fs) → E.F a = some o ∨ E.H a = none
  ntE : ∀ a ps, E.H a ≠ some (.tbl ps)
structure Stt (G : GC) (E : Ent) (F : Hp) (ι : List Addr) (μ : Mem) (ρ : Sls) (σ : L2.St) (H : Hp) : Prop where
  rep : Rep G F ι μ H
  len : ρ.length = σ.length
  slot : ∀ (i : Nat) (d : D), ρ[i]? = some (.v d) → ∃ v, σ[i]? = some (some v) ∧ Is G F ι d v
  own : ∀ (i : Nat) (xs : List D), ρ[i]? = some (.ol xs) → ∃ a vs, σ[i]? = some (some (.ref a)) ∧ H a = some (.lst vs) ∧ IsAll G F ι xs vs ∧ F a = none ∧ a ∉ ι ∧ (E.w = true → E.H a = none)
  dis : ∀ (i j : Nat) (xs ys : List D) (a : Addr), ρ[i]? = some (.ol xs) → ρ[j]? = some (.ol ys) → σ[i]? = some (some (.ref a)) → σ[j]? = some (some (.ref a)) → i = j
  ext : Ext E F ι H
/-- a value of an expression: data, or the own list of a slot -/
def IsV (G : GC) (F : Hp) (ι : List Addr) (ρ : Sls) (σ : L2.St) (d : D) (v : V) : Prop :=
  Is G F ι d v ∨ ∃ (i : Nat) (xs : List D), ρ[i]? = some (.ol xs) ∧ d = .lst xs ∧ σ[i]? = some (some v)
theorem IsV.grow {G : GC} {F F' : Hp} {ι ι' : List Addr} {ρ : Sls} {σ : L2.St} {d : D} {v : V} (g : Grow F ι F' ι') (h : IsV G F ι ρ σ d v) : IsV G F' ι' ρ σ d v := h.elim (fun h => .inl (h.grow g)) .inr

section
variable {G : GC} {E : Ent} {F F' : Hp} {ι ι' : List Addr} {μ μ' : Mem} {ρ : Sls} {σ : L2.St} {H H' : Hp}
theorem CelRep.keep (g : Grow F ι F' ι') {c : Cel} {a : Addr} (h : CelRep G F ι H c a) (e : H' a = H a) : CelRep G F' ι' H' c a := by
  cases c with
  | lst ds =>
    obtain ⟨xs, h1, h2⟩ := h
    exact ⟨xs, e.trans h1, h2.grow g⟩
  | ins c fs =>
    obtain ⟨dx, vs, h1, h2⟩ := h
    exact ⟨dx, vs, e.trans h1, paired_imp h2 fun p q r => ⟨r.1, r.2.grow g⟩⟩
  | dic kvs =>
    obtain ⟨vs, h1, h2⟩ := h
    exact ⟨vs, e.trans h1, paired_imp h2 fun p q r => ⟨r.1, r.2.grow g⟩⟩
theorem CelRep.there {c : Cel} {a : Addr} (h : CelRep G F ι H c a) : H a ≠ none := by
  cases c with
  | lst ds => obtain ⟨xs, h1, _⟩ := h; rw [h1]; simp
  | ins c fs => obtain ⟨dx, vs, h1, _⟩ := h; rw [h1]; simp
  | dic kvs => obtain ⟨vs, h1, _⟩ := h; rw [h1]; simp
theorem Rep.at (r : Rep G F ι μ H) {a : Addr} (h : a ∈ ι) : H a ≠ none := by
  obtain ⟨i, hi, e⟩ := List.mem_iff_getElem.mp h
  obtain ⟨c, _, q⟩ := paired_get' r.cell (i := i) (b := a) (by rw [List.getElem?_eq_getElem hi, e])
  exact q.there
theorem Ext.refl {b : Bool} (r : Rep G F ι μ H) : Ext ⟨ι, F, nt H, b⟩ F ι H := ⟨Grow.refl _ _, fun _ _ h _ => nt_some h, fun _ h => h, fun _ h => .inl h, fun _ _ h _ => .inl h, fun _ _ h => nt_tbl h⟩
theorem Ext.trans {b : Bool} (a : Ext E F ι H) (b : Ext ⟨ι, F, nt H, b⟩ F' ι' H') : Ext E F' ι' H' where
  grow := a.grow.trans b.grow
  keep := fun x o h1 h2 => b.keep x o (nt_of (a.keep x o h1 h2) fun ps z => a.ntE x ps (z ▸ h1)) fun h3 => (a.newc x h3).elim h2 fun z => by rw [z] at h1; cases h1
  ntE := a.ntE
  there := fun x h => a.there x (b.there x h)
  newc := fun x h => (b.newc x h).elim (a.newc x) fun z => .inr (a.there x z)
  newf := fun x o h n => (b.newf x o h n).elim (fun z => a.newf x o z n) fun z => .inr (a.there x z)
/-- behind a call -/
theorem Stt.call {b : Bool} (S : Stt G E F ι μ ρ σ H) (x : Ext ⟨ι, F, nt H, b⟩ F' ι' H') (r : Rep G F' ι' μ' H') : Stt G E F' ι' μ' ρ σ H' where
  rep := r
  len := S.len
  slot := fun i d e => let ⟨v, h1, h2⟩ := S.slot i d e; ⟨v, h1, h2.grow x.grow⟩
  own := fun i xs e => by
    obtain ⟨a, vs, h1, h2, h3, h4, h5, h6⟩ := S.own i xs e
    have h2n : nt H a = some (.lst vs) := nt_of h2 fun _ z => nomatch z
    refine ⟨a, vs, h1, x.keep a _ h2n h5, h3.grow x.grow, ?_, fun h => ?_, h6⟩
    · cases q : F' a with
      | none => rfl
      | some o => rcases x.newf a o q (fun fs z => by have := (r.sub a o q).symm.trans (x.keep a _ h2n h5); cases this; cases z) with z | z
                  · rw [show F a = some o from z] at h4; cases h4
                  · rw [show nt H a = none from z] at h2n; cases h2n
    · rcases x.newc a h with z | z
      · exact h5 z
      · rw [show nt H a = none from z] at h2n; cases h2n
  dis := S.dis
  ext := Ext.trans S.ext x
/-- a step that lays one frozen object -/
theorem Stt.lay (S : Stt G E F ι μ ρ σ H) {p : Addr} {o : HO} (hp : H p = none) (ho : ∀ ps, o ≠ .tbl ps := by exact fun _ z => nomatch z) : Stt G E (upd F p o) ι μ ρ σ (upd H p o) := by
  have gF : Grow F ι (upd F p o) ι := ⟨fun a u e => by
    have : H a = some u := S.rep.sub a u e
    have n : a ≠ p := fun z => by rw [z, hp] at this; cases this
    rw [upd_ne n]; exact e, List.prefix_rfl⟩
  have ne : ∀ {a : Addr}, H a ≠ none → a ≠ p := fun h z => h (z ▸ hp)
  refine S.call (b := true) ⟨gF, fun a u h _ => ?_, fun a h => ?_, fun a h => .inl h, fun a u h _ => ?_, fun _ _ h => nt_tbl h⟩ ⟨fun a u h => ?_, S.rep.nd, fun a h => ?_, ?_, tabs_upd S.rep.tab (.non hp), fun a u h => ?_⟩
  · have h := nt_some h; rw [upd_ne (ne (by rw [h]; simp))]; exact h
  · by_cases e : a = p
    · subst e; exact nt_none hp
    · unfold nt at h ⊢; rw [upd_ne e] at h; exact h
  · by_cases e : a = p
    · subst e; exact .inr (nt_none hp)
    · rw [upd_ne e] at h; exact .inl h
  · by_cases e : a = p
    · subst e; rw [upd_same] at h ⊢; exact h
    · rw [upd_ne e] at h ⊢; exact S.rep.sub a u h
  · rw [upd_ne (ne (S.rep.at h))]; exact S.rep.off a h
  · have go : ∀ {m : Mem} {l : List Addr}, Paired (CelRep G F ι H) m l → (∀ a ∈ l, H a ≠ none) → Paired (CelRep G (upd F p o) ι (upd H p o)) m l := by
      intro m l h
      induction h with
      | nil => intro _; exact .nil
      | cons r t ih => intro hh; exact .cons (r.keep gF (upd_ne (ne (hh _ (List.mem_cons_self ..))))) (ih fun a ha => hh a (List.mem_cons_of_mem _ ha))
    exact go S.rep.cell fun a h => S.rep.at h
  · by_cases e : a = p
    · subst e; rw [upd_same] at h; cases h; exact ho
    · rw [upd_ne e] at h; exact S.rep.ftb a u h
theorem Stt.layGrow (S : Stt G E F ι μ ρ σ H) {p : Addr} {o : HO} (hp : H p = none) : Grow F ι (upd F p o) ι := ⟨fun a u e => by
    have : H a = some u := S.rep.sub a u e
    have n : a ≠ p := fun z => by rw [z, hp] at this; cases this
    rw [upd_ne n]; exact e, List.prefix_rfl⟩
theorem paired_keep {P : Cel → Addr → Prop} {Q : Cel → Addr → Prop} {m : Mem} {l : List Addr} (h : Paired P m l) (k : ∀ c a, a ∈ l → P c a → Q c a) : Paired Q m l := by
  induction h with
  | nil => exact .nil
  | cons r t ih => exact .cons (k _ _ (List.mem_cons_self ..) r) (ih fun c a ha => k c a (List.mem_cons_of_mem _ ha))
/-- a step that lays one cell -/
theorem Stt.layC (S : Stt G E F ι μ ρ σ H) {p : Addr} {o : HO} {c : Cel} (hp : H p = none) (hc : CelRep G F (ι ++ [p]) (upd H p o) c p) : Stt G E F (ι ++ [p]) (μ ++ [c]) ρ σ (upd H p o) := by
  have gF : Grow F ι F (ι ++ [p]) := ⟨fun _ _ h => h, List.prefix_append _ _⟩
  have ne : ∀ {a : Addr}, H a ≠ none → a ≠ p := fun h z => h (z ▸ hp)
  have nF : F p = none := by
    cases q : F p with
    | none => rfl
    | some o => have := S.rep.sub _ _ q; rw [hp] at this; cases this
  refine S.call (b := true) ⟨gF, fun a u h _ => ?_, fun a h => ?_, fun a h => ?_, fun a u h _ => .inl h, fun _ _ h => nt_tbl h⟩ ⟨fun a u h => ?_, ?_, fun a h => ?_, ?_, tabs_upd S.rep.tab (.non hp), S.rep.ftb⟩
  · have h := nt_some h; rw [upd_ne (ne (by rw [h]; simp))]; exact h
  · by_cases e : a = p
    · subst e; exact nt_none hp
    · unfold nt at h ⊢; rw [upd_ne e] at h; exact h
  · rcases List.mem_append.mp h with h | h
    · exact .inl h
    · rw [List.mem_singleton.mp h]; exact .inr (nt_none hp)
  · have := S.rep.sub a u h
    rw [upd_ne (ne (by rw [this]; simp))]; exact this
  · refine List.nodup_append.mpr ⟨S.rep.nd, by simp, fun a h b hb => ?_⟩
    rw [List.mem_singleton.mp hb]
    exact ne (S.rep.at h)
  · rcases List.mem_append.mp h with h | h
    · exact S.rep.off a h
    · rw [List.mem_singleton.mp h]; exact nF
  · exact paired_append (paired_keep S.rep.cell fun c a ha r => r.keep gF (upd_ne (ne (S.rep.at ha)))) (.cons hc .nil)
/-- a cell is written -/
theorem Stt.write (S : Stt G E F ι μ ρ σ H) {l : Nat} {a : Addr} {o : HO} {c : Cel} (hl : ι[l]? = some a) (hc : CelRep G F ι (upd H a o) c a) : Stt G E F ι (μ.set l c) ρ σ (upd H a o) := by
  have ha : a ∈ ι := List.mem_of_getElem? hl
  have hat : NoCode H a := by
    obtain ⟨c, _, q⟩ := paired_get' S.rep.cell hl
    exact .cel q
  refine S.call (b := true) ⟨Grow.refl _ _, fun b u h hb => ?_, fun b h => ?_, fun b h => .inl h, fun b u h _ => .inl h, fun _ _ h => nt_tbl h⟩ ⟨fun b u h => ?_, S.rep.nd, S.rep.off, ?_, tabs_upd S.rep.tab hat, S.rep.ftb⟩
  · have n : b ≠ a := fun z => hb (by rw [z]; exact ha)
    rw [upd_ne n]; exact nt_some h
  · by_cases e : b = a
    · subst e
      rcases List.mem_iff_getElem.mp ha with ⟨j, hj, e⟩
      have := CelRep.there hc
      have k := (NoCode.cel hc).t
      cases z : upd H b o b with
      | none => exact absurd z this
      | some u => rw [nt_of z fun ps e => k ps (e ▸ z)] at h; cases h
    · show nt H b = none
      unfold nt at h ⊢; rw [upd_ne e] at h; exact h
  · rw [upd_ne (fun z => by rw [z, S.rep.off a ha] at h; cases h)]; exact S.rep.sub b u h
  · have go : ∀ {m : Mem} {k : List Addr} {l : Nat}, Paired (CelRep G F ι H) m k → k.Nodup → k[l]? = some a → Paired (CelRep G F ι (upd H a o)) (m.set l c) k := by
      intro m k l h
      induction h generalizing l with
      | nil => intro _ h; simp at h
      | cons r t ih =>
        intro nd e
        obtain ⟨n1, n2⟩ := List.nodup_cons.mp nd
        cases l with
        | zero =>
          simp at e; subst e
          exact .cons hc (paired_keep t fun c b hb r => r.keep (Grow.refl _ _) (upd_ne (fun z => n1 (z ▸ hb))))
        | succ l =>
          simp at e
          refine .cons (r.keep (Grow.refl _ _) (upd_ne (fun z => n1 (z ▸ List.mem_of_getElem? e)))) (ih n2 e)
    exact go S.rep.cell S.rep.nd hl
/-- a slot gets data -/
theorem Stt.set (S : Stt G E F ι μ ρ σ H) {i : Nat} {d : D} {v : V} (h : Is G F ι d v) : Stt G E F ι μ (ρ.set i (.v d)) (σ.set i (some v)) H where
  rep := S.rep
  len := by simpa using S.len
  slot := fun j e hj => by
    by_cases q : i = j
    · subst q
      by_cases hi : i < ρ.length
      · rw [List.getElem?_set_self hi] at hj
        cases hj
        exact ⟨v, by rw [List.getElem?_set_self (by rw [← S.len]; exact hi)], h⟩
      · rw [List.getElem?_eq_none (by simpa using hi)] at hj; cases hj
    · rw [List.getElem?_set_ne q] at hj ⊢
      exact S.slot j e hj
  own := fun j e hj => by
    by_cases q : i = j
    · subst q
      by_cases hi : i < ρ.length
      · rw [List.getElem?_set_self hi] at hj
        cases hj
      · rw [List.getElem?_eq_none (by simpa using hi)] at hj; cases hj
    · rw [List.getElem?_set_ne q] at hj ⊢
      exact S.own j e hj
  dis := fun j k xs ys a hj hk => by
    have nj : ∀ {j : Nat} {xs : List D}, (ρ.set i (.v d))[j]? = some (.ol xs) → i ≠ j := fun {j xs} hj q => by
      subst q
      by_cases hi : i < ρ.length
      · rw [List.getElem?_set_self hi] at hj; cases hj
      · rw [List.getElem?_eq_none (by simpa using hi)] at hj; cases hj
    have q1 := nj hj
    have q2 := nj hk
    rw [List.getElem?_set_ne q1] at hj
    rw [List.getElem?_set_ne q2] at hk
    rw [List.getElem?_set_ne q1, List.getElem?_set_ne q2]
    exact S.dis j k xs ys a hj hk
  ext := S.ext
/-- a slot gets a new list of its own -/
theorem Stt.setO (S : Stt G E F ι μ ρ σ H) {i : Nat} {p : Addr} {xs : List D} {vs : List V} (hp : H p = none) (h : IsAll G F ι xs vs) : Stt G E F ι μ (ρ.set i (.ol xs)) (σ.set i (some (.ref p))) (upd H p (.lst vs)) := by
  have nF : F p = none := by
    cases q : F p with
    | none => rfl
    | some o => have := S.rep.sub _ _ q; rw [hp] at this; cases this
  have nI : p ∉ ι := fun z => S.rep.at z hp
  have ne : ∀ {a : Addr}, H a ≠ none → a ≠ p := fun h z => h (z ▸ hp)
  have S1 : Stt G E F ι μ ρ σ (upd H p (.lst vs)) := by
    refine S.call (b := true) ⟨Grow.refl _ _, fun a u h _ => ?_, fun a h => ?_, fun a h => .inl h, fun a u h _ => .inl h, fun _ _ h => nt_tbl h⟩ ⟨fun a u h => ?_, S.rep.nd, S.rep.off, ?_, tabs_upd S.rep.tab (.non hp), S.rep.ftb⟩
    · have h := nt_some h; rw [upd_ne (ne (by rw [h]; simp))]; exact h
    · by_cases e : a = p
      · subst e; exact nt_none hp
      · unfold nt at h ⊢; rw [upd_ne e] at h; exact h
    · have := S.rep.sub a u h
      rw [upd_ne (ne (by rw [this]; simp))]; exact this
    · exact paired_keep S.rep.cell fun c a ha r => r.keep (Grow.refl _ _) (upd_ne (ne (S.rep.at ha)))
  have hE : E.H p = none := S.ext.there p (nt_none hp)
  have oldne : ∀ {j : Nat} {ys : List D}, ρ[j]? = some (.ol ys) → σ[j]? ≠ some (some (.ref p)) := fun {j ys} hj e => by
    obtain ⟨a, ws, h1, h2, _⟩ := S.own j ys hj
    rw [e] at h1
    cases h1
    rw [hp] at h2; cases h2
  refine ⟨S1.rep, by simpa using S.len, fun j e hj => ?_, fun j e hj => ?_, fun j k ys zs a hj hk ej ek => ?_, S1.ext⟩
  · by_cases q : i = j
    · subst q
      by_cases hi : i < ρ.length
      · rw [List.getElem?_set_self hi] at hj; cases hj
      · rw [List.getElem?_eq_none (by simpa using hi)] at hj; cases hj
    · rw [List.getElem?_set_ne q] at hj ⊢
      exact S.slot j e hj
  · by_cases q : i = j
    · subst q
      by_cases hi : i < ρ.length
      · rw [List.getElem?_set_self hi] at hj
        cases hj
        exact ⟨p, vs, by rw [List.getElem?_set_self (by rw [← S.len]; exact hi)], upd_same, h, nF, nI, fun _ => hE⟩
      · rw [List.getElem?_eq_none (by simpa using hi)] at hj; cases hj
    · rw [List.getElem?_set_ne q] at hj ⊢
      exact S1.own j e hj
  · have lt : ∀ {j : Nat} {ys : List D}, (ρ.set i (.ol xs))[j]? = some (.ol ys) → j < ρ.length := fun {j ys} hj => by
      have := (List.getElem?_eq_some_iff.mp hj).1
      simpa using this
    have lj := lt hj
    have lk := lt hk
    by_cases q1 : i = j
    · by_cases q2 : i = k
      · exact q1.symm.trans q2
      · subst q1
        rw [List.getElem?_set_self (by rw [← S.len]; exact lj)] at ej
        cases ej
        rw [List.getElem?_set_ne q2] at hk ek
        exact absurd ek (oldne hk)
    · by_cases q2 : i = k
      · subst q2
        rw [List.getElem?_set_self (by rw [← S.len]; exact lk)] at ek
        cases ek
        rw [List.getElem?_set_ne q1] at hj ej
        exact absurd ej (oldne hj)
      · rw [List.getElem?_set_ne q1] at hj ej
        rw [List.getElem?_set_ne q2] at hk ek
        exact S.dis j k ys zs a hj hk ej ek
/-- an own list is changed -/
theorem Stt.writeO (hw : E.w = true) (S : Stt G E F ι μ ρ σ H) {i : Nat} {a : Addr} {xs ys : List D} {vs : List V} (hi : ρ[i]? = some (.ol xs)) (ha : σ[i]? = some (some (.ref a))) (h : IsAll G F ι ys vs) : Stt G E F ι μ (ρ.set i (.ol ys)) σ (upd H a (.lst vs)) := by
  obtain ⟨a', ws, h1, h2, h3, h4, h5, h6'⟩ := S.own i xs hi
  have h6 := h6' hw
  rw [ha] at h1
  cases h1
  have li : i < ρ.length := (List.getElem?_eq_some_iff.mp hi).1
  have nj : ∀ {j : Nat} {zs : List D}, i ≠ j → (ρ.set i (.ol ys))[j]? = some (.ol zs) → ρ[j]? = some (.ol zs) := fun {j zs} q hj => by rw [List.getElem?_set_ne q] at hj; exact hj
  refine ⟨⟨fun b u e => ?_, S.rep.nd, S.rep.off, ?_, tabs_upd S.rep.tab (.lst h2), S.rep.ftb⟩, by simpa using S.len, fun j e hj => ?_, fun j e hj => ?_, fun j k us zs b hj hk ej ek => ?_, ⟨S.ext.grow, fun b u e hb => ?_, fun b e => ?_, S.ext.newc, S.ext.newf, S.ext.ntE⟩⟩
  · rw [upd_ne (fun z => by rw [z, h4] at e; cases e)]; exact S.rep.sub b u e
  · exact paired_keep S.rep.cell fun c b hb r => r.keep (Grow.refl _ _) (upd_ne (fun z => h5 (z ▸ hb)))
  · by_cases q : i = j
    · subst q; rw [List.getElem?_set_self li] at hj; cases hj
    · rw [List.getElem?_set_ne q] at hj; exact S.slot j e hj
  · by_cases q : i = j
    · subst q; rw [List.getElem?_set_self li] at hj; cases hj
      exact ⟨a, vs, ha, upd_same, h, h4, h5, fun _ => h6⟩
    · have hj' := nj q hj
      obtain ⟨b, us, g1, g2, g3, g4, g5, g6⟩ := S.own j e hj'
      refine ⟨b, us, g1, ?_, g3, g4, g5, g6⟩
      have n : b ≠ a := fun z => q (S.dis i j _ _ a hi hj' ha (by rw [← z]; exact g1))
      rw [upd_ne n]; exact g2
  · have back : ∀ {j : Nat} {zs : List D}, (ρ.set i (.ol ys))[j]? = some (.ol zs) → ∃ zs', ρ[j]? = some (.ol zs') := fun {j zs} hj => by
      by_cases q : i = j
      · subst q; exact ⟨_, hi⟩
      · exact ⟨_, nj q hj⟩
    obtain ⟨_, hj'⟩ := back hj
    obtain ⟨_, hk'⟩ := back hk
    exact S.dis j k _ _ b hj' hk' ej ek
  · rw [upd_ne (fun z => by rw [z, h6] at e; cases e)]; exact S.ext.keep b u e hb
  · by_cases q : b = a
    · subst q; rw [nt_of (upd_same (o := HO.lst vs)) (fun _ z => HO.noConfusion z)] at e; cases e
    · refine S.ext.there b ?_; unfold nt at e ⊢; rw [upd_ne q] at e; exact e
/-- an own list becomes data -/
theorem Stt.freeze (hw : E.w = true) (S : Stt G E F ι μ ρ σ H) {i : Nat} {a : Addr} {xs : List D} (hi : ρ[i]? = some (.ol xs)) (ha : σ[i]? = some (some (.ref a))) :
    ∃ vs, H a = some (.lst vs) ∧ Grow F ι (upd F a (.lst vs)) ι ∧ Is G (upd F a (.lst vs)) ι (.lst xs) (.ref a) ∧ Stt G E (upd F a (.lst vs)) ι μ (ρ.set i (.v (.lst xs))) σ H := by
  obtain ⟨a', vs, h1, h2, h3, h4, h5, h6'⟩ := S.own i xs hi
  have h6 := h6' hw
  rw [ha] at h1
  cases h1
  have li : i < ρ.length := (List.getElem?_eq_some_iff.mp hi).1
  have g : Grow F ι (upd F a (.lst vs)) ι := ⟨fun b u e => by rw [upd_ne (fun z => by rw [z, h4] at e; cases e)]; exact e, List.prefix_rfl⟩
  have hd : Is G (upd F a (.lst vs)) ι (.lst xs) (.ref a) := .lst upd_same (h3.grow g)
  refine ⟨vs, h2, g, hd, ⟨⟨fun b u e => ?_, S.rep.nd, fun b hb => ?_, ?_, S.rep.tab, fun b u e => ?_⟩, by simpa using S.len, fun j e hj => ?_, fun j e hj => ?_, fun j k us zs b hj hk ej ek => ?_, ⟨S.ext.grow.trans g, S.ext.keep, S.ext.there, S.ext.newc, fun b u e nx => ?_, S.ext.ntE⟩⟩⟩
  · by_cases q : b = a
    · subst q; rw [upd_same] at e; cases e; exact h2
    · rw [upd_ne q] at e; exact S.rep.sub b u e
  · have n : b ≠ a := fun z => h5 (by rw [← z]; exact hb)
    rw [upd_ne n]; exact S.rep.off b hb
  · exact paired_imp S.rep.cell fun c b r => r.keep g rfl
  · by_cases q : b = a
    · subst q; rw [upd_same] at e; cases e; intro ps z; cases z
    · rw [upd_ne q] at e; exact S.rep.ftb b u e
  · by_cases q : i = j
    · subst q; rw [List.getElem?_set_self li] at hj; cases hj; exact ⟨_, ha, hd⟩
    · rw [List.getElem?_set_ne q] at hj
      obtain ⟨v, e1, e2⟩ := S.slot j e hj
      exact ⟨v, e1, e2.grow g⟩
  · by_cases q : i = j
    · subst q; rw [List.getElem?_set_self li] at hj; cases hj
    · rw [List.getElem?_set_ne q] at hj
      obtain ⟨b, us, g1, g2, g3, g4, g5, g6⟩ := S.own j e hj
      have n : b ≠ a := fun z => q (S.dis i j _ _ a hi hj ha (by rw [← z]; exact g1))
      exact ⟨b, us, g1, g2, g3.grow g, by rw [upd_ne n]; exact g4, g5, g6⟩
  · have nj : ∀ {j : Nat} {xs' : List D}, (ρ.set i (.v (.lst xs)))[j]? = some (.ol xs') → ρ[j]? = some (.ol xs') := fun {j xs'} hj => by
      by_cases q : i = j
      · subst q; rw [List.getElem?_set_self li] at hj; cases hj
      · rw [List.getElem?_set_ne q] at hj; exact hj
    exact S.dis j k us zs b (nj hj) (nj hk) ej ek
  · by_cases q : b = a
    · subst q; exact .inr h6
    · rw [upd_ne q] at e; exact S.ext.newf b u e nx
/-- a new list that no slot holds becomes data -/
theorem Stt.frzNew (S : Stt G E F ι μ ρ σ H) {p : Addr} {vs : List V} (hp : H p = some (.lst vs)) (hF : F p = none) (hI : p ∉ ι) (hE : E.H p = none)
    (hO : ∀ (i : Nat) (xs : List D), ρ[i]? = some (.ol xs) → σ[i]? ≠ some (some (.ref p))) : Grow F ι (upd F p (.lst vs)) ι ∧ Stt G E (upd F p (.lst vs)) ι μ ρ σ H := by
  have g : Grow F ι (upd F p (.lst vs)) ι := ⟨fun b u e => by
    have n : b ≠ p := fun z => by rw [z, hF] at e; cases e
    rw [upd_ne n]; exact e, List.prefix_rfl⟩
  refine ⟨g, ⟨⟨fun b u e => ?_, S.rep.nd, fun b hb => ?_, ?_, S.rep.tab, fun b u e => ?_⟩, S.len, fun j e hj => ?_, fun j e hj => ?_, S.dis, ⟨S.ext.grow.trans g, S.ext.keep, S.ext.there, S.ext.newc, fun b u e nx => ?_, S.ext.ntE⟩⟩⟩
  · by_cases q : b = p
    · subst q; rw [upd_same] at e; cases e; exact hp
    · rw [upd_ne q] at e; exact S.rep.sub b u e
  · have n : b ≠ p := fun z => hI (by rw [← z]; exact hb)
    rw [upd_ne n]; exact S.rep.off b hb
  · exact paired_imp S.rep.cell fun c b r => r.keep g rfl
  · by_cases q : b = p
    · subst q; rw [upd_same] at e; cases e; intro ps z; cases z
    · rw [upd_ne q] at e; exact S.rep.ftb b u e
  · obtain ⟨v, e1, e2⟩ := S.slot j e hj
    exact ⟨v, e1, e2.grow g⟩
  · obtain ⟨b, us, g1, g2, g3, g4, g5, g6⟩ := S.own j e hj
    have n : b ≠ p := fun z => hO j e hj (by rw [← z]; exact g1)
    exact ⟨b, us, g1, g2, g3.grow g, by rw [upd_ne n]; exact g4, g5, g6⟩
  · by_cases q : b = p
    · subst q; exact .inr hE
    · rw [upd_ne q] at e; exact S.ext.newf b u e nx
/-- the same state, entered here; its own lists are read alone -/
theorem Stt.here (S : Stt G E F ι μ ρ σ H) : Stt G ⟨ι, F, nt H, false⟩ F ι μ ρ σ H where
  rep := S.rep
  len := S.len
  slot := S.slot
  own := fun i xs e => by
    obtain ⟨a, vs, h1, h2, h3, h4, h5, _⟩ := S.own i xs e
    exact ⟨a, vs, h1, h2, h3, h4, h5, fun z => nomatch z⟩
  dis := S.dis
  ext := Ext.refl S.rep
/-- unset slots of a comprehension's block; of a def's start -/
theorem Stt.wipe1 (S : Stt G E F ι μ ρ σ H) (i : Nat) : Stt G E F ι μ (ρ.set i .un) (σ.set i none) H where
  rep := S.rep
  len := by simpa using S.len
  slot := fun j e hj => by
    by_cases q : i = j
    · subst q
      by_cases hi : i < ρ.length
      · rw [List.getElem?_set_self hi] at hj; cases hj
      · rw [List.getElem?_eq_none (by simpa using hi)] at hj; cases hj
    · rw [List.getElem?_set_ne q] at hj ⊢; exact S.slot j e hj
  own := fun j e hj => by
    by_cases q : i = j
    · subst q
      by_cases hi : i < ρ.length
      · rw [List.getElem?_set_self hi] at hj; cases hj
      · rw [List.getElem?_eq_none (by simpa using hi)] at hj; cases hj
    · rw [List.getElem?_set_ne q] at hj ⊢; exact S.own j e hj
  dis := fun j k xs ys a hj hk => by
    have nj : ∀ {j : Nat} {xs : List D}, (ρ.set i Sl.un)[j]? = some (.ol xs) → i ≠ j := fun {j xs} hj q => by
      subst q
      by_cases hi : i < ρ.length
      · rw [List.getElem?_set_self hi] at hj; cases hj
      · rw [List.getElem?_eq_none (by simpa using hi)] at hj; cases hj
    have q1 := nj hj
    have q2 := nj hk
    rw [List.getElem?_set_ne q1] at hj
    rw [List.getElem?_set_ne q2] at hk
    rw [List.getElem?_set_ne q1, List.getElem?_set_ne q2]
    exact S.dis j k xs ys a hj hk
  ext := S.ext
end
end PyI

set_option Elab.async false
set_option linter.all false
set_option maxRecDepth 100000
set_option maxHeartbeats 4000000
namespace PyI
open PySem PySem.Spec PyProof.Rows L2

/-! ### what an exception holds -/
structure ExV (G : GC) (F : Hp) (ι : List Addr) (c : Nat) (ds : List D) (cls : Value) (xd : Option Addr) (H : Hp) : Prop where
  cls : cls = .ref (G.ca c)
  dict : ∃ d fs, xd = some d ∧ H d = some (.xd fs) ∧ fs.map (·.1) = G.xf c ∧ IsAll G F ι ds (fs.map (·.2))

abbrev Ev := Sls → Mem → Out D
def IsK (k : Bool) (G : GC) (F : Hp) (ι : List Addr) (ρ : Sls) (σ : L2.St) (d : D) (v : V) : Prop := match k with
  | true => Is G F ι d v
  | false => IsV G F ι ρ σ d v
theorem IsK.v {k : Bool} {G : GC} {F : Hp} {ι : List Addr} {ρ : Sls} {σ : L2.St} {d : D} {v : V} (h : IsK k G F ι ρ σ d v) : IsV G F ι ρ σ d v := by
  cases k with
  | true => exact .inl h
  | false => exact h
theorem IsK.of {k : Bool} {G : GC} {F : Hp} {ι : List Addr} {ρ : Sls} {σ : L2.St} {d : D} {v : V} (h : Is G F ι d v) : IsK k G F ι ρ σ d v := by
  cases k with
  | true => exact h
  | false => exact .inl h
theorem IsK.grow {k : Bool} {G : GC} {F F' : Hp} {ι ι' : List Addr} {ρ : Sls} {σ : L2.St} {d : D} {v : V} (g : Grow F ι F' ι') (h : IsK k G F ι ρ σ d v) : IsK k G F' ι' ρ σ d v := by
  cases k with
  | true => exact Is.grow g h
  | false => exact IsV.grow g h
section
variable (G : GC) (E : Ent)
/-- what is wanted behind an expression's outcome; k: its value is data, no slot's own list -/
def OutE (k : Bool) (F : Hp) (ι : List Addr) (ρ : Sls) (σ : L2.St) (W : WX) (Q : VK) : Out D → Prop
  | .ok d μ' => ∀ F' ι' H' v, Stt G E F' ι' μ' ρ σ H' → Grow F ι F' ι' → IsK k G F' ι' ρ σ d v → Q v H'
  | .exc c ds μ' => ∀ F' ι' H' cls xd, Stt G E F' ι' μ' ρ σ H' → Grow F ι F' ι' → ExV G F' ι' c ds cls xd H' → W cls xd σ H'
  | .bad => False
def tE (k : Bool) (W : WX) (ev : Ev) : TE := fun σ H Q => ∃ F ι μ ρ, Stt G E F ι μ ρ σ H ∧ OutE G E k F ι ρ σ W Q (ev ρ μ)
end
/-- an expression does what ev tells -/
structure DE (G : GC) (X : Cx) (k : Bool) (e : Expr) (ev : Ev) : Prop where
  run : ∀ (E : Ent) (W : WX), Takes X W → PE X e (tE G E k W ev)

section
variable {G : GC} {E : Ent} {F F' : Hp} {ι ι' : List Addr} {μ μ' : Mem} {ρ : Sls} {σ : L2.St} {H H' : Hp} {W : WX} {Q : VK} {k : Bool}
theorem OutE.grow (g : Grow F ι F' ι') {o : Out D} (h : OutE G E k F ι ρ σ W Q o) : OutE G E k F' ι' ρ σ W Q o := by
  cases o with
  | ok d m => exact fun F'' ι'' H'' v S g' i => h F'' ι'' H'' v S (g.trans g') i
  | exc c ds m => exact fun F'' ι'' H'' cls xd S g' i => h F'' ι'' H'' cls xd S (g.trans g') i
  | bad => exact h
theorem OutE.val {d : D} {v : V} (h : OutE G E k F ι ρ σ W Q (.ok d μ)) (S : Stt G E F ι μ ρ σ H) (i : IsK k G F ι ρ σ d v) : Q v H := h F ι H v S (Grow.refl _ _) i
theorem OutE.tup {ds : List D} {vs : List V} (h : OutE G E k F ι ρ σ W Q (.ok (.tup ds) μ)) (S : Stt G E F ι μ ρ σ H) (i : IsAll G F ι ds vs) {p : Addr} (hp : H p = none) : Q (.ref p) (upd H p (.tup vs)) :=
  h _ ι _ _ (S.lay hp) (S.layGrow hp) (.of (.tup (SqT.of upd_same) (i.grow (S.layGrow hp))))
theorem OutE.lst {ds : List D} {vs : List V} (h : OutE G E k F ι ρ σ W Q (.ok (.lst ds) μ)) (S : Stt G E F ι μ ρ σ H) (i : IsAll G F ι ds vs) {p : Addr} (hp : H p = none) : Q (.ref p) (upd H p (.lst vs)) :=
  h _ ι _ _ (S.lay hp) (S.layGrow hp) (.of (.lst upd_same (i.grow (S.layGrow hp))))
/-- the step from one outcome to the next -/
theorem tE_bind {ev : Ev} {c : D → Mem → Out D} {Q' : VK} {k1 : Bool} {ρ : Sls} (S : Stt G E F ι μ ρ σ H) (h : OutE G E k F ι ρ σ W Q ((ev ρ μ).bind c))
    (next : ∀ F' ι' μ' H' d v, Stt G E F' ι' μ' ρ σ H' → Grow F ι F' ι' → IsK k1 G F' ι' ρ σ d v → ev ρ μ = .ok d μ' → OutE G E k F' ι' ρ σ W Q (c d μ') → Q' v H') : tE G E k1 W ev σ H Q' := by
  refine ⟨F, ι, μ, ρ, S, ?_⟩
  cases q : ev ρ μ with
  | ok d μ' =>
    rw [q] at h
    exact fun F' ι' H' v S' g i => next F' ι' μ' H' d v S' g i q (OutE.grow g h)
  | exc c ds μ' => rw [q] at h; exact h
  | bad => rw [q] at h; exact h
end

/-! ### the context of a def's body or of a comprehension's block -/
structure Cxt (G : GC) (n : Nat) (N : List Str) (sc : Scope) (X : Cx) (qc : Bool := true) : Prop where
  eP : X.prog = G.P
  ew : X.w = G.w
  eK : X.K = G.K
  emg : X.mg = G.mg
  eb : X.base = G.base
  eN : X.N = N
  esc : X.env.scope = sc
  clm : qc = true → X.calm = true
  rm : qc = true → Room n X.A
  unt : X.A.units + 64 < cLine
  gua : 100 ≤ n → X.A.guards = some []
  nd : N.Nodup
def visB (sc : Scope) (x : Str) : Bool := match sc.names.lookup x with
  | some .local => true | some .cell => true | some .free => true | _ => false
def gloB (sc : Scope) (x : Str) : Bool := match sc.names.lookup x with
  | some .globalImplicit => true | _ => false
theorem visB_ok {sc : Scope} {x : Str} (h : visB sc x = true) : Vis sc x := by
  unfold visB at h
  unfold Vis
  split at h <;> simp_all
section
variable {G : GC} {n : Nat} {N : List Str} {sc : Scope} {X : Cx} {qc : Bool}
theorem Cxt.room (c : Cxt G n N sc X) : Room n X.A := c.rm rfl
theorem Cxt.calm (c : Cxt G n N sc X) : X.calm = true := c.clm rfl
theorem Cxt.gl (c : Cxt G n N sc X qc) {x : Str} (h : gloB sc x = true) : Gl X x := by
  show X.env.scope.names.lookup x = some .globalImplicit
  rw [c.esc]
  unfold gloB at h
  split at h
  · assumption
  · cases h
theorem Cxt.vis (c : Cxt G n N sc X qc) {x : Str} (h : visB sc x = true) : Vis X.env.scope x := by rw [c.esc]; exact visB_ok h

/-! ### names, constants -/
def evV (i : Nat) : Ev := fun ρ μ => match ρ[i]? with
  | some (.v d) => .ok d μ
  | _ => .bad
def evO (i : Nat) : Ev := fun ρ μ => match ρ[i]? with
  | some (.ol xs) => .ok (.lst xs) μ
  | _ => .bad
def evC (d : D) : Ev := fun _ μ => .ok d μ
theorem de_var (c : Cxt G n N sc X qc) (i : Nat) {x : Str} {pos : Pos} (hN : N[i]? = some x := by rfl) (hv : visB sc x = true := by rfl) (hd : (x == ("__debug__" : Str)) = false := by decide) (hcd : (x == ("__classdict__" : Str)) = false := by decide) : DE G X true (.Name x pos) (evV i) := by
  refine ⟨fun E W _ => ⟨fun pins s σ H Q I h => ?_⟩⟩
  obtain ⟨F, ι, μ, ρ, S, o⟩ := h
  unfold evV at o
  split at o
  · next d e =>
    obtain ⟨v, e1, iv⟩ := S.slot i d e
    exact (pe_var (by rw [c.eN]; exact hN) (c.vis hv) hd hcd).run pins s σ H Q I ⟨v, e1, o.val S iv⟩
  · exact o.elim
theorem de_own (c : Cxt G n N sc X qc) (i : Nat) {x : Str} {pos : Pos} (hN : N[i]? = some x := by rfl) (hv : visB sc x = true := by rfl) (hd : (x == ("__debug__" : Str)) = false := by decide) (hcd : (x == ("__classdict__" : Str)) = false := by decide) : DE G X false (.Name x pos) (evO i) := by
  refine ⟨fun E W _ => ⟨fun pins s σ H Q I h => ?_⟩⟩
  obtain ⟨F, ι, μ, ρ, S, o⟩ := h
  unfold evO at o
  split at o
  · next xs e =>
    obtain ⟨a, vs, e1, _⟩ := S.own i xs e
    exact (pe_var (by rw [c.eN]; exact hN) (c.vis hv) hd hcd).run pins s σ H Q I ⟨.ref a, e1, o.val S (.inr ⟨i, xs, e, rfl, e1⟩)⟩
  · exact o.elim
theorem de_int {i : Int} {j pos} : DE G X true (.Constant (.int i) j pos) (evC (.int i)) := ⟨fun E W _ => ⟨fun pins s σ H Q I h => by
  obtain ⟨F, ι, μ, ρ, S, o⟩ := h
  exact pe_int.run pins s σ H Q I (o.val S (.int i))⟩⟩
theorem de_bl {b : Bool} {j pos} : DE G X true (.Constant (.bool b) j pos) (evC (.bl b)) := ⟨fun E W _ => ⟨fun pins s σ H Q I h => by
  obtain ⟨F, ι, μ, ρ, S, o⟩ := h
  exact pe_bl.run pins s σ H Q I (o.val S (.bl b))⟩⟩
theorem de_non {j pos} : DE G X true (.Constant .none j pos) (evC .non) := ⟨fun E W _ => ⟨fun pins s σ H Q I h => by
  obtain ⟨F, ι, μ, ρ, S, o⟩ := h
  exact pe_non.run pins s σ H Q I (o.val S .non)⟩⟩
theorem de_str {x : Str} {j pos} : DE G X true (.Constant (.str x) j pos) (evC (.str x)) := ⟨fun E W _ => ⟨fun pins s σ H Q I h => by
  obtain ⟨F, ι, μ, ρ, S, o⟩ := h
  exact pe_str.run pins s σ H Q I (o.val S (.str x))⟩⟩
/-- a module's name: a number, a text, a def, a class -/
def GloD (G : GC) (x : Str) (d : D) : Prop := ∃ (u : Value) (v : V), G.mg x = some u ∧ RelV v u ∧ ∀ F ι, Is G F ι d v
theorem de_glo (c : Cxt G n N sc X qc) {x : Str} {d : D} {pos : Pos} (g : GloD G x d) (hg : gloB sc x = true := by rfl) (hd : (x == ("__debug__" : Str)) = false := by decide) : DE G X true (.Name x pos) (evC d) := ⟨fun E W _ => ⟨fun pins s σ H Q I h => by
  obtain ⟨F, ι, μ, ρ, S, o⟩ := h
  obtain ⟨u, v, e, r, i⟩ := g
  exact (pe_glob (c.gl hg) (by rw [c.emg]; exact e) r hd).run pins s σ H Q I (o.val S (i F ι))⟩⟩

/-! ### two operands -/
def evOp (f : Mem → D → D → Option D) (ea eb : Ev) : Ev := fun ρ μ => (ea ρ μ).bind fun x μ1 => (eb ρ μ1).bind fun y μ2 => match f μ2 x y with
  | some d => .ok d μ2
  | none => .bad
/-- the values x, y hold such data, and what comes of them is wanted -/
def rD (G : GC) (E : Ent) (W : WX) (f : Mem → D → D → Option D) : R2 := fun x y H Q => ∃ F ι μ ρ σ dx dy d, Stt G E F ι μ ρ σ H ∧ IsV G F ι ρ σ dx x ∧ IsV G F ι ρ σ dy y ∧ f μ dx dy = some d ∧ OutE G E true F ι ρ σ W Q (.ok d μ)
theorem tE_op {E : Ent} {W : WX} {f : Mem → D → D → Option D} {ea eb : Ev} {k1 k2 : Bool} {σ : L2.St} {H : Hp} {Q : VK} (h : tE G E true W (evOp f ea eb) σ H Q) : tOp (rD G E W f) (tE G E k1 W ea) (tE G E k2 W eb) σ H Q := by
  obtain ⟨F, ι, μ, ρ, S, o⟩ := h
  refine tE_bind S o fun F1 ι1 μ1 H1 dx x S1 g1 i1 _ o1 => ?_
  refine tE_bind S1 o1 fun F2 ι2 μ2 H2 dy y S2 g2 i2 _ o2 => ?_
  cases q : f μ2 dx dy with
  | none => rw [q] at o2; exact o2.elim
  | some d =>
    rw [q] at o2
    exact ⟨F2, ι2, μ2, ρ, σ, dx, dy, d, S2, i1.v.grow g2, i2.v, q, o2⟩
theorem OpR.imp {f : Value → Value → Sem Value} {r r' : R2} (h : OpR X f r) (i : ∀ x y H Q, r' x y H Q → r x y H Q) : OpR X f r' := fun pins s σ H x y v u Q I rx ry q => h pins s σ H x y v u Q I rx ry (i x y H Q q)
theorem PE.imp {e : Expr} {t t' : TE} (h : PE X e t) (i : ∀ σ H Q, t' σ H Q → t σ H Q) : PE X e t' := ⟨fun pins s σ H Q I q => h.run pins s σ H Q I (i σ H Q q)⟩
theorem PT.imp {e : Expr} {t t' : TT} (h : PT X e t) (i : ∀ σ H Q, t' σ H Q → t σ H Q) : PT X e t' := ⟨fun pins s σ H Q I q => h.run pins s σ H Q I (i σ H Q q)⟩
theorem PSs.imp {e : List Stmt} {t t' : TS} (h : PSs X e t) (i : ∀ D σ H, t' D σ H → t D σ H) : PSs X e t' := ⟨fun pins s σ H D I q => h.run pins s σ H D I (i D σ H q)⟩
theorem PS.imp {e : Stmt} {t t' : TS} (h : PS X e t) (i : ∀ D σ H, t' D σ H → t D σ H) : PS X e t' := ⟨fun pins s σ H D I q => h.run pins s σ H D I (i D σ H q)⟩
theorem de_bin {a b : Expr} {op : Operator} {f : Mem → D → D → Option D} {ea eb : Ev} {k1 k2 : Bool} {pos : Pos} (ho : ∀ E W, OpR X (binaryOp op) (rD G E W f)) (ha : DE G X k1 a ea) (hb : DE G X k2 b eb) : DE G X true (.BinOp a op b pos) (evOp f ea eb) :=
  ⟨fun E W tk => PE.imp (pe_op (ho E W) (ha.run E W tk) (hb.run E W tk)) fun σ H Q h => tE_op h⟩
end

/-! ### sequences as they are read -/
section
variable {G : GC} {E : Ent} {F : Hp} {ι : List Addr} {μ : Mem} {ρ : Sls} {σ : L2.St} {H : Hp}
/-- a list: data, or a slot's own -/
theorem IsV.lst {ds : List D} {v : V} (S : Stt G E F ι μ ρ σ H) (h : IsV G F ι ρ σ (.lst ds) v) : ∃ a vs, v = .ref a ∧ H a = some (.lst vs) ∧ IsAll G F ι ds vs := by
  rcases h with h | ⟨i, xs, e, e2, e3⟩
  · cases h with
    | lst h hs => exact ⟨_, _, rfl, S.rep.sub _ _ h, hs⟩
  · cases e2
    obtain ⟨a, vs, h1, h2, h3, _⟩ := S.own i _ e
    rw [e3] at h1
    cases h1
    exact ⟨a, vs, rfl, h2, h3⟩
theorem IsV.tup {ds : List D} {v : V} (S : Stt G E F ι μ ρ σ H) (h : IsV G F ι ρ σ (.tup ds) v) : ∃ a vs, v = .ref a ∧ SqT G.K H a vs ∧ IsAll G F ι ds vs := by
  rcases h with h | ⟨i, xs, e, e2, e3⟩
  · cases h with
    | tup h hs => exact ⟨_, _, rfl, SqT.grow S.rep.sub h, hs⟩
  · cases e2
theorem IsV.int {i : Int} {v : V} (h : IsV G F ι ρ σ (.int i) v) : v = .int i := by
  rcases h with h | ⟨_, _, _, e2, _⟩
  · cases h; rfl
  · cases e2
theorem IsV.str {i : Str} {v : V} (h : IsV G F ι ρ σ (.str i) v) : v = .str i := by
  rcases h with h | ⟨_, _, _, e2, _⟩
  · cases h; rfl
  · cases e2
theorem IsV.bl {i : Bool} {v : V} (h : IsV G F ι ρ σ (.bl i) v) : v = .bl i := by
  rcases h with h | ⟨_, _, _, e2, _⟩
  · cases h; rfl
  · cases e2
theorem IsV.non {v : V} (h : IsV G F ι ρ σ .non v) : v = .non := by
  rcases h with h | ⟨_, _, _, e2, _⟩
  · cases h; rfl
  · cases e2
theorem IsV.data {d : D} {v : V} (h : IsV G F ι ρ σ d v) (hd : ∀ xs, d ≠ .lst xs) : Is G F ι d v := h.elim id fun ⟨_, xs, _, e, _⟩ => absurd e (hd xs)
/-- a cell's list -/
theorem Stt.cellL {l : Nat} {ds : List D} {v : V} (S : Stt G E F ι μ ρ σ H) (h : IsV G F ι ρ σ (.cell l) v) (e : μ[l]? = some (.lst ds)) : ∃ a vs, v = .ref a ∧ ι[l]? = some a ∧ H a = some (.lst vs) ∧ IsAll G F ι ds vs := by
  cases h.data (by intro xs z; cases z) with
  | cell hl =>
    obtain ⟨a, e1, r⟩ := paired_get S.rep.cell e
    rw [hl] at e1
    cases e1
    obtain ⟨vs, h1, h2⟩ := r
    exact ⟨_, vs, rfl, hl, h1, h2⟩
end

/-! ### arithmetic -/
section
variable {G : GC} {n : Nat} {N : List Str} {sc : Scope} {X : Cx} {qc : Bool}
def addD : D → D → Option D
  | .int a, .int b => some (.int (a + b))
  | .str a, .str b => if a.length + b.length ≤ sizeLine then some (.str (a ++ b)) else none
  | .tup a, .tup b => if a.length + b.length ≤ sizeLine then some (.tup (a ++ b)) else none
  | .lst a, .lst b => if a.length + b.length ≤ sizeLine then some (.lst (a ++ b)) else none
  | _, _ => none
def subD : D → D → Option D
  | .int a, .int b => some (.int (a - b))
  | _, _ => none
theorem op_addD (c : Cxt G n N sc X qc) (E : Ent) (W : WX) : OpR X (binaryOp .Add) (rD G E W fun _ => addD) := by
  refine OpR.imp (OpR.or (OpR.or op_add op_add_str) (OpR.or op_catA op_cat)) fun x y H Q h => ?_
  obtain ⟨F, ι, μ, ρ, σ, dx, dy, d, S, ix, iy, e, o⟩ := h
  simp only [addD] at e
  split at e
  · cases e
    rw [ix.int, iy.int]
    exact .inl (.inl ⟨_, _, rfl, rfl, o.val S (.int _)⟩)
  · split at e
    · cases e
      rw [ix.str, iy.str]
      exact .inl (.inr ⟨_, _, rfl, rfl, by assumption, o.val S (.str _)⟩)
    · cases e
  · split at e
    · next a b hz =>
      cases e
      obtain ⟨p, vs, rfl, h1, h2⟩ := ix.tup S
      obtain ⟨p', vs', rfl, h3, h4⟩ := iy.tup S
      have l1 := h2.length
      have l2 := h4.length
      refine .inr (.inl ⟨p, p', vs, vs', rfl, rfl, by rw [c.eK]; exact h1, by rw [c.eK]; exact h3, by omega, fun z => ?_, fun _ z => ?_, fun _ _ q hq => ?_⟩)
      · subst z
        cases h2
        exact o.val S (iy.data (by intro xs z; cases z))
      · subst z
        cases h4
        rw [List.append_nil] at o
        exact o.val S (ix.data (by intro xs z; cases z))
      · exact o.tup S (h2.append h4) hq
    · cases e
  · split at e
    · next a b hz =>
      cases e
      obtain ⟨p, vs, rfl, h1, h2⟩ := ix.lst S
      obtain ⟨p', vs', rfl, h3, h4⟩ := iy.lst S
      have l1 := h2.length
      have l2 := h4.length
      exact .inr (.inr ⟨p, p', vs, vs', rfl, rfl, h1, h3, by omega, fun q hq => o.lst S (h2.append h4) hq⟩)
    · cases e
  · cases e
theorem op_subD (E : Ent) (W : WX) : OpR X (binaryOp .Sub) (rD G E W fun _ => subD) := by
  refine OpR.imp op_sub fun x y H Q h => ?_
  obtain ⟨F, ι, μ, ρ, σ, dx, dy, d, S, ix, iy, e, o⟩ := h
  simp only [subD] at e
  split at e
  · cases e
    rw [ix.int, iy.int]
    exact ⟨_, _, rfl, rfl, o.val S (.int _)⟩
  · cases e
theorem de_add (c : Cxt G n N sc X qc) {a b : Expr} {ea eb : Ev} {k1 k2 : Bool} {pos : Pos} (ha : DE G X k1 a ea) (hb : DE G X k2 b eb) : DE G X true (.BinOp a .Add b pos) (evOp (fun _ => addD) ea eb) := de_bin (op_addD c) ha hb
theorem de_sub {a b : Expr} {ea eb : Ev} {k1 k2 : Bool} {pos : Pos} (ha : DE G X k1 a ea) (hb : DE G X k2 b eb) : DE G X true (.BinOp a .Sub b pos) (evOp (fun _ => subD) ea eb) := de_bin op_subD ha hb
end
end PyI

set_option Elab.async false
set_option linter.all false
set_option maxRecDepth 100000
set_option maxHeartbeats 4000000
namespace PyI
open PySem PySem.Spec PyProof.Rows L2

/-! ### what a value is as a sequence -/
/-- a tuple (true) or a list, and its items -/
def seqOf (μ : Mem) : D → Option (Bool × List D)
  | .tup xs => some (true, xs)
  | .lst xs => some (false, xs)
  | .scr xs => some (false, xs)
  | .cell l => match μ[l]? with
    | some (.lst xs) => some (false, xs)
    | _ => none
  | _ => none
section
variable {G : GC} {E : Ent} {F : Hp} {ι : List Addr} {μ : Mem} {ρ : Sls} {σ : L2.St} {H : Hp}
theorem seqOf_rep (S : Stt G E F ι μ ρ σ H) {d : D} {v : V} (h : IsV G F ι ρ σ d v) {b : Bool} {ds : List D} (e : seqOf μ d = some (b, ds)) :
    ∃ a vs, v = .ref a ∧ (b = true → SqT G.K H a vs) ∧ (b = false → SqL G.K H a vs) ∧ IsAll G F ι ds vs := by
  cases d with
  | tup xs =>
    cases e
    obtain ⟨a, vs, h1, h2, h3⟩ := h.tup S
    exact ⟨a, vs, h1, fun _ => h2, (fun z => nomatch z), h3⟩
  | lst xs =>
    cases e
    obtain ⟨a, vs, h1, h2, h3⟩ := h.lst S
    exact ⟨a, vs, h1, (fun z => nomatch z), fun _ => .of h2, h3⟩
  | scr xs =>
    cases e
    cases h.data (by intro xs z; cases z) with
    | scr h1 h2 => exact ⟨_, _, rfl, (fun z => nomatch z), fun _ => SqL.grow S.rep.sub h1, h2⟩
  | cell l =>
    simp only [seqOf] at e
    split at e
    · next xs q =>
      cases e
      obtain ⟨a, vs, h1, _, h2, h3⟩ := S.cellL h q
      exact ⟨a, vs, h1, (fun z => nomatch z), fun _ => .of h2, h3⟩
    · cases e
  | _ => cases e
end

/-! ### data for == -/
mutual
def toPy : D → Option PyData
  | .non => some .none
  | .bl b => some (.bool b)
  | .int i => some (.int i)
  | .str x => some (.str x)
  | .tup xs => (toPys xs).map .tuple
  | .lst xs => (toPys xs).map .list
  | .scr xs => (toPys xs).map .list
  | .cell _ => none
  | .fn _ => none
  | .cls _ => none
  | .exn _ _ _ _ => none
def toPys : List D → Option (List PyData)
  | [] => some []
  | d :: ds => match toPy d, toPys ds with
    | some p, some ps => some (p :: ps)
    | _, _ => none
end
/-- a cell's list is looked into -/
def pyOf (μ : Mem) (d : D) : Option PyData := match d with
  | .cell l => (match μ[l]? with
    | some (.lst xs) => (toPys xs).map .list
    | _ => none)
  | d => toPy d
section
variable {G : GC} {E : Ent} {F : Hp} {ι : List Addr} {μ : Mem} {ρ : Sls} {σ : L2.St} {H : Hp}
mutual
theorem toPy_dp (hs : ∀ a o, F a = some o → H a = some o) : ∀ (d : D) (v : V) (p : PyData), Is G F ι d v → toPy d = some p → Dp G.K H v p
  | .non, _, _, h, e => by cases h; cases e; exact .non
  | .bl b, _, _, h, e => by cases h; cases e; exact .bl b
  | .int i, _, _, h, e => by cases h; cases e; exact .int i
  | .str x, _, _, h, e => by cases h; cases e; exact .str x
  | .tup xs, _, _, h, e => by
    cases h with
    | tup h1 h2 =>
      simp only [toPy, Option.map_eq_some_iff] at e
      obtain ⟨ps, e1, e2⟩ := e
      subst e2
      exact .tup (SqT.grow hs h1) (toPys_dp hs xs _ _ h2 e1)
  | .lst xs, _, _, h, e => by
    cases h with
    | lst h1 h2 =>
      simp only [toPy, Option.map_eq_some_iff] at e
      obtain ⟨ps, e1, e2⟩ := e
      subst e2
      exact .lst (.of (hs _ _ h1)) (toPys_dp hs xs _ _ h2 e1)
  | .scr xs, _, _, h, e => by
    cases h with
    | scr h1 h2 =>
      simp only [toPy, Option.map_eq_some_iff] at e
      obtain ⟨ps, e1, e2⟩ := e
      subst e2
      exact .lst (SqL.grow hs h1) (toPys_dp hs xs _ _ h2 e1)
  | .cell _, _, _, _, e => by simp [toPy] at e
  | .fn _, _, _, _, e => by simp [toPy] at e
  | .cls _, _, _, _, e => by simp [toPy] at e
  | .exn _ _ _ _, _, _, _, e => by simp [toPy] at e
theorem toPys_dp (hs : ∀ a o, F a = some o → H a = some o) : ∀ (ds : List D) (vs : List V) (ps : List PyData), IsAll G F ι ds vs → toPys ds = some ps → DpAll G.K H vs ps
  | [], _, _, h, e => by cases h; cases e; exact .nil
  | d :: ds, _, _, h, e => by
    cases h with
    | cons h1 h2 =>
      simp only [toPys] at e
      cases e1 : toPy d with
      | none => rw [e1] at e; cases e
      | some p =>
        cases e2 : toPys ds with
        | none => rw [e1, e2] at e; cases e
        | some ps =>
          rw [e1, e2] at e
          cases e
          exact .cons (toPy_dp hs d _ _ h1 e1) (toPys_dp hs ds _ _ h2 e2)
end
theorem pyOf_dp (S : Stt G E F ι μ ρ σ H) {d : D} {v : V} (h : IsV G F ι ρ σ d v) {p : PyData} (e : pyOf μ d = some p) : Dp G.K H v p := by
  cases d with
  | cell l =>
    simp only [pyOf] at e
    split at e
    · next xs q =>
      obtain ⟨a, vs, h1, _, h2, h3⟩ := S.cellL h q
      subst h1
      simp only [Option.map_eq_some_iff] at e
      obtain ⟨ps, e1, e2⟩ := e
      subst e2
      exact .lst (.of h2) (toPys_dp S.rep.sub xs _ _ h3 e1)
    · cases e
  | lst xs =>
    simp only [pyOf, toPy, Option.map_eq_some_iff] at e
    obtain ⟨ps, e1, e2⟩ := e
    subst e2
    obtain ⟨a, vs, h1, h2, h3⟩ := h.lst S
    subst h1
    exact .lst (.of h2) (toPys_dp S.rep.sub xs _ _ h3 e1)
  | _ => exact toPy_dp S.rep.sub _ _ _ (h.data (by intro xs z; cases z)) e
end

/-! ### arithmetic -/
def mulD : D → D → Option D
  | .int a, .int b => if -(2 ^ 64) < a ∧ a < 2 ^ 64 ∨ -(2 ^ 64) < b ∧ b < 2 ^ 64 then some (.int (a * b)) else none
  | .lst xs, .int k => if -(2 ^ 63) ≤ k ∧ k < 2 ^ 63 ∧ xs.length * k.toNat ≤ sizeLine then some (.lst (List.replicate k.toNat xs).flatten) else none
  | .tup xs, .int k => if xs ≠ [] ∧ 2 ≤ k ∧ xs.length * k.toNat ≤ 1000000 then some (.tup (List.replicate k.toNat xs).flatten) else none
  | _, _ => none
def modD : D → D → Option D
  | .int a, .int b => if 0 < b then some (.int (a % b)) else none
  | _, _ => none
def fdivD : D → D → Option D
  | .int a, .int b => if 0 < b ∧ b < 1073741824 then some (.int (a / b)) else none
  | _, _ => none
def powD : D → D → Option D
  | .int a, .int b => if 0 ≤ b ∧ b ≤ 1000000 ∧ a.natAbs < 2 ^ 64 then some (.int (a ^ b.toNat)) else none
  | _, _ => none
section
variable {X : Cx}
/-- a tuple times a number, up to a million items -/
theorem op_repTW : OpR X (binaryOp .Mult) (fun x y H Q => ∃ l k xs, x = .ref l ∧ y = .int k ∧ SqT X.K H l xs ∧ xs ≠ [] ∧ 2 ≤ k ∧ xs.length * k.toNat ≤ 1000000 ∧ ∀ p, H p = none → Q (.ref p) (upd H p (.tup (List.replicate k.toNat xs).flatten))) := by
  intro pins s σ H x y v u Q I rx ry h
  obtain ⟨l, k, xs, rfl, rfl, hT, hne, hk, hm, q⟩ := h
  cases rx
  obtain ⟨t, rfl⟩ := ry
  obtain ⟨its, r, ⟨⟨cls, dd, data, sl⟩, ho, hc, n, hd⟩, hs⟩ := I.tuple hT
  simp only at hc hd
  subst hc hd
  have hl : its.length = xs.length := r.length.symm
  have hpos : 0 < its.length := by rw [hl]; exact List.length_pos_iff.mpr hne
  have hk2 : ((its.toArray.size : Nat) : Int) * k = ((its.length * k.toNat : Nat) : Int) := by
    rw [List.size_toArray, Int.natCast_mul, Int.toNat_of_nonneg (by omega)]
  have hmn : its.length * k.toNat ≤ 1000000 := by rw [hl]; exact hm
  have hkn : k.toNat ≤ 1000000 := Nat.le_trans (Nat.le_mul_of_pos_left _ hpos) hmn
  have hi : its.toArray.isEmpty = false := by
    cases its with
    | nil => simp at hpos
    | cons a b => rfl
  have flen : (List.replicate k.toNat its).flatten.length ≤ 1000000 := by rw [PyProof.Rows.lm_len_rep_flat, Nat.mul_comm]; exact hmn
  have g0 : (decide (k < -(2 ^ 63)) || decide (k ≥ 2 ^ 63)) = false := by
    have a1 : ¬ k < -(2 ^ 63) := by omega
    have a2 : ¬ k ≥ 2 ^ 63 := by omega
    simp only [decide_eq_false a1, decide_eq_false a2, Bool.or_false]
  have g1 : (its.toArray.isEmpty || k == 1) = false := by
    have a1 : (k == 1) = false := beq_eq_false_iff_ne.mpr (by omega)
    rw [hi, a1]; rfl
  have g2 : (decide (k ≤ 0) || its.toArray.isEmpty) = false := by
    have a1 : ¬ k ≤ 0 := by omega
    rw [hi, decide_eq_false a1]; rfl
  have g4 : Builtin.Tuple.tupleTooMany (((its.toArray.size : Nat) : Int) * k) = false := by
    unfold Builtin.Tuple.tupleTooMany
    rw [hk2, sizeLine_eq]
    exact decide_eq_false (by omega)
  have hz : (List.foldl (fun x1 x2 => x1 ++ x2) #[] (List.replicate k.toNat its.toArray)).size ≤ sizeLine := by
    rw [size_rep, List.size_toArray, sizeLine_eq]; omega
  have hT1 : s.TypeIs (.ref l) "tuple" := ⟨_, ho, rfl⟩
  have mul := tuple_mulW l its.toArray n dd sl k t g0 g1 g2 (by rw [hk2]; omega) g4 hz
  refine wpAny_binaryOp_repeat_ref (T := "tuple") (U := "int") (by decide) ⟨_, ho, rfl⟩ (fun s' => typeIs_int s' k t) noFill_tuple_mul F.fills_int_mul F.slot_int_rmul repeat_tuple F.slot_int_index.lookup
    (call_meets F.slot_int_rmul (typeIs_int s k t) F.entry_int_rmul (F.args_int_rmul_2 _ _) (int_rmul_tuple k t l its.toArray n dd sl) ⟨ho, rfl, hT1, call_meets F.slot_tuple_mul hT1 F.entry_tuple_mul (F.args_tuple_mul_2 _ _) mul ⟨ho, ?_⟩⟩)
  rw [size_rep]
  refine ⟨.ref s.heap.objs.size, _, I.laid (t' := s.toks) (o := .tup (List.replicate k.toNat xs).flatten) (fun b ob q => Heap.get?_push_of_some _ q) (Nat.le_refl _) ?_, rfl, q _ (I.hok.fresh (Nat.le_refl _))⟩
  exact ⟨by rw [PyProof.Rows.lm_len_rep_flat, ← hl, Nat.mul_comm, sizeLine_eq]; omega, _, r.rep k.toNat, IsTup.new _ _⟩
end
section
variable {G : GC} {n : Nat} {N : List Str} {sc : Scope} {X : Cx} {qc : Bool}
theorem op_mulD (c : Cxt G n N sc X qc) (E : Ent) (W : WX) : OpR X (binaryOp .Mult) (rD G E W fun _ => mulD) := by
  refine OpR.imp (OpR.or op_mul (OpR.or op_rep op_repTW)) fun x y H Q h => ?_
  obtain ⟨F, ι, μ, ρ, σ, dx, dy, d, S, ix, iy, e, o⟩ := h
  simp only [mulD] at e
  split at e
  · split at e
    · next hc =>
      cases e
      rw [ix.int, iy.int]
      exact .inl ⟨_, _, rfl, rfl, hc, o.val S (.int _)⟩
    · cases e
  · split at e
    · next hc =>
      cases e
      obtain ⟨p, vs, rfl, h1, h2⟩ := ix.lst S
      rw [iy.int]
      exact .inr (.inl ⟨p, _, vs, rfl, rfl, h1, hc.1, hc.2.1, by rw [← h2.length]; exact hc.2.2, fun q hq => o.lst S (h2.rep _) hq⟩)
    · cases e
  · split at e
    · next hc =>
      cases e
      obtain ⟨p, vs, rfl, h1, h2⟩ := ix.tup S
      rw [iy.int]
      refine .inr (.inr ⟨p, _, vs, rfl, rfl, by rw [c.eK]; exact h1, fun z => ?_, hc.2.1, by rw [← h2.length]; exact hc.2.2, fun q hq => o.tup S (h2.rep _) hq⟩)
      subst z
      cases h2
      exact hc.1 rfl
    · cases e
  · cases e
theorem op_modD (E : Ent) (W : WX) : OpR X (binaryOp .Mod) (rD G E W fun _ => modD) := by
  refine OpR.imp op_mod fun x y H Q h => ?_
  obtain ⟨F, ι, μ, ρ, σ, dx, dy, d, S, ix, iy, e, o⟩ := h
  simp only [modD] at e
  split at e
  · split at e
    · cases e
      rw [ix.int, iy.int]
      exact ⟨_, _, rfl, rfl, by assumption, o.val S (.int _)⟩
    · cases e
  · cases e
theorem op_fdivD (E : Ent) (W : WX) : OpR X (binaryOp .FloorDiv) (rD G E W fun _ => fdivD) := by
  refine OpR.imp op_fdiv fun x y H Q h => ?_
  obtain ⟨F, ι, μ, ρ, σ, dx, dy, d, S, ix, iy, e, o⟩ := h
  simp only [fdivD] at e
  split at e
  · split at e
    · cases e
      rw [ix.int, iy.int]
      exact ⟨_, _, rfl, rfl, by assumption, o.val S (.int _)⟩
    · cases e
  · cases e
theorem op_powD (E : Ent) (W : WX) : OpR X (binaryOp .Pow) (rD G E W fun _ => powD) := by
  refine OpR.imp op_pow fun x y H Q h => ?_
  obtain ⟨F, ι, μ, ρ, σ, dx, dy, d, S, ix, iy, e, o⟩ := h
  simp only [powD] at e
  split at e
  · split at e
    · cases e
      rw [ix.int, iy.int]
      exact ⟨_, _, rfl, rfl, by assumption, o.val S (.int _)⟩
    · cases e
  · cases e
end
end PyI

set_option Elab.async false
set_option linter.all false
set_option maxRecDepth 100000
set_option maxHeartbeats 4000000
namespace PyI
open PySem PySem.Spec PyProof.Rows L2

/-! ### comparisons -/
def eqP (μ : Mem) (x y : D) : Option Bool := match pyOf μ x, pyOf μ y with
  | some p, some q => if SeqAt.shaped p = true ∧ SeqAt.shaped q = true then some (PyData.eqv p q) else none
  | _, _ => none
def eqD (μ : Mem) (x y : D) : Option D := match x, y with
  | .str a, .str b => some (.bl (decide (a = b)))
  | x, y => (eqP μ x y).map .bl
def neD (μ : Mem) (x y : D) : Option D := match x, y with
  | .str a, .str b => some (.bl (!decide (a = b)))
  | x, y => (eqP μ x y).map fun b => .bl (!b)
def ordD (f : Int → Int → Bool) : D → D → Option D
  | .int a, .int b => some (.bl (f a b))
  | _, _ => none
def flatV? : D → Option V
  | .non => some .non | .bl b => some (.bl b) | .int i => some (.int i) | .str x => some (.str x) | _ => none
def flatVs : List D → Option (List V)
  | [] => some []
  | d :: ds => match flatV? d, flatVs ds with
    | some v, some vs => some (v :: vs)
    | _, _ => none
/-- in a list or tuple of flat things -/
def inD (neg : Bool) (μ : Mem) (x y : D) : Option D := match flatV? x, seqOf μ y with
  | some v, some (_, ds) => (match flatVs ds with
    | some vs => some (.bl (if neg = true then !inV v vs else inV v vs))
    | none => none)
  | _, _ => none
def isNone : D → Bool
  | .non => true | _ => false
/-- is None; is True -/
def isD (neg : Bool) (x y : D) : Option D := match x, y with
  | x, .non => some (.bl (if neg = true then !isNone x else isNone x))
  | .bl a, .bl b => some (.bl (if neg = true then !decide (a = b) else decide (a = b)))
  | _, _ => none
section
variable {G : GC} {n : Nat} {N : List Str} {sc : Scope} {X : Cx} {qc : Bool}
theorem flatV_is {F : Hp} {ι : List Addr} {d : D} {v w : V} (h : Is G F ι d v) (e : flatV? d = some w) : v = w ∧ flatV w = true := by
  cases h <;> first | (cases e; exact ⟨rfl, rfl⟩) | (simp [flatV?] at e)
theorem flatVs_is {F : Hp} {ι : List Addr} : ∀ {ds : List D} {vs ws : List V}, IsAll G F ι ds vs → flatVs ds = some ws → vs = ws ∧ ws.all flatV = true
  | [], _, _, h, e => by cases h; cases e; exact ⟨rfl, rfl⟩
  | d :: ds, _, _, h, e => by
    cases h with
    | cons h1 h2 =>
      simp only [flatVs] at e
      split at e
      · next v vs e1 e2 =>
        cases e
        obtain ⟨a, b⟩ := flatV_is h1 e1
        obtain ⟨a', b'⟩ := flatVs_is h2 e2
        subst a a'
        exact ⟨rfl, by simp [b, b']⟩
      · cases e
theorem isNone_is {F : Hp} {ι : List Addr} {d : D} {v : V} (h : Is G F ι d v) : decide (v = .non) = isNone d := by
  cases h <;> rfl
theorem isNone_isV {F : Hp} {ι : List Addr} {ρ : Sls} {σ : L2.St} {d : D} {v : V} {E : Ent} {μ : Mem} {H : Hp} (S : Stt G E F ι μ ρ σ H) (h : IsV G F ι ρ σ d v) : decide (v = .non) = isNone d := by
  rcases h with h | ⟨i, xs, e, e2, e3⟩
  · exact isNone_is h
  · subst e2
    obtain ⟨a, vs, h1, _⟩ := S.own i xs e
    rw [e3] at h1
    cases h1
    rfl
theorem eqP_dp {E : Ent} {F : Hp} {ι : List Addr} {μ : Mem} {ρ : Sls} {σ : L2.St} {H : Hp} {dx dy : D} {x y : V} {b : Bool} (c : Cxt G n N sc X qc) (S : Stt G E F ι μ ρ σ H) (ix : IsV G F ι ρ σ dx x) (iy : IsV G F ι ρ σ dy y) (e : eqP μ dx dy = some b) :
    ∃ p q, Dp X.K H x p ∧ Dp X.K H y q ∧ SeqAt.shaped p = true ∧ SeqAt.shaped q = true ∧ PyData.eqv p q = b := by
  unfold eqP at e
  split at e
  · next p q e1 e2 =>
    split at e
    · next hs =>
      cases e
      exact ⟨p, q, by rw [c.eK]; exact pyOf_dp S ix e1, by rw [c.eK]; exact pyOf_dp S iy e2, hs.1, hs.2, rfl⟩
    · cases e
  · cases e
theorem op_eqDD (c : Cxt G n N sc X qc) (E : Ent) (W : WX) : OpR X (compareOp .Eq) (rD G E W eqD) := by
  refine OpR.imp (OpR.or op_eq (op_eqD c.unt)) fun x y H Q h => ?_
  obtain ⟨F, ι, μ, ρ, σ, dx, dy, d, S, ix, iy, e, o⟩ := h
  unfold eqD at e
  split at e
  · next a b =>
    cases e
    rw [ix.str, iy.str]
    refine .inl ⟨rfl, ?_⟩
    have := o.val S (.bl _)
    rw [show decide (V.str a = V.str b) = decide (a = b) by simp]
    exact this
  · cases qq : eqP μ dx dy with
    | none => rw [qq] at e; cases e
    | some b =>
      rw [qq] at e
      cases e
      obtain ⟨p, q, h1, h2, h3, h4, rfl⟩ := eqP_dp c S ix iy qq
      exact .inr ⟨p, q, h1, h2, h3, h4, o.val S (.bl _)⟩
theorem op_neDD (c : Cxt G n N sc X qc) (E : Ent) (W : WX) : OpR X (compareOp .NotEq) (rD G E W neD) := by
  refine OpR.imp (OpR.or op_ne (op_neD c.unt)) fun x y H Q h => ?_
  obtain ⟨F, ι, μ, ρ, σ, dx, dy, d, S, ix, iy, e, o⟩ := h
  unfold neD at e
  split at e
  · next a b =>
    cases e
    rw [ix.str, iy.str]
    refine .inl ⟨rfl, ?_⟩
    have := o.val S (.bl _)
    rw [show decide (V.str a = V.str b) = decide (a = b) by simp]
    exact this
  · cases qq : eqP μ dx dy with
    | none => rw [qq] at e; cases e
    | some b =>
      rw [qq] at e
      cases e
      obtain ⟨p, q, h1, h2, h3, h4, rfl⟩ := eqP_dp c S ix iy qq
      exact .inr ⟨p, q, h1, h2, h3, h4, o.val S (.bl _)⟩
theorem op_ordD {op : CmpOp} {f : Int → Int → Bool} (h : OpR X (compareOp op) (rI0 fun i j => .bl (f i j))) (E : Ent) (W : WX) : OpR X (compareOp op) (rD G E W fun _ => ordD f) := by
  refine OpR.imp h fun x y H Q h => ?_
  obtain ⟨F, ι, μ, ρ, σ, dx, dy, d, S, ix, iy, e, o⟩ := h
  simp only [ordD] at e
  split at e
  · cases e
    rw [ix.int, iy.int]
    exact ⟨_, _, rfl, rfl, o.val S (.bl _)⟩
  · cases e
theorem rIn_of (c : Cxt G n N sc X qc) {neg : Bool} {E : Ent} {W : WX} {x y : V} {H : Hp} {Q : VK} (h : rD G E W (inD neg) x y H Q) : rIn X.K neg x y H Q := by
  obtain ⟨F, ι, μ, ρ, σ, dx, dy, d, S, ix, iy, e, o⟩ := h
  simp only [inD] at e
  split at e
  · next v b ds e1 e2 =>
    split at e
    · next vs e3 =>
      cases e
      obtain ⟨a, ws, h1, h2, h3, h4⟩ := seqOf_rep S iy e2
      obtain ⟨q1, q2⟩ := flatVs_is h4 e3
      have hx : Is G F ι dx x := ix.data (by intro xs z; subst z; cases e1)
      obtain ⟨q3, q4⟩ := flatV_is hx e1
      subst q1 q3
      refine ⟨a, ws, h1, ?_, q4, q2, ?_⟩
      · rw [c.eK]
        cases b with
        | true => exact .inr (h2 rfl)
        | false => exact .inl (h3 rfl)
      · have := o.val S (.bl _)
        cases neg <;> exact this
    · cases e
  · cases e
theorem op_inDD (c : Cxt G n N sc X qc) (E : Ent) (W : WX) : OpR X (compareOp .In) (rD G E W (inD false)) := OpR.imp op_in_seq fun x y H Q h => rIn_of c h
theorem op_ninDD (c : Cxt G n N sc X qc) (E : Ent) (W : WX) : OpR X (compareOp .NotIn) (rD G E W (inD true)) := OpR.imp op_notIn_seq fun x y H Q h => rIn_of c h
theorem op_isDD (E : Ent) (W : WX) : OpR X (compareOp .Is) (rD G E W fun _ => isD false) := by
  refine OpR.imp (OpR.or op_isN op_isBl) fun x y H Q h => ?_
  obtain ⟨F, ι, μ, ρ, σ, dx, dy, d, S, ix, iy, e, o⟩ := h
  simp only [isD] at e
  split at e
  · cases e
    rw [iy.non]
    refine .inl ⟨rfl, ?_⟩
    rw [isNone_isV S ix]
    exact o.val S (.bl _)
  · cases e
    rw [ix.bl, iy.bl]
    exact .inr ⟨_, _, rfl, rfl, o.val S (.bl _)⟩
  · cases e
theorem op_isnDD (E : Ent) (W : WX) : OpR X (compareOp .IsNot) (rD G E W fun _ => isD true) := by
  refine OpR.imp (OpR.or op_notN op_notBl) fun x y H Q h => ?_
  obtain ⟨F, ι, μ, ρ, σ, dx, dy, d, S, ix, iy, e, o⟩ := h
  simp only [isD] at e
  split at e
  · cases e
    rw [iy.non]
    refine .inl ⟨rfl, ?_⟩
    rw [isNone_isV S ix]
    exact o.val S (.bl _)
  · cases e
    rw [ix.bl, iy.bl]
    exact .inr ⟨_, _, rfl, rfl, o.val S (.bl _)⟩
  · cases e
/-- what a comparison's operator does -/
def cmpF : CmpOp → Mem → D → D → Option D
  | .Eq => eqD | .NotEq => neD
  | .Lt => fun _ => ordD fun i j => decide (i < j)
  | .LtE => fun _ => ordD fun i j => decide (i ≤ j)
  | .Gt => fun _ => ordD fun i j => decide (j < i)
  | .GtE => fun _ => ordD fun i j => decide (j ≤ i)
  | .In => inD false | .NotIn => inD true
  | .Is => fun _ => isD false | .IsNot => fun _ => isD true
theorem op_cmpD (c : Cxt G n N sc X qc) (op : CmpOp) (E : Ent) (W : WX) : OpR X (compareOp op) (rD G E W (cmpF op)) := by
  cases op with
  | Eq => exact op_eqDD c E W
  | NotEq => exact op_neDD c E W
  | Lt => exact op_ordD op_lt E W
  | LtE => exact op_ordD op_le E W
  | Gt => exact op_ordD op_gt E W
  | GtE => exact op_ordD op_ge E W
  | In => exact op_inDD c E W
  | NotIn => exact op_ninDD c E W
  | Is => exact op_isDD E W
  | IsNot => exact op_isnDD E W
theorem de_cmp (c : Cxt G n N sc X qc) {a b : Expr} {op : CmpOp} {ea eb : Ev} {k1 k2 : Bool} {pos : Pos} (ha : DE G X k1 a ea) (hb : DE G X k2 b eb) (hm : behindInMarks op b = false := by rfl) : DE G X true (.Compare a [op] [b] pos) (evOp (cmpF op) ea eb) :=
  ⟨fun E W tk => PE.imp (pe_cmpR (op_cmpD c op E W) (ha.run E W tk) (hb.run E W tk) hm) fun σ H Q h => tE_op h⟩
/-- what an operator of arithmetic does -/
def binF : Operator → D → D → Option D
  | .Add => addD | .Sub => subD | .Mult => mulD | .Mod => modD | .FloorDiv => fdivD | .Pow => powD
  | _ => fun _ _ => none
theorem op_binD (c : Cxt G n N sc X qc) (op : Operator) (E : Ent) (W : WX) : OpR X (binaryOp op) (rD G E W fun _ => binF op) := by
  have no : ∀ op, OpR X (binaryOp op) (rD G E W fun _ _ _ => none) := fun op pins s σ H x y v u Q I rx ry h => by
    obtain ⟨F, ι, μ, ρ, σ, dx, dy, d, S, ix, iy, e, o⟩ := h
    cases e
  cases op with
  | Add => exact op_addD c E W
  | Sub => exact op_subD E W
  | Mult => exact op_mulD c E W
  | Mod => exact op_modD E W
  | FloorDiv => exact op_fdivD E W
  | Pow => exact op_powD E W
  | _ => exact no _
theorem de_op (c : Cxt G n N sc X qc) {a b : Expr} {op : Operator} {ea eb : Ev} {k1 k2 : Bool} {pos : Pos} (ha : DE G X k1 a ea) (hb : DE G X k2 b eb) : DE G X true (.BinOp a op b pos) (evOp (fun _ => binF op) ea eb) := de_bin (op_binD c op) ha hb
def evNeg (ea : Ev) : Ev := fun ρ μ => (ea ρ μ).bind fun x μ1 => match x with
  | .int i => .ok (.int (-i)) μ1
  | _ => .bad
theorem de_neg {a : Expr} {ea : Ev} {k : Bool} {pos : Pos} (ha : DE G X k a ea) : DE G X true (.UnaryOp .USub a pos) (evNeg ea) :=
  ⟨fun E W tk => PE.imp (pe_un un_neg (ha.run E W tk)) fun σ H Q h => by
    obtain ⟨F, ι, μ, ρ, S, o⟩ := h
    refine tE_bind S o fun F1 ι1 μ1 H1 dx x S1 g1 i1 _ o1 => ?_
    split at o1
    · rw [i1.v.int]
      exact ⟨_, rfl, o1.val S1 (.int _)⟩
    · exact o1.elim⟩

/-! ### chains, and, or, not -/
def evChain (f g : Mem → D → D → Option D) (ea eb ec : Ev) : Ev := fun ρ μ => (ea ρ μ).bind fun x μ1 => (eb ρ μ1).bind fun y μ2 => match f μ2 x y with
  | some (.bl true) => (ec ρ μ2).bind fun z μ3 => (match g μ3 y z with
    | some (.bl b) => .ok (.bl b) μ3
    | _ => .bad)
  | some (.bl false) => .ok (.bl false) μ2
  | _ => .bad
theorem de_chain (c : Cxt G n N sc X qc) {a b d : Expr} {op op' : CmpOp} {ea eb ec : Ev} {k1 k2 k3 : Bool} {pos : Pos} (ha : DE G X k1 a ea) (hb : DE G X k2 b eb) (hc : DE G X k3 d ec)
    (hm : lastMarks [op, op'] [b, d] = false := by with_unfolding_all rfl) : DE G X true (.Compare a [op, op'] [b, d] pos) (evChain (cmpF op) (cmpF op') ea eb ec) :=
  ⟨fun E W tk => PE.imp (pe_chain (op_cmpD c op E W) (op_cmpD c op' E W) (ha.run E W tk) (hb.run E W tk) (hc.run E W tk) hm) fun σ H Q h => by
    obtain ⟨F, ι, μ, ρ, S, o⟩ := h
    refine tE_bind S o fun F1 ι1 μ1 H1 dx x S1 g1 i1 _ o1 => ?_
    refine tE_bind S1 o1 fun F2 ι2 μ2 H2 dy y S2 g2 i2 _ o2 => ?_
    split at o2
    · next e =>
      refine ⟨F2, ι2, μ2, ρ, σ, dx, dy, .bl true, S2, i1.v.grow g2, i2.v, e, fun F' ι' H' v S' g' iv => ⟨true, IsV.bl (IsK.v iv), ?_⟩⟩
      rw [if_pos rfl]
      refine tE_bind S' (OutE.grow g' o2) fun F3 ι3 μ3 H3 dz z S3 g3 i3 _ o3 => ?_
      split at o3
      · next b e3 => exact ⟨F3, ι3, μ3, ρ, σ, dy, dz, .bl b, S3, (i2.v.grow g').grow g3, i3.v, e3, o3⟩
      · exact o3.elim
    · next e =>
      refine ⟨F2, ι2, μ2, ρ, σ, dx, dy, .bl false, S2, i1.v.grow g2, i2.v, e, fun F' ι' H' v S' g' iv => ⟨false, IsV.bl (IsK.v iv), ?_⟩⟩
      rw [if_neg Bool.false_ne_true]
      exact (OutE.grow g' o2).val S' (.bl _)
    · exact o2.elim⟩
end
end PyI

set_option Elab.async false
set_option linter.all false
set_option maxRecDepth 100000
set_option maxHeartbeats 4000000
namespace PyI
open PySem PySem.Spec PyProof.Rows L2

/-! ### tests -/
section
variable (G : GC) (E : Ent)
def OutT (F : Hp) (ι : List Addr) (ρ : Sls) (σ : L2.St) (W : WX) (Q : Bool → Hp → Prop) : Out D → Prop
  | .ok (.bl b) μ' => ∀ F' ι' H', Stt G E F' ι' μ' ρ σ H' → Grow F ι F' ι' → Q b H'
  | .ok _ _ => False
  | .exc c ds μ' => ∀ F' ι' H' cls xd, Stt G E F' ι' μ' ρ σ H' → Grow F ι F' ι' → ExV G F' ι' c ds cls xd H' → W cls xd σ H'
  | .bad => False
def tT (W : WX) (ev : Ev) : TT := fun σ H Q => ∃ F ι μ ρ, Stt G E F ι μ ρ σ H ∧ OutT G E F ι ρ σ W Q (ev ρ μ)
end
structure DT (G : GC) (X : Cx) (e : Expr) (ev : Ev) : Prop where
  run : ∀ (E : Ent) (W : WX), Takes X W → PT X e (tT G E W ev)
structure DW (G : GC) (X : Cx) (e : Expr) (ev : Ev) : Prop where
  run : ∀ (E : Ent) (W : WX), Takes X W → PW X e (tT G E W ev)
def evAnd (ea eb : Ev) : Ev := fun ρ μ => (ea ρ μ).bind fun x μ1 => match x with
  | .bl true => eb ρ μ1
  | .bl false => .ok (.bl false) μ1
  | _ => .bad
def evOr (ea eb : Ev) : Ev := fun ρ μ => (ea ρ μ).bind fun x μ1 => match x with
  | .bl true => .ok (.bl true) μ1
  | .bl false => eb ρ μ1
  | _ => .bad
def evNot (ea : Ev) : Ev := fun ρ μ => (ea ρ μ).bind fun x μ1 => match x with
  | .bl b => .ok (.bl (!b)) μ1
  | _ => .bad
def evIte (ec ea eb : Ev) : Ev := fun ρ μ => (ec ρ μ).bind fun x μ1 => match x with
  | .bl true => ea ρ μ1
  | .bl false => eb ρ μ1
  | _ => .bad
section
variable {G : GC} {E : Ent} {F F' : Hp} {ι ι' : List Addr} {μ μ' : Mem} {ρ : Sls} {σ : L2.St} {H H' : Hp} {W : WX} {Q : Bool → Hp → Prop}
theorem OutT.grow (g : Grow F ι F' ι') {o : Out D} (h : OutT G E F ι ρ σ W Q o) : OutT G E F' ι' ρ σ W Q o := by
  cases o with
  | ok d m => cases d <;> first | exact h | exact fun F'' ι'' H'' S g' => h F'' ι'' H'' S (g.trans g')
  | exc c ds m => exact fun F'' ι'' H'' cls xd S g' i => h F'' ι'' H'' cls xd S (g.trans g') i
  | bad => exact h
/-- a test, then a test -/
theorem tT_bindT {ev : Ev} {c : D → Mem → Out D} {Q' : Bool → Hp → Prop} {ρ : Sls} (S : Stt G E F ι μ ρ σ H) (h : OutT G E F ι ρ σ W Q ((ev ρ μ).bind c)) (hc : ∀ d μ', (∀ b, d ≠ .bl b) → c d μ' = .bad)
    (next : ∀ F' ι' μ' H' b, Stt G E F' ι' μ' ρ σ H' → Grow F ι F' ι' → OutT G E F' ι' ρ σ W Q (c (.bl b) μ') → Q' b H') : tT G E W ev σ H Q' := by
  refine ⟨F, ι, μ, ρ, S, ?_⟩
  cases q : ev ρ μ with
  | ok d μ' =>
    rw [q] at h
    have h : OutT G E F ι ρ σ W Q (c d μ') := h
    cases d <;> first | exact fun F' ι' H' S' g => next F' ι' μ' H' _ S' g (OutT.grow g h) | (rw [hc _ _ (by intro b z; cases z)] at h; exact h)
  | exc c ds μ' => rw [q] at h; exact h
  | bad => rw [q] at h; exact h
/-- a test, then an expression -/
theorem tT_bindE {ev : Ev} {c : D → Mem → Out D} {k : Bool} {QE : VK} {Q' : Bool → Hp → Prop} {ρ : Sls} (S : Stt G E F ι μ ρ σ H) (h : OutE G E k F ι ρ σ W QE ((ev ρ μ).bind c)) (hc : ∀ d μ', (∀ b, d ≠ .bl b) → c d μ' = .bad)
    (next : ∀ F' ι' μ' H' b, Stt G E F' ι' μ' ρ σ H' → Grow F ι F' ι' → OutE G E k F' ι' ρ σ W QE (c (.bl b) μ') → Q' b H') : tT G E W ev σ H Q' := by
  refine ⟨F, ι, μ, ρ, S, ?_⟩
  cases q : ev ρ μ with
  | ok d μ' =>
    rw [q] at h
    have h : OutE G E k F ι ρ σ W QE (c d μ') := h
    cases d <;> first | exact fun F' ι' H' S' g => next F' ι' μ' H' _ S' g (OutE.grow g h) | (rw [hc _ _ (by intro b z; cases z)] at h; exact h)
  | exc c ds μ' => rw [q] at h; exact h
  | bad => rw [q] at h; exact h
/-- an expression, then a test -/
theorem tE_bindT {ev : Ev} {c : D → Mem → Out D} {k1 : Bool} {Q' : VK} {ρ : Sls} (S : Stt G E F ι μ ρ σ H) (h : OutT G E F ι ρ σ W Q ((ev ρ μ).bind c))
    (next : ∀ F' ι' μ' H' d v, Stt G E F' ι' μ' ρ σ H' → Grow F ι F' ι' → IsK k1 G F' ι' ρ σ d v → OutT G E F' ι' ρ σ W Q (c d μ') → Q' v H') : tE G E k1 W ev σ H Q' := by
  refine ⟨F, ι, μ, ρ, S, ?_⟩
  cases q : ev ρ μ with
  | ok d μ' => rw [q] at h; exact fun F' ι' H' v S' g iv => next F' ι' μ' H' d v S' g iv (OutT.grow g h)
  | exc c ds μ' => rw [q] at h; exact h
  | bad => rw [q] at h; exact h
end
section
variable {G : GC} {n : Nat} {N : List Str} {sc : Scope} {X : Cx} {qc : Bool} {a b : Expr} {ea eb ec : Ev} {k k1 k2 : Bool} {pos : Pos} {rest : List Expr}
theorem pe_test {e : Expr} {ev : Ev} {E : Ent} {W : WX} (h : PE X e (tE G E k W ev)) (he : ∀ whole, isTrue e X.env whole = (do let v ← whole; standAt e.pos; holding [v] (truthy v))) : PT X e (tT G E W ev) := by
  refine PT.imp (pt_val h he) fun σ H Q q => ?_
  obtain ⟨F, ι, μ, ρ, S, o⟩ := q
  show tE G E k W ev σ H _
  refine ⟨F, ι, μ, ρ, S, ?_⟩
  cases q : ev ρ μ with
  | ok d μ' =>
    rw [q] at o
    cases d <;> first | exact fun F' ι' H' v S' g iv => ⟨_, IsV.bl (IsK.v iv), o F' ι' H' S' g⟩ | exact o.elim
  | exc c ds μ' => rw [q] at o; exact o
  | bad => rw [q] at o; exact o
theorem dt_val {e : Expr} {ev : Ev} (h : DE G X k e ev) (he : ∀ whole, isTrue e X.env whole = (do let v ← whole; standAt e.pos; holding [v] (truthy v)) := by intro _; rfl) : DT G X e ev := ⟨fun E W tk => pe_test (h.run E W tk) he⟩
theorem tTest_of {E : Ent} {W : WX} {ev : Ev} {t : TE} (h : ∀ σ H Q, tE G E true W ev σ H Q → t σ H Q) : ∀ σ H Q, tT G E W ev σ H Q → tTest t σ H Q := fun σ H Q ⟨F, ι, μ, ρ, S, o⟩ => by
  refine h σ H _ ⟨F, ι, μ, ρ, S, ?_⟩
  cases q : ev ρ μ with
  | ok d μ' =>
    rw [q] at o
    cases d <;> first | exact fun F' ι' H' v S' g iv => ⟨_, IsV.bl (IsK.v iv), o F' ι' H' S' g⟩ | exact o.elim
  | exc c ds μ' => rw [q] at o; exact o
  | bad => rw [q] at o; exact o
theorem dt_cmp (c : Cxt G n N sc X qc) {op : CmpOp} (ha : DE G X k1 a ea) (hb : DE G X k2 b eb) (hm : behindInMarks op b = false := by rfl) : DT G X (.Compare a [op] [b] pos) (evOp (cmpF op) ea eb) :=
  ⟨fun E W tk => PT.imp (pt_cmpR (op_cmpD c op E W) (ha.run E W tk) (hb.run E W tk) hm) (tTest_of fun σ H Q h => tE_op h)⟩
theorem tChain_of (c : Cxt G n N sc X qc) {op op' : CmpOp} {E : Ent} {W : WX} {k1 k2 k3 : Bool} {σ : L2.St} {H : Hp} {Q : VK} (h : tE G E true W (evChain (cmpF op) (cmpF op') ea eb ec) σ H Q) :
    tChain (rD G E W (cmpF op)) (rD G E W (cmpF op')) (tE G E k1 W ea) (tE G E k2 W eb) (tE G E k3 W ec) σ H Q := by
    obtain ⟨F, ι, μ, ρ, S, o⟩ := h
    refine tE_bind S o fun F1 ι1 μ1 H1 dx x S1 g1 i1 _ o1 => ?_
    refine tE_bind S1 o1 fun F2 ι2 μ2 H2 dy y S2 g2 i2 _ o2 => ?_
    split at o2
    · next e =>
      refine ⟨F2, ι2, μ2, ρ, σ, dx, dy, .bl true, S2, i1.v.grow g2, i2.v, e, fun F' ι' H' v S' g' iv => ⟨true, IsV.bl (IsK.v iv), ?_⟩⟩
      rw [if_pos rfl]
      refine tE_bind S' (OutE.grow g' o2) fun F3 ι3 μ3 H3 dz z S3 g3 i3 _ o3 => ?_
      split at o3
      · next b e3 => exact ⟨F3, ι3, μ3, ρ, σ, dy, dz, .bl b, S3, (i2.v.grow g').grow g3, i3.v, e3, o3⟩
      · exact o3.elim
    · next e =>
      refine ⟨F2, ι2, μ2, ρ, σ, dx, dy, .bl false, S2, i1.v.grow g2, i2.v, e, fun F' ι' H' v S' g' iv => ⟨false, IsV.bl (IsK.v iv), ?_⟩⟩
      rw [if_neg Bool.false_ne_true]
      exact (OutE.grow g' o2).val S' (.bl _)
    · exact o2.elim
theorem dt_chain (c : Cxt G n N sc X qc) {d : Expr} {op op' : CmpOp} {k3 : Bool} (ha : DE G X k1 a ea) (hb : DE G X k2 b eb) (hc : DE G X k3 d ec)
    (hm : lastMarks [op, op'] [b, d] = false := by with_unfolding_all rfl) : DT G X (.Compare a [op, op'] [b, d] pos) (evChain (cmpF op) (cmpF op') ea eb ec) :=
  ⟨fun E W tk => PT.imp (pt_chain (op_cmpD c op E W) (op_cmpD c op' E W) (ha.run E W tk) (hb.run E W tk) (hc.run E W tk) hm) (tTest_of fun σ H Q h => tChain_of c h)⟩
theorem dt_not (ha : DT G X a ea) : DT G X (.UnaryOp .Not a pos) (evNot ea) := ⟨fun E W tk => PT.imp (pt_not (ha.run E W tk)) fun σ H Q h => by
  obtain ⟨F, ι, μ, ρ, S, o⟩ := h
  refine tT_bindT S o (fun d μ' hd => by cases d <;> first | rfl | exact absurd rfl (hd _)) fun F' ι' μ' H' b S' g o' => ?_
  exact o' F' ι' H' S' (Grow.refl _ _)⟩
theorem dw_and1 (ha : DT G X a ea) : DW G X (.BoolOp .And [a] pos) ea := ⟨fun E W tk => pw_and1 (ha.run E W tk)⟩
theorem dw_or1 (ha : DT G X a ea) : DW G X (.BoolOp .Or [a] pos) ea := ⟨fun E W tk => pw_or1 (ha.run E W tk)⟩
theorem PW.imp {e : Expr} {t t' : TT} (h : PW X e t) (i : ∀ σ H Q, t' σ H Q → t σ H Q) : PW X e t' := ⟨fun wh pins s σ H Q I q => h.run wh pins s σ H Q I (i σ H Q q)⟩
theorem dw_and (ha : DT G X a ea) (hb : DW G X (.BoolOp .And (b :: rest) pos) eb) : DW G X (.BoolOp .And (a :: b :: rest) pos) (evAnd ea eb) := ⟨fun E W tk => PW.imp (pw_and (ha.run E W tk) (hb.run E W tk)) fun σ H Q h => by
  obtain ⟨F, ι, μ, ρ, S, o⟩ := h
  refine tT_bindT S o (fun d μ' hd => by cases d <;> first | rfl | exact absurd rfl (hd _)) fun F' ι' μ' H' b S' g o' => ?_
  cases b with
  | true => rw [if_pos rfl]; exact ⟨F', ι', μ', ρ, S', o'⟩
  | false => rw [if_neg Bool.false_ne_true]; exact o' F' ι' H' S' (Grow.refl _ _)⟩
theorem dw_or (ha : DT G X a ea) (hb : DW G X (.BoolOp .Or (b :: rest) pos) eb) : DW G X (.BoolOp .Or (a :: b :: rest) pos) (evOr ea eb) := ⟨fun E W tk => PW.imp (pw_or (ha.run E W tk) (hb.run E W tk)) fun σ H Q h => by
  obtain ⟨F, ι, μ, ρ, S, o⟩ := h
  refine tT_bindT S o (fun d μ' hd => by cases d <;> first | rfl | exact absurd rfl (hd _)) fun F' ι' μ' H' b S' g o' => ?_
  cases b with
  | true => rw [if_pos rfl]; exact o' F' ι' H' S' (Grow.refl _ _)
  | false => rw [if_neg Bool.false_ne_true]; exact ⟨F', ι', μ', ρ, S', o'⟩⟩
theorem DW.t {e : Expr} {ev : Ev} (h : DW G X e ev) : DT G X e ev := ⟨fun E W tk => (h.run E W tk).pt⟩
/-- as values -/
theorem de_one {op} (h : DE G X k a ea) : DE G X k (.BoolOp op [a] pos) ea := ⟨fun E W tk => pe_one (h.run E W tk)⟩
theorem de_and (ha : DE G X k1 a ea) (hb : DE G X k2 (.BoolOp .And (b :: rest) pos) eb) : DE G X k2 (.BoolOp .And (a :: b :: rest) pos) (evAnd ea eb) := ⟨fun E W tk => PE.imp (pe_and (ha.run E W tk) (hb.run E W tk)) fun σ H Q h => by
  obtain ⟨F, ι, μ, ρ, S, o⟩ := h
  refine tE_bind S o fun F1 ι1 μ1 H1 dx x S1 g1 i1 _ o1 => ?_
  split at o1
  · exact ⟨true, i1.v.bl, by rw [if_pos rfl]; exact ⟨F1, ι1, μ1, ρ, S1, o1⟩⟩
  · exact ⟨false, i1.v.bl, by rw [if_neg Bool.false_ne_true]; exact o1.val S1 (.of (.bl _))⟩
  · exact o1.elim⟩
theorem de_or (ha : DE G X k1 a ea) (hb : DE G X k2 (.BoolOp .Or (b :: rest) pos) eb) : DE G X k2 (.BoolOp .Or (a :: b :: rest) pos) (evOr ea eb) := ⟨fun E W tk => PE.imp (pe_or (ha.run E W tk) (hb.run E W tk)) fun σ H Q h => by
  obtain ⟨F, ι, μ, ρ, S, o⟩ := h
  refine tE_bind S o fun F1 ι1 μ1 H1 dx x S1 g1 i1 _ o1 => ?_
  split at o1
  · exact ⟨true, i1.v.bl, by rw [if_pos rfl]; exact o1.val S1 (.of (.bl _))⟩
  · exact ⟨false, i1.v.bl, by rw [if_neg Bool.false_ne_true]; exact ⟨F1, ι1, μ1, ρ, S1, o1⟩⟩
  · exact o1.elim⟩
theorem de_not (ha : DE G X k1 a ea) : DE G X true (.UnaryOp .Not a pos) (evNot ea) := ⟨fun E W tk => PE.imp (pe_not (ha.run E W tk)) fun σ H Q h => by
  obtain ⟨F, ι, μ, ρ, S, o⟩ := h
  refine tE_bind S o fun F1 ι1 μ1 H1 dx x S1 g1 i1 _ o1 => ?_
  split at o1
  · exact ⟨_, i1.v.bl, o1.val S1 (.bl _)⟩
  · exact o1.elim⟩
theorem de_ite {c : Expr} (hc : DT G X c ec) (ha : DE G X k a ea) (hb : DE G X k b eb) : DE G X k (.IfExp c a b pos) (evIte ec ea eb) := ⟨fun E W tk => PE.imp (pe_ifExp (hc.run E W tk) (ha.run E W tk) (hb.run E W tk)) fun σ H Q h => by
  obtain ⟨F, ι, μ, ρ, S, o⟩ := h
  refine tT_bindE S o (fun d μ' hd => by cases d <;> first | rfl | exact absurd rfl (hd _)) fun F' ι' μ' H' b S' g o' => ?_
  cases b with
  | true => rw [if_pos rfl]; exact ⟨F', ι', μ', ρ, S', o'⟩
  | false => rw [if_neg Bool.false_ne_true]; exact ⟨F', ι', μ', ρ, S', o'⟩⟩
theorem DE.weak (h : DE G X true a ea) : DE G X false a ea := ⟨fun E W tk => PE.imp (h.run E W tk) fun σ H Q q => by
  obtain ⟨F, ι, μ, ρ, S, o⟩ := q
  refine ⟨F, ι, μ, ρ, S, ?_⟩
  cases q : ea ρ μ with
  | ok d μ' => rw [q] at o; exact fun F' ι' H' v S' g i => o F' ι' H' v S' g (.inl i)
  | exc c ds μ' => rw [q] at o; exact o
  | bad => rw [q] at o; exact o⟩
end
end PyI

set_option Elab.async false
set_option linter.all false
set_option maxRecDepth 100000
set_option maxHeartbeats 4000000
namespace PyI
open PySem PySem.Spec PyProof.Rows L2

/-! ### several expressions -/
abbrev EvL := Sls → Mem → Out (List D)
def IsKs (k : Bool) (G : GC) (F : Hp) (ι : List Addr) (ρ : Sls) (σ : L2.St) (ds : List D) (vs : List V) : Prop := Paired (IsK k G F ι ρ σ) ds vs
theorem IsKs.grow {k : Bool} {G : GC} {F F' : Hp} {ι ι' : List Addr} {ρ : Sls} {σ : L2.St} {ds : List D} {vs : List V} (g : Grow F ι F' ι') (h : IsKs k G F ι ρ σ ds vs) : IsKs k G F' ι' ρ σ ds vs := paired_imp h fun _ _ r => r.grow g
theorem IsKs.all {G : GC} {F : Hp} {ι : List Addr} {ρ : Sls} {σ : L2.St} {ds : List D} {vs : List V} (h : IsKs true G F ι ρ σ ds vs) : IsAll G F ι ds vs := by
  induction h with
  | nil => exact .nil
  | cons r _ ih => exact .cons r ih
section
variable (G : GC) (E : Ent)
def OutL (k : Bool) (F : Hp) (ι : List Addr) (ρ : Sls) (σ : L2.St) (W : WX) (Q : List V → Hp → Prop) : Out (List D) → Prop
  | .ok ds μ' => ∀ F' ι' H' vs, Stt G E F' ι' μ' ρ σ H' → Grow F ι F' ι' → IsKs k G F' ι' ρ σ ds vs → Q vs H'
  | .exc c ds μ' => ∀ F' ι' H' cls xd, Stt G E F' ι' μ' ρ σ H' → Grow F ι F' ι' → ExV G F' ι' c ds cls xd H' → W cls xd σ H'
  | .bad => False
def tL (k : Bool) (W : WX) (ev : EvL) : TA := fun σ H Q => ∃ F ι μ ρ, Stt G E F ι μ ρ σ H ∧ OutL G E k F ι ρ σ W Q (ev ρ μ)
end
structure DA (G : GC) (X : Cx) (k : Bool) (es : List Expr) (ev : EvL) : Prop where
  run : ∀ (E : Ent) (W : WX), Takes X W → PA X es (tL G E k W ev)
def evNil : EvL := fun _ μ => .ok [] μ
def evCons (ea : Ev) (er : EvL) : EvL := fun ρ μ => (ea ρ μ).bind fun d μ1 => (er ρ μ1).bind fun ds μ2 => .ok (d :: ds) μ2
section
variable {G : GC} {E : Ent} {F F' : Hp} {ι ι' : List Addr} {μ μ' : Mem} {ρ : Sls} {σ : L2.St} {H H' : Hp} {W : WX} {k : Bool}
theorem OutL.grow {Q : List V → Hp → Prop} (g : Grow F ι F' ι') {o : Out (List D)} (h : OutL G E k F ι ρ σ W Q o) : OutL G E k F' ι' ρ σ W Q o := by
  cases o with
  | ok d m => exact fun F'' ι'' H'' v S g' i => h F'' ι'' H'' v S (g.trans g') i
  | exc c ds m => exact fun F'' ι'' H'' cls xd S g' i => h F'' ι'' H'' cls xd S (g.trans g') i
  | bad => exact h
/-- the arguments, then an expression -/
theorem tL_bind {ev : EvL} {c : List D → Mem → Out D} {k1 : Bool} {Q : VK} {Q' : List V → Hp → Prop} {ρ : Sls} (S : Stt G E F ι μ ρ σ H) (h : OutE G E k F ι ρ σ W Q ((ev ρ μ).bind c))
    (next : ∀ F' ι' μ' H' ds vs, Stt G E F' ι' μ' ρ σ H' → Grow F ι F' ι' → IsKs k1 G F' ι' ρ σ ds vs → OutE G E k F' ι' ρ σ W Q (c ds μ') → Q' vs H') : tL G E k1 W ev σ H Q' := by
  refine ⟨F, ι, μ, ρ, S, ?_⟩
  cases q : ev ρ μ with
  | ok d μ' => rw [q] at h; exact fun F' ι' H' v S' g i => next F' ι' μ' H' d v S' g i (OutE.grow g h)
  | exc c ds μ' => rw [q] at h; exact h
  | bad => rw [q] at h; exact h
end
section
variable {G : GC} {n : Nat} {N : List Str} {sc : Scope} {X : Cx} {qc : Bool} {k k1 k2 : Bool} {pos : Pos}
theorem PA.imp {es : List Expr} {t t' : TA} (h : PA X es t) (i : ∀ σ H Q, t' σ H Q → t σ H Q) : PA X es t' := ⟨fun pos pins s σ H Q I q => h.run pos pins s σ H Q I (i σ H Q q)⟩
theorem da_nil : DA G X k [] evNil := ⟨fun E W tk => PA.imp pa_nil fun σ H Q h => by
  obtain ⟨F, ι, μ, ρ, S, o⟩ := h
  exact o F ι H [] S (Grow.refl _ _) .nil⟩
theorem da_cons {e : Expr} {es : List Expr} {ea : Ev} {er : EvL} (ha : DE G X k e ea) (hr : DA G X k es er) (hs : starEach (e :: es) X.env = (false, eval e X.env) :: starEach es X.env := by rfl) : DA G X k (e :: es) (evCons ea er) :=
  ⟨fun E W tk => PA.imp (pa_cons (ha.run E W tk) (hr.run E W tk) hs) fun σ H Q h => by
    obtain ⟨F, ι, μ, ρ, S, o⟩ := h
    refine ⟨F, ι, μ, ρ, S, ?_⟩
    simp only [evCons] at o
    cases q : ea ρ μ with
    | ok d μ1 =>
      rw [q] at o
      intro F1 ι1 H1 v S1 g1 i1
      refine ⟨F1, ι1, μ1, ρ, S1, ?_⟩
      have o : OutL G E k F ι ρ σ W Q ((er ρ μ1).bind fun ds μ2 => .ok (d :: ds) μ2) := o
      cases q2 : er ρ μ1 with
      | ok ds μ2 =>
        rw [q2] at o
        exact fun F2 ι2 H2 vs S2 g2 i2 => o F2 ι2 H2 (v :: vs) S2 (g1.trans g2) (.cons (i1.grow g2) i2)
      | exc c ds m => rw [q2] at o; exact fun F2 ι2 H2 cls xd S2 g2 i => o F2 ι2 H2 cls xd S2 (g1.trans g2) i
      | bad => rw [q2] at o; exact o
    | exc c ds m => rw [q] at o; exact o
    | bad => rw [q] at o; exact o⟩

/-! ### displays -/
def evTup (el : EvL) : Ev := fun ρ μ => (el ρ μ).bind fun ds μ1 => if ds.length ≤ sizeLine then .ok (.tup ds) μ1 else .bad
def evLst (el : EvL) : Ev := fun ρ μ => (el ρ μ).bind fun ds μ1 => if ds.length ≤ sizeLine then .ok (.lst ds) μ1 else .bad
/-- a list that will be changed: a cell -/
def evLstC (el : EvL) : Ev := fun ρ μ => (el ρ μ).bind fun ds μ1 => if ds.length ≤ sizeLine then .ok (.cell μ1.length) (μ1 ++ [.lst ds]) else .bad
theorem de_tup {es : List Expr} {el : EvL} {x1} (h : DA G X true es el) : DE G X true (.Tuple es x1 pos) (evTup el) := ⟨fun E W tk => PE.imp (pe_tup (h.run E W tk)) fun σ H Q h => by
  obtain ⟨F, ι, μ, ρ, S, o⟩ := h
  refine tL_bind S o fun F1 ι1 μ1 H1 ds vs S1 g1 i1 o1 => ?_
  split at o1
  · next hz => exact ⟨by rw [← i1.all.length]; exact hz, fun p hp => o1.tup S1 i1.all hp⟩
  · exact o1.elim⟩
theorem de_lst {es : List Expr} {el : EvL} (h : DA G X true es el) : DE G X true (.List es pos) (evLst el) := ⟨fun E W tk => PE.imp (pe_lst (h.run E W tk)) fun σ H Q h => by
  obtain ⟨F, ι, μ, ρ, S, o⟩ := h
  refine tL_bind S o fun F1 ι1 μ1 H1 ds vs S1 g1 i1 o1 => ?_
  split at o1
  · next hz => exact ⟨by rw [← i1.all.length]; exact hz, fun p hp => o1.lst S1 i1.all hp⟩
  · exact o1.elim⟩
theorem de_lstC {es : List Expr} {el : EvL} (h : DA G X true es el) : DE G X true (.List es pos) (evLstC el) := ⟨fun E W tk => PE.imp (pe_lst (h.run E W tk)) fun σ H Q h => by
  obtain ⟨F, ι, μ, ρ, S, o⟩ := h
  refine tL_bind S o fun F1 ι1 μ1 H1 ds vs S1 g1 i1 o1 => ?_
  split at o1
  · next hz =>
    refine ⟨by rw [← i1.all.length]; exact hz, fun p hp => ?_⟩
    have g2 : Grow F1 ι1 F1 (ι1 ++ [p]) := ⟨fun _ _ h => h, List.prefix_append _ _⟩
    have el : ι1.length = μ1.length := (Paired.length S1.rep.cell).symm
    exact o1 F1 (ι1 ++ [p]) _ _ (S1.layC hp ⟨vs, upd_same, i1.all.grow g2⟩) g2 (.cell (by rw [← el]; simp))
  · exact o1.elim⟩

/-! ### items, slices -/
def subscD (μ : Mem) (x y : D) : Option D := match seqOf μ x, y with
  | some (_, ds), .int i => atI ds i
  | _, _ => none
theorem atI_get {ds : List D} {vs : List V} {i : Int} {d : D} {F : Hp} {ι : List Addr} (h : IsAll G F ι ds vs) (e : atI ds i = some d) : ∃ v, atI vs i = some v ∧ Is G F ι d v := by
  unfold atI at e ⊢
  rw [h.length] at e
  cases q : ixN vs.length i with
  | none => rw [q] at e; cases e
  | some j => rw [q] at e; exact h.get e
theorem IxR.imp {r r' : R2} (h : IxR X r) (i : ∀ x y H Q, r' x y H Q → r x y H Q) : IxR X r' := fun va sl pins s σ H x y v u Q I rx ry q hp => h va sl pins s σ H x y v u Q I rx ry (i x y H Q q) hp
theorem ix_D (c : Cxt G n N sc X qc) (E : Ent) (W : WX) : IxR X (rD G E W subscD) := by
  refine IxR.imp (ix_list.or ix_tup) fun x y H Q h => ?_
  obtain ⟨F, ι, μ, ρ, σ, dx, dy, d, S, ix, iy, e, o⟩ := h
  simp only [subscD] at e
  split at e
  · next b ds i e1 =>
    obtain ⟨a, vs, h1, h2, h3, h4⟩ := seqOf_rep S ix e1
    obtain ⟨v, e2, iv⟩ := atI_get h4 e
    rw [iy.int]
    cases b with
    | false => exact .inl ⟨a, vs, _, v, h1, rfl, by rw [c.eK]; exact h3 rfl, e2, o.val S iv⟩
    | true => exact .inr ⟨a, vs, _, v, h1, rfl, by rw [c.eK]; exact h2 rfl, e2, o.val S iv⟩
  · cases e
theorem de_ix (c : Cxt G n N sc X qc) {a b : Expr} {ea eb : Ev} (ha : DE G X k1 a ea) (hb : DE G X k2 b eb) (hs : PlainIx b := by exact fun _ _ => rfl) : DE G X true (.Subscript a b pos) (evOp subscD ea eb) :=
  ⟨fun E W tk => PE.imp (pe_ix (ix_D c E W) (ha.run E W tk) (hb.run E W tk) hs) fun σ H Q h => tE_op h⟩
/-- xs[lo:hi] -/
def cutD (xs : List D) (lo hi : Option Int) : List D := (xs.drop (HT.sIx xs.length 0 lo)).take (HT.sIx xs.length xs.length hi - HT.sIx xs.length 0 lo)
def sliceD (μ : Mem) (x : D) (lo hi : Option Int) : Option D := match seqOf μ x with
  | some (true, ds) => some (.tup (cutD ds lo hi))
  | some (false, ds) => some (.lst (cutD ds lo hi))
  | none => none
abbrev EvO := Sls → Mem → Out (Option Int)
def evNo : EvO := fun _ μ => .ok none μ
def asInt : D → Mem → Out (Option Int)
  | .int i, m => .ok (some i) m
  | _, _ => .bad
def evSo (ea : Ev) : EvO := fun ρ μ => (ea ρ μ).bind asInt
def evSlice (ea : Ev) (el eh : EvO) : Ev := fun ρ μ => (ea ρ μ).bind fun x μ1 => (el ρ μ1).bind fun l μ2 => (eh ρ μ2).bind fun h μ3 => match sliceD μ3 x l h with
  | some d => .ok d μ3
  | none => .bad
section
variable (G : GC) (E : Ent)
def OutO (F : Hp) (ι : List Addr) (ρ : Sls) (σ : L2.St) (W : WX) (Q : Option Int → Hp → Prop) : Out (Option Int) → Prop
  | .ok o μ' => ∀ F' ι' H', Stt G E F' ι' μ' ρ σ H' → Grow F ι F' ι' → Q o H'
  | .exc c ds μ' => ∀ F' ι' H' cls xd, Stt G E F' ι' μ' ρ σ H' → Grow F ι F' ι' → ExV G F' ι' c ds cls xd H' → W cls xd σ H'
  | .bad => False
def tO (W : WX) (ev : EvO) : TO := fun σ H Q => ∃ F ι μ ρ, Stt G E F ι μ ρ σ H ∧ OutO G E F ι ρ σ W Q (ev ρ μ)
end
structure DO (G : GC) (X : Cx) (e : Option Expr) (ev : EvO) : Prop where
  run : ∀ (E : Ent) (W : WX), Takes X W → PO X e (tO G E W ev)
theorem PO.imp {e : Option Expr} {t t' : TO} (h : PO X e t) (i : ∀ σ H Q, t' σ H Q → t σ H Q) : PO X e t' := ⟨fun pins s σ H Q I q => h.run pins s σ H Q I (i σ H Q q)⟩
theorem do_no : DO G X none evNo := ⟨fun E W tk => PO.imp po_none fun σ H Q h => by
  obtain ⟨F, ι, μ, ρ, S, o⟩ := h
  exact o F ι H S (Grow.refl _ _)⟩
theorem do_some {e : Expr} {ea : Ev} (h : DE G X k e ea) : DO G X (some e) (evSo ea) := ⟨fun E W tk => PO.imp (po_some (h.run E W tk)) fun σ H Q h => by
  obtain ⟨F, ι, μ, ρ, S, o⟩ := h
  refine ⟨F, ι, μ, ρ, S, ?_⟩
  simp only [evSo] at o
  cases q : ea ρ μ with
  | ok d μ1 =>
    rw [q] at o
    have o : OutO G E F ι ρ σ W Q (asInt d μ1) := o
    cases d <;> first | exact fun F1 ι1 H1 v S1 g1 i1 => ⟨_, IsV.int (IsK.v i1), o F1 ι1 H1 S1 g1⟩ | exact o.elim
  | exc c ds m => rw [q] at o; exact o
  | bad => rw [q] at o; exact o⟩
theorem tO_bind {E : Ent} {W : WX} {F : Hp} {ι : List Addr} {μ : Mem} {σ : L2.St} {H : Hp} {ev : EvO} {c : Option Int → Mem → Out D} {Q : VK} {Q' : Option Int → Hp → Prop} {ρ : Sls} (S : Stt G E F ι μ ρ σ H) (h : OutE G E k F ι ρ σ W Q ((ev ρ μ).bind c))
    (next : ∀ F' ι' μ' H' o, Stt G E F' ι' μ' ρ σ H' → Grow F ι F' ι' → OutE G E k F' ι' ρ σ W Q (c o μ') → Q' o H') : tO G E W ev σ H Q' := by
  refine ⟨F, ι, μ, ρ, S, ?_⟩
  cases q : ev ρ μ with
  | ok d μ' => rw [q] at h; exact fun F' ι' H' S' g => next F' ι' μ' H' d S' g (OutE.grow g h)
  | exc c ds μ' => rw [q] at h; exact h
  | bad => rw [q] at h; exact h
theorem IsAll.cut {F : Hp} {ι : List Addr} {ds : List D} {vs : List V} (h : IsAll G F ι ds vs) (lo hi : Option Int) : IsAll G F ι (cutD ds lo hi) (cutV vs lo hi) := by
  unfold cutD cutV
  rw [h.length]
  exact (h.drop _).take _
theorem cutD_all {ds : List D} {lo hi : Option Int} {m : Nat} (hm : ds.length = m) (h1 : HT.sIx m 0 lo = 0) (h2 : HT.sIx m m hi = m) : cutD ds lo hi = ds := by
  subst hm
  unfold cutD
  rw [h1, h2]
  simp
theorem de_slice (c : Cxt G n N sc X qc) {a : Expr} {lo hi : Option Expr} {ea : Ev} {el eh : EvO} {p2 : Pos} (ha : DE G X k1 a ea) (hl : DO G X lo el) (hh : DO G X hi eh) : DE G X true (.Subscript a (.Slice lo hi none p2) pos) (evSlice ea el eh) :=
  ⟨fun E W tk => PE.imp (pe_slice (SlR.or sl_list sl_tupA) (ha.run E W tk) (hl.run E W tk) (hh.run E W tk)) fun σ H Q h => by
    obtain ⟨F, ι, μ, ρ, S, o⟩ := h
    refine tE_bind S o fun F1 ι1 μ1 H1 dx x S1 g1 i1 _ o1 => ?_
    refine tO_bind S1 o1 fun F2 ι2 μ2 H2 l S2 g2 o2 => ?_
    refine tO_bind S2 o2 fun F3 ι3 μ3 H3 u S3 g3 o3 => ?_
    have iv := (i1.v.grow g2).grow g3
    split at o3
    · next d e =>
      simp only [sliceD] at e
      split at e
      · next ds e1 =>
        cases e
        obtain ⟨p, vs, h1, h2, h3, h4⟩ := seqOf_rep S3 iv e1
        refine .inr ⟨p, vs, h1, by rw [c.eK]; exact h2 rfl, fun hw => ?_, fun _ q hq => o3.tup S3 (h4.cut l u) hq⟩
        rw [cutD_all h4.length hw.1 hw.2] at o3
        refine o3.val S3 ?_
        cases dx <;> first | (cases e1; subst h1; exact iv.data (by intro xs z; cases z)) | (simp only [seqOf] at e1; split at e1 <;> cases e1) | cases e1
      · next ds e1 =>
        cases e
        obtain ⟨p, vs, h1, h2, h3, h4⟩ := seqOf_rep S3 iv e1
        exact .inl ⟨p, vs, h1, by rw [c.eK]; exact h3 rfl, fun q hq => o3.lst S3 (h4.cut l u) hq⟩
      · cases e
    · exact o3.elim⟩
end
end PyI

set_option Elab.async false
set_option linter.all false
set_option maxRecDepth 100000
set_option maxHeartbeats 4000000
namespace PyI
open PySem PySem.Spec PyProof.Rows L2

/-! ### the call of a def -/
abbrev Fun := List D → Mem → Out D
/-- what a def promises: it does what fn tells -/
def SpD (G : GC) (m : Nat) (fn : Fun) : Sp := fun vs H Q E => ∃ F ι μ ds, Rep G F ι μ H ∧ IsAll G F ι ds vs ∧ ds.length = m ∧ match fn ds μ with
  | .ok d μ' => ∀ F' ι' H' v, Rep G F' ι' μ' H' → Ext ⟨ι, F, nt H, true⟩ F' ι' H' → Is G F' ι' d v → Q v H'
  | .exc c es μ' => ∀ F' ι' H' cls xd, Rep G F' ι' μ' H' → Ext ⟨ι, F, nt H, true⟩ F' ι' H' → ExV G F' ι' c es cls xd H' → E cls xd H'
  | .bad => False
/-- a def at f keeps the promise, called where no guard is on the stack -/
structure FnG (G : GC) (k : Nat) (f : Addr) (fd : FuncData) (ps : List Str) (fn : Fun) : Prop where
  run : ∀ (A : Around) (outer : List Env) (s : Shared) (H : Hp) (args : Args) (us : List Value) (vs : List V) (Q : VK) (E : XK), Room k A → (100 ≤ k → A.guards = some []) → Env0 G.P G.w G.K G.mg G.base A outer s H → BindsTo s fd args (ps.zip us) → Vals vs us → SpD G ps.length fn vs H Q E →
    codeAny (model G.P G.w) A (.call (.ref f) args) (CR (L2.CX G.P G.w) outer G.P G.w H s Q E) s
theorem FnG.mono {G : GC} {j k : Nat} {f : Addr} {fd : FuncData} {ps : List Str} {fn : Fun} (F : FnG G j f fd ps fn) (h : j ≤ k) : FnG G k f fd ps fn := ⟨fun A outer s H args us vs Q E hr hg => F.run A outer s H args us vs Q E (hr.mono h) fun z => hg (Nat.le_trans z h)⟩
/-- the parameters' values: of the arguments (positional, then keywords) by place, or None by default -/
def pick {α : Type} (z : α) (pm : List (Option Nat)) (as : List α) : List α := pm.map fun
  | some i => as.getD i z
  | none => z
def BndD (K : PySem.W.Frag) (fd : FuncData) (ps : List Str) (np : Nat) (ks : List Str) (pm : List (Option Nat)) : Prop :=
  pm.length = ps.length ∧ ∀ (s : Shared) (us ws : List Value), K.In s.heap → us.length = np → ws.length = ks.length → BindsTo s fd ⟨us, ks.zip ws⟩ (ps.zip (pick Value.none pm (us ++ ws)))
/-- a def of the text: where it stands, what it does, at level k -/
structure FnC (G : GC) (k : Nat) (i : Nat) (x : Str) (st : Stmt) (dvs : List V) (ps : List Str) (fn : Fun) : Prop where
  ex : ∃ fd, FunD G.K x x (defArgs st) (defBody st) (defScope st) dvs [] (G.fa i) fd ∧ FnG G k (G.fa i) fd ps fn ∧ G.mg x = some (.ref (G.fa i))
/-- binding: no defaults -/
theorem bnd_n {K : PySem.W.Frag} {x q : Str} {params : Arguments} {body : List Stmt} {scope : Scope} {f : Addr} {fd : FuncData} {ps ks : List Str} {np : Nat} {pm : List (Option Nat)} (F : FunD K x q params body scope [] [] f fd) (hl : pm.length = ps.length)
    (h : ∀ (kV doc m : Value) (an : Option Addr) (cdv ct : Value) (us ws : List Value), us.length = np → ws.length = ks.length → bindArgs (PySem.W.fnOf x q params body scope .none kV doc m an cdv ct) ⟨us, ks.zip ws⟩ = pure (ps.zip (pick Value.none pm (us ++ ws)))) : BndD K fd ps np ks pm := by
  obtain ⟨oc, od, dV, kV, doc, m, an, cdv, ct, osl, rfl, lk, hcd, hD, hK⟩ := F.ex
  rcases hD with ⟨_, rfl⟩ | ⟨e, _⟩
  · exact ⟨hl, fun s us ws _ h1 h2 => .of_eq (h kV doc m an cdv ct us ws h1 h2)⟩
  · exact absurd rfl e
/-- binding: the defaults are None -/
theorem bnd_d {K : PySem.W.Frag} {x q : Str} {params : Arguments} {body : List Stmt} {scope : Scope} {f : Addr} {fd : FuncData} {ps ks : List Str} {np r : Nat} {pm : List (Option Nat)} (F : FunD K x q params body scope (List.replicate (r + 1) V.non) [] f fd) (hl : pm.length = ps.length)
    (h : ∀ (T : Addr) (kV doc m : Value) (an : Option Addr) (cdv ct : Value) (us ws : List Value), us.length = np → ws.length = ks.length → ∃ k, bindArgs (PySem.W.fnOf x q params body scope (.ref T) kV doc m an cdv ct) ⟨us, ks.zip ws⟩ = seqItems? (.ref T) >>= k ∧ k (some (List.replicate (r + 1) Value.none).toArray) = pure (ps.zip (pick Value.none pm (us ++ ws)))) : BndD K fd ps np ks pm := by
  obtain ⟨oc, od, dV, kV, doc, m, an, cdv, ct, osl, rfl, lk, hcd, hD, hK⟩ := F.ex
  rcases hD with ⟨e, _⟩ | ⟨_, T, o, its, n, rfl, lT, oT, rT⟩
  · rw [List.replicate_succ] at e; cases e
  · have nones : ∀ (r : Nat) (its : List Value), Vals (List.replicate r V.non) its → its = List.replicate r Value.none := fun r => by
      induction r with
      | zero => intro its h; cases h; rfl
      | succ r ih =>
        intro its h
        rw [List.replicate_succ] at h
        cases h with
        | cons a t => rw [ih _ t, show _ = Value.none from a]; rfl
    have e := nones _ _ rT
    subst e
    refine ⟨hl, fun s us ws X h1 h2 => ?_⟩
    obtain ⟨k, e1, e2⟩ := h T kV doc m an cdv ct us ws h1 h2
    refine BindsTo.of_looks fun M => ?_
    rw [e1]
    exact looks_items X lT oT (.of_pure e2)
section
variable {G : GC} {n : Nat} {N : List Str} {sc : Scope} {X : Cx} {qc : Bool} {k k1 k2 : Bool} {pos : Pos}
theorem vals_pick : ∀ (pm : List (Option Nat)) {vs : List V} {us : List Value}, Vals vs us → Vals (pick V.non pm vs) (pick Value.none pm us)
  | [], _, _, _ => .nil
  | none :: pm, _, _, h => .cons rfl (vals_pick pm h)
  | some i :: pm, vs, us, h => by
    refine .cons ?_ (vals_pick pm h)
    show RelV (vs.getD i .non) (us.getD i .none)
    cases q : vs[i]? with
    | some v =>
      obtain ⟨u, e, r⟩ := h.get q
      rw [List.getD_eq_getElem?_getD, List.getD_eq_getElem?_getD, q, e]
      exact r
    | none =>
      rw [List.getD_eq_getElem?_getD, List.getD_eq_getElem?_getD, q, h.none_of q]
      rfl
theorem is_pick {F : Hp} {ι : List Addr} : ∀ (pm : List (Option Nat)) {ds : List D} {vs : List V}, IsAll G F ι ds vs → IsAll G F ι (pick D.non pm ds) (pick V.non pm vs)
  | [], _, _, _ => .nil
  | none :: pm, _, _, h => .cons .non (is_pick pm h)
  | some i :: pm, ds, vs, h => by
    refine .cons ?_ (is_pick pm h)
    show Is G F ι (ds.getD i .non) (vs.getD i .non)
    cases q : ds[i]? with
    | some d =>
      obtain ⟨v, e, r⟩ := h.get q
      rw [List.getD_eq_getElem?_getD, List.getD_eq_getElem?_getD, q, e]
      exact r
    | none =>
      have q2 : vs[i]? = none := by
        rw [List.getElem?_eq_none_iff] at q ⊢
        rw [← h.length]
        exact q
      rw [List.getD_eq_getElem?_getD, List.getD_eq_getElem?_getD, q, q2]
      exact .non
/-- the callee runs -/
theorem run_fnG {pins : List (Addr × Obj)} {σ : L2.St} {H : Hp} {s : Shared} {Q : VK} {W : WX} {us : List Value} {vs : List V} {kw : List (Str × Value)} {us' : List Value} {j : Nat} {f : Addr} {fd : FuncData} {ps : List Str} {fn : Fun} (c : Cxt G n N sc X) (F : FnG G j f fd ps fn) (hj : j ≤ n)
    (tk : Takes X W) (hb : BindsTo s fd ⟨us, kw⟩ (ps.zip us')) (I : Inv X pins σ H s) (r : Vals vs us') (h : SpD G ps.length fn vs H Q (WE W σ)) : wpAny (model X.prog X.w) X.A (call (.ref f) us kw) (EP X pins σ Q) X.xe s := by
  have e0 := I.env0
  rw [c.eP, c.ew, c.eK, c.emg, c.eb] at e0
  have hcode := F.run X.A X.stack s H ⟨us, kw⟩ us' vs Q (WE W σ) (c.room.mono hj) (fun z => c.gua (Nat.le_trans z hj)) e0 hb r h
  rw [← c.eP, ← c.ew] at hcode
  refine wpAny_call (codeAny_mono hcode fun r s' hq => ?_)
  cases r with
  | error e => exact passAt tk σ pins H s e s' I hq
  | ok fl =>
    cases fl with
    | ret u => exact I.after hq
    | next => exact False.elim hq
    | brk => exact False.elim hq
    | cont => exact False.elim hq
/-- what the promise asks, from what is wanted behind the call -/
theorem spD_of {E : Ent} {F : Hp} {ι : List Addr} {μ : Mem} {ρ : Sls} {σ : L2.St} {H : Hp} {W : WX} {Q : VK} {fn : Fun} {ds : List D} {vs : List V} {m : Nat} (S : Stt G E F ι μ ρ σ H) (i : IsAll G F ι ds vs) (hm : ds.length = m) (o : OutE G E true F ι ρ σ W Q (fn ds μ)) : SpD G m fn vs H Q (WE W σ) := by
  refine ⟨F, ι, μ, ds, S.rep, i, hm, ?_⟩
  cases q : fn ds μ with
  | ok d μ' => rw [q] at o; exact fun F' ι' H' v r x iv => o F' ι' H' v (S.call x r) x.grow iv
  | exc c es μ' => rw [q] at o; exact fun F' ι' H' cls xd r x xv => o F' ι' H' cls xd (S.call x r) x.grow xv
  | bad => rw [q] at o; exact o
def evCall (fn : Fun) (np nk : Nat) (pm : List (Option Nat)) (ea ek : EvL) : Ev := fun ρ μ => (ea ρ μ).bind fun ds μ1 => (ek ρ μ1).bind fun es μ2 => if ds.length = np ∧ es.length = nk then fn (pick .non pm (ds ++ es)) μ2 else .bad
/-- keywords' values -/
structure DK (G : GC) (X : Cx) (kws : List Keyword) (ev : EvL) : Prop where
  run : ∀ (E : Ent) (W : WX), Takes X W → PK X kws (tL G E true W ev)
theorem PK.imp {es : List Keyword} {t t' : TA} (h : PK X es t) (i : ∀ σ H Q, t' σ H Q → t σ H Q) : PK X es t' := ⟨fun pos pins s σ H Q I q => h.run pos pins s σ H Q I (i σ H Q q)⟩
theorem dk_nil : DK G X [] evNil := ⟨fun E W tk => PK.imp pk_nil fun σ H Q h => by
  obtain ⟨F, ι, μ, ρ, S, o⟩ := h
  exact o F ι H [] S (Grow.refl _ _) .nil⟩
theorem dk_cons {nm : Option Str} {e : Expr} {kpos : Pos} {kws : List Keyword} {ea : Ev} {er : EvL} (ha : DE G X true e ea) (hr : DK G X kws er) : DK G X (⟨nm, e, kpos⟩ :: kws) (evCons ea er) :=
  ⟨fun E W tk => PK.imp (pk_cons (ha.run E W tk) (hr.run E W tk)) fun σ H Q h => by
    obtain ⟨F, ι, μ, ρ, S, o⟩ := h
    refine ⟨F, ι, μ, ρ, S, ?_⟩
    simp only [evCons] at o
    cases q : ea ρ μ with
    | ok d μ1 =>
      rw [q] at o
      intro F1 ι1 H1 v S1 g1 i1
      refine ⟨F1, ι1, μ1, ρ, S1, ?_⟩
      have o : OutL G E true F ι ρ σ W Q ((er ρ μ1).bind fun ds μ2 => .ok (d :: ds) μ2) := o
      cases q2 : er ρ μ1 with
      | ok ds μ2 =>
        rw [q2] at o
        exact fun F2 ι2 H2 vs S2 g2 i2 => o F2 ι2 H2 (v :: vs) S2 (g1.trans g2) (.cons (i1.grow g2) i2)
      | exc c ds m => rw [q2] at o; exact fun F2 ι2 H2 cls xd S2 g2 i => o F2 ι2 H2 cls xd S2 (g1.trans g2) i
      | bad => rw [q2] at o; exact o
    | exc c ds m => rw [q] at o; exact o
    | bad => rw [q] at o; exact o⟩
theorem IsAll.ks {F : Hp} {ι : List Addr} {ρ : Sls} {σ : L2.St} {ds : List D} {vs : List V} : IsAll G F ι ds vs → IsKs true G F ι ρ σ ds vs
  | .nil => .nil
  | .cons r t => .cons r t.ks
/-- the arguments, then the call -/
theorem call_core (c : Cxt G n N sc X) {E : Ent} {W : WX} (tk : Takes X W) {j : Nat} {f : Addr} {fd : FuncData} {ps ks : List Str} {fn : Fun} {np : Nat} {pm : List (Option Nat)} {es : List Expr} {kws : List Keyword} {ea ek : EvL}
    (FG : FnG G j f fd ps fn) (hj : j ≤ n) (hb : BndD G.K fd ps np ks pm) (ha : DA G X true es ea) (hk : DK G X kws ek)
    {pins : List (Addr × Obj)} {s : Shared} {σ : L2.St} {H : Hp} {Q : VK} (I : L2.Inv X pins σ H s) (h : tE G E true W (evCall fn np ks.length pm ea ek) σ H Q) :
    wpAny (model X.prog X.w) X.A (spliced (backTo pos (starEach es X.env))) (fun us s1 => wpAny (model X.prog X.w) X.A (evalAll ((backToKw pos (keywordEach kws X.env)).map (·.2)))
      (fun ws s2 => X.K.In s2.heap ∧ wpAny (model X.prog X.w) X.A (call (.ref f) us (ks.zip ws)) (EP X pins σ Q) X.xe s2) X.xe s1) X.xe s := by
  obtain ⟨F0, ι, μ, ρ, S, o⟩ := h
  let Q1 : List V → Hp → Prop := fun vs H1 => ∃ F1 ι1 μ1 ds, Stt G E F1 ι1 μ1 ρ σ H1 ∧ IsKs true G F1 ι1 ρ σ ds vs ∧ OutE G E true F1 ι1 ρ σ W Q ((ek ρ μ1).bind fun es μ2 => if ds.length = np ∧ es.length = ks.length then fn (pick .non pm (ds ++ es)) μ2 else .bad)
  have t1 : tL G E true W ea σ H Q1 := tL_bind S o fun F1 ι1 μ1 H1 ds vs S1 g1 i1 o1 => ⟨F1, ι1, μ1, ds, S1, i1, o1⟩
  refine thn ((ha.run E W tk).run pos pins s σ H Q1 I t1) fun us s1 ⟨vs, H1, I1, r1, F1, ι1, μ1, ds, S1, i1, o1⟩ => ?_
  let Q2 : List V → Hp → Prop := fun zs H2 => SpD G ps.length fn (pick .non pm (vs ++ zs)) H2 Q (WE W σ) ∧ vs.length = np ∧ zs.length = ks.length
  have t2 : tL G E true W ek σ H1 Q2 := tL_bind S1 o1 fun F2 ι2 μ2 H2 es zs S2 g2 i2 o2 => by
    split at o2
    · next hl =>
      have ia := i1.all.grow g2
      refine ⟨spD_of S2 (is_pick pm (ia.append i2.all)) ?_ o2, ia.length.symm.trans hl.1, i2.all.length.symm.trans hl.2⟩
      unfold pick
      rw [List.length_map]
      exact hb.1
    · exact o2.elim
  refine thn ((hk.run E W tk).run pos pins s1 σ H1 Q2 I1 t2) fun ws s2 ⟨zs, H2, I2, r2, q, l1, l2⟩ => ⟨I2.kIn, ?_⟩
  have rr : Vals (vs ++ zs) (us ++ ws) := r1.append r2
  refine run_fnG c FG hj tk (hb.2 s2 us ws ?_ (r1.length.symm.trans l1) (r2.length.symm.trans l2)) I2 (vals_pick pm rr) q
  have := I2.kIn
  rw [c.eK] at this
  exact this
/-- f(e, .., k = v, ..) -/
theorem de_call (c : Cxt G n N sc X) {i j : Nat} {x : Str} {st : Stmt} {dvs : List V} {ps ks : List Str} {fn : Fun} {np : Nat} {pm : List (Option Nat)} {e : Expr} {es : List Expr} {kws : List Keyword} {ea ek : EvL} {p : Pos}
    (F : FnC G j i x st dvs ps fn) (hb : ∀ fd, FunD G.K x x (defArgs st) (defBody st) (defScope st) dvs [] (G.fa i) fd → BndD G.K fd ps np ks pm) (ha : DA G X true (e :: es) ea) (hk : DK G X kws ek) (hj : j ≤ n := by decide)
    (hg : gloB sc x = true := by rfl) (hall : (backToKw pos (keywordEach kws X.env)).all (·.1.isSome) = true := by rfl) (hks : (backToKw pos (keywordEach kws X.env)).filterMap (·.1) = ks := by rfl)
    (hd : (x == ("__debug__" : Str)) = false := by decide) (he : starEach (e :: es) X.env = (false, eval e X.env) :: starEach es X.env := by rfl)
    (hpl : ((backTo pos (starEach (e :: es) X.env)).any (·.1) || (backToKw pos (keywordEach kws X.env)).any (·.1.isNone)) = false := by rfl) : DE G X true (.Call (.Name x p) (e :: es) kws pos) (evCall fn np ks.length pm ea ek) := by
  refine ⟨fun E W tk => ⟨fun pins s σ H Q I h => ?_⟩⟩
  obtain ⟨fd, FD, FG, hm⟩ := F.ex
  refine wpAny_Call_Name_kw (ld_glob I (c.gl hg) (by rw [c.emg]; exact hm) ?_ hd)
  refine PySem.W.callWith_KW (h₀ := X.base) I.ok.mod.kin (by rw [c.eK]; exact FD.kp) hall ?_ hpl he
  rw [hks]
  exact call_core c tk FG hj (hb fd FD) ha hk I h
/-- f(k = v, ..), f() -/
theorem de_call0 (c : Cxt G n N sc X) {i j : Nat} {x : Str} {st : Stmt} {dvs : List V} {ps ks : List Str} {fn : Fun} {pm : List (Option Nat)} {kws : List Keyword} {ek : EvL} {p : Pos}
    (F : FnC G j i x st dvs ps fn) (hb : ∀ fd, FunD G.K x x (defArgs st) (defBody st) (defScope st) dvs [] (G.fa i) fd → BndD G.K fd ps 0 ks pm) (hk : DK G X kws ek) (hj : j ≤ n := by decide)
    (hg : gloB sc x = true := by rfl) (hall : (backToKw pos (keywordEach kws X.env)).all (·.1.isSome) = true := by rfl) (hks : (backToKw pos (keywordEach kws X.env)).filterMap (·.1) = ks := by rfl)
    (hd : (x == ("__debug__" : Str)) = false := by decide)
    (hpl : ((backTo pos (starEach [] X.env)).any (·.1) || (backToKw pos (keywordEach kws X.env)).any (·.1.isNone)) = false := by rfl) : DE G X true (.Call (.Name x p) [] kws pos) (evCall fn 0 ks.length pm evNil ek) := by
  refine ⟨fun E W tk => ⟨fun pins s σ H Q I h => ?_⟩⟩
  obtain ⟨fd, FD, FG, hm⟩ := F.ex
  refine wpAny_Call_Name_kw (ld_glob I (c.gl hg) (by rw [c.emg]; exact hm) ?_ hd)
  refine PySem.W.callWith_KW0 (h₀ := X.base) I.ok.mod.kin (by rw [c.eK]; exact FD.kp) hall ?_ hpl
  rw [hks]
  obtain ⟨F0, ι, μ, ρ, S, o⟩ := h
  let Q2 : List V → Hp → Prop := fun zs H2 => SpD G ps.length fn (pick .non pm zs) H2 Q (WE W σ) ∧ zs.length = ks.length
  have o : OutE G E true F0 ι ρ σ W Q ((ek ρ μ).bind fun es μ2 => if ([] : List D).length = 0 ∧ es.length = ks.length then fn (pick .non pm ([] ++ es)) μ2 else .bad) := o
  have t2 : tL G E true W ek σ H Q2 := tL_bind S o fun F2 ι2 μ2 H2 es zs S2 g2 i2 o2 => by
    split at o2
    · next hl =>
      refine ⟨spD_of S2 (is_pick pm i2.all) ?_ o2, i2.all.length.symm.trans hl.2⟩
      unfold pick
      rw [List.length_map]
      exact (hb fd FD).1
    · exact o2.elim
  refine thn ((hk.run E W tk).run pos pins s σ H Q2 I t2) fun ws s2 ⟨zs, H2, I2, r2, q, l2⟩ => ⟨I2.kIn, ?_⟩
  refine run_fnG c FG hj tk ((hb fd FD).2 s2 [] ws ?_ rfl (r2.length.symm.trans l2)) I2 (vals_pick pm r2) q
  have := I2.kIn
  rw [c.eK] at this
  exact this
end
end PyI

set_option Elab.async false
set_option linter.all false
set_option maxRecDepth 100000
set_option maxHeartbeats 4000000
namespace PyI
open PySem PySem.Spec PyProof.Rows L2

/-! ### built-in functions -/
def rL (G : GC) (E : Ent) (W : WX) (f : Mem → List D → Option D) : List V → Hp → VK → Prop := fun vs H Q => ∃ F ι μ ρ σ ds d, Stt G E F ι μ ρ σ H ∧ IsKs false G F ι ρ σ ds vs ∧ f μ ds = some d ∧ OutE G E true F ι ρ σ W Q (.ok d μ)
def evBi (f : Mem → List D → Option D) (el : EvL) : Ev := fun ρ μ => (el ρ μ).bind fun ds μ1 => match f μ1 ds with
  | some d => .ok d μ1
  | none => .bad
section
variable {G : GC} {n : Nat} {N : List Str} {sc : Scope} {X : Cx} {qc : Bool} {k k1 k2 : Bool} {pos : Pos}
theorem IsKs.weak {F : Hp} {ι : List Addr} {ρ : Sls} {σ : L2.St} {ds : List D} {vs : List V} (h : IsKs k G F ι ρ σ ds vs) : IsKs false G F ι ρ σ ds vs := paired_imp h fun _ _ r => r.v
theorem tE_bi {E : Ent} {W : WX} {f : Mem → List D → Option D} {el : EvL} {σ : L2.St} {H : Hp} {Q : VK} (h : tE G E true W (evBi f el) σ H Q) : tCB (rL G E W f) (tL G E k W el) σ H Q := by
  obtain ⟨F, ι, μ, ρ, S, o⟩ := h
  refine tL_bind S o fun F1 ι1 μ1 H1 ds vs S1 g1 i1 o1 => ?_
  split at o1
  · next d e => exact ⟨F1, ι1, μ1, ρ, σ, ds, d, S1, i1.weak, e, o1⟩
  · exact o1.elim
theorem de_bi (c : Cxt G n N sc X qc) {id : String} {x : Str} {p : Pos} {e : Expr} {es : List Expr} {f : Mem → List D → Option D} {el : EvL} (hc : ∀ E W, CallR X (.builtin id) (rL G E W f)) (hm : G.mg x = none) (hv : bootBuiltins x = some (.builtin id)) (ha : DA G X k (e :: es) el)
    (hg : gloB sc x = true := by rfl) (hn : x ≠ "__name__" := by decide) (hdb : (x == ("__debug__" : Str)) = false := by decide)
    (he : starEach (e :: es) X.env = (false, eval e X.env) :: starEach es X.env := by rfl) (hpl : (backTo pos (starEach es X.env)).any (·.1) = false := by rfl) : DE G X true (.Call (.Name x p) (e :: es) [] pos) (evBi f el) :=
  ⟨fun E W tk => PE.imp (pe_callB (hc E W) (c.gl hg) (by rw [c.emg]; exact hm) hv (ha.run E W tk) hn hdb he hpl) fun σ H Q h => tE_bi h⟩
theorem de_bt (c : Cxt G n N sc X qc) {T : String} {x : Str} {p : Pos} {e : Expr} {es : List Expr} {f : Mem → List D → Option D} {el : EvL} (hc : ∀ E W, CallR X (.type T) (rL G E W f)) (hm : G.mg x = none) (hv : bootBuiltins x = some (.type T)) (ha : DA G X k (e :: es) el)
    (hg : gloB sc x = true := by rfl) (hn : x ≠ "__name__" := by decide) (hdb : (x == ("__debug__" : Str)) = false := by decide)
    (he : starEach (e :: es) X.env = (false, eval e X.env) :: starEach es X.env := by rfl) (hpl : (backTo pos (starEach es X.env)).any (·.1) = false := by rfl) : DE G X true (.Call (.Name x p) (e :: es) [] pos) (evBi f el) :=
  ⟨fun E W tk => PE.imp (pe_callTy (hc E W) (c.gl hg) (by rw [c.emg]; exact hm) hv (ha.run E W tk) hn hdb he hpl) fun σ H Q h => tE_bi h⟩
theorem CallR.imp {f : Value} {r r' : List V → Hp → VK → Prop} (h : CallR X f r) (i : ∀ xs H Q, r' xs H Q → r xs H Q) : CallR X f r' := fun pins s σ H xs us Q I r q => h pins s σ H xs us Q I r (i xs H Q q)
theorem CallR.or {f : Value} {r r' : List V → Hp → VK → Prop} (h : CallR X f r) (h' : CallR X f r') : CallR X f (fun xs H Q => r xs H Q ∨ r' xs H Q) := fun pins s σ H xs us Q I rr q => q.elim (h pins s σ H xs us Q I rr) (h' pins s σ H xs us Q I rr)
theorem one_of {F : Hp} {ι : List Addr} {ρ : Sls} {σ : L2.St} {d : D} {vs : List V} (h : IsKs k G F ι ρ σ [d] vs) : ∃ v, vs = [v] ∧ IsK k G F ι ρ σ d v := by
  cases h with
  | cons r t => cases t; exact ⟨_, rfl, r⟩
theorem two_of {F : Hp} {ι : List Addr} {ρ : Sls} {σ : L2.St} {d e : D} {vs : List V} (h : IsKs k G F ι ρ σ [d, e] vs) : ∃ v u, vs = [v, u] ∧ IsK k G F ι ρ σ d v ∧ IsK k G F ι ρ σ e u := by
  cases h with
  | cons r t => cases t with
    | cons r' t => cases t; exact ⟨_, _, rfl, r, r'⟩

def lenD (μ : Mem) : List D → Option D
  | [.str x] => if x.length ≤ sizeLine then some (.int x.length) else none
  | [d] => match seqOf μ d with
    | some (_, ds) => some (.int ds.length)
    | none => none
  | _ => none
theorem call_lenD (c : Cxt G n N sc X qc) (E : Ent) (W : WX) : CallR X (.builtin "len") (rL G E W lenD) := by
  refine CallR.imp call_len fun xs H Q h => ?_
  obtain ⟨F, ι, μ, ρ, σ, ds, d, S, i, e, o⟩ := h
  have seqc : ∀ (x : D) (v : V), IsV G F ι ρ σ x v → ∀ r, seqOf μ x = some r → d = .int r.2.length → (∃ y m, [v] = [y] ∧ LenV X.K y H m ∧ Q (.int m) H) := fun x v iv r e1 e2 => by
    obtain ⟨b, ds'⟩ := r
    subst e2
    obtain ⟨a, vs, h1, h2, h3, h4⟩ := seqOf_rep S iv e1
    refine ⟨v, ds'.length, rfl, ?_, o.val S (.int _)⟩
    subst h1
    rw [h4.length, c.eK]
    cases b with
    | false => exact .inl ⟨vs, h3 rfl, rfl⟩
    | true => exact .inr ⟨vs, h2 rfl, rfl⟩
  unfold lenD at e
  split at e
  · split at e
    · next x hz =>
      cases e
      obtain ⟨v, rfl, iv⟩ := one_of i
      rw [IsV.str (IsK.v iv)]
      exact ⟨_, _, rfl, ⟨hz, rfl⟩, o.val S (.int _)⟩
    · cases e
  · split at e
    · next e1 =>
      cases e
      obtain ⟨v, rfl, iv⟩ := one_of i
      exact seqc _ v iv.v _ e1 rfl
    · cases e
  · cases e
def intD (_ : Mem) : List D → Option D
  | [.int i] => some (.int i)
  | [.bl b] => some (.int (if b then 1 else 0))
  | _ => none
theorem call_intD (E : Ent) (W : WX) : CallR X (.type "int") (rL G E W intD) := by
  refine CallR.imp call_int1 fun xs H Q h => ?_
  obtain ⟨F, ι, μ, ρ, σ, ds, d, S, i, e, o⟩ := h
  unfold intD at e
  split at e
  · cases e
    obtain ⟨v, rfl, iv⟩ := one_of i
    rw [IsV.int (IsK.v iv)]
    exact .inl ⟨_, rfl, o.val S (.int _)⟩
  · cases e
    obtain ⟨v, rfl, iv⟩ := one_of i
    rw [IsV.bl (IsK.v iv)]
    exact .inr ⟨_, rfl, o.val S (.int _)⟩
  · cases e
def absD (_ : Mem) : List D → Option D
  | [.int i] => some (.int (if i < 0 then -i else i))
  | _ => none
theorem call_absD (E : Ent) (W : WX) : CallR X (.builtin "abs") (rL G E W absD) := by
  refine CallR.imp call_abs fun xs H Q h => ?_
  obtain ⟨F, ι, μ, ρ, σ, ds, d, S, i, e, o⟩ := h
  unfold absD at e
  split at e
  · cases e
    obtain ⟨v, rfl, iv⟩ := one_of i
    rw [IsV.int (IsK.v iv)]
    exact ⟨_, rfl, o.val S (.int _)⟩
  · cases e
/-- tuple(x), list(x) of a list or a tuple -/
def tupleD (μ : Mem) : List D → Option D
  | [d] => match seqOf μ d with
    | some (_, ds) => some (.tup ds)
    | none => none
  | _ => none
theorem call_tupleD (c : Cxt G n N sc X qc) (E : Ent) (W : WX) : CallR X (.type "tuple") (rL G E W tupleD) := by
  refine CallR.imp call_tuple_of fun xs H Q h => ?_
  obtain ⟨F, ι, μ, ρ, σ, ds, d, S, i, e, o⟩ := h
  unfold tupleD at e
  split at e
  · next x =>
    split at e
    · next b ds' e1 =>
      cases e
      obtain ⟨v, rfl, iv⟩ := one_of i
      obtain ⟨a, vs, h1, h2, h3, h4⟩ := seqOf_rep S iv.v e1
      subst h1
      cases b with
      | false => exact ⟨a, vs, rfl, .inl ⟨by rw [c.eK]; exact h3 rfl, fun l hl => o.tup S h4 hl⟩⟩
      | true =>
        refine ⟨a, vs, rfl, .inr ⟨by rw [c.eK]; exact h2 rfl, o.val S ?_⟩⟩
        cases x <;> first | (cases e1; exact iv.v.data (by intro xs z; cases z)) | (simp only [seqOf] at e1; split at e1 <;> cases e1) | cases e1
    · cases e
  · cases e
def listD (μ : Mem) : List D → Option D
  | [d] => match seqOf μ d with
    | some (_, ds) => some (.lst ds)
    | none => none
  | _ => none
theorem call_listD' (c : Cxt G n N sc X qc) (E : Ent) (W : WX) : CallR X (.type "list") (rL G E W listD) := by
  refine CallR.imp call_list_of fun xs H Q h => ?_
  obtain ⟨F, ι, μ, ρ, σ, ds, d, S, i, e, o⟩ := h
  unfold listD at e
  split at e
  · next x =>
    split at e
    · next b ds' e1 =>
      cases e
      obtain ⟨v, rfl, iv⟩ := one_of i
      obtain ⟨a, vs, h1, h2, h3, h4⟩ := seqOf_rep S iv.v e1
      subst h1
      refine ⟨a, vs, rfl, ?_, fun l hl => o.lst S h4 hl⟩
      rw [c.eK]
      cases b with
      | false => exact .inl (h3 rfl)
      | true => exact .inr (h2 rfl)
    · cases e
  · cases e
def bools : List D → Option (List Bool)
  | [] => some []
  | .bl b :: ds => (bools ds).map (b :: ·)
  | _ :: _ => none
theorem bools_is {F : Hp} {ι : List Addr} : ∀ {ds : List D} {vs : List V} {bs : List Bool}, IsAll G F ι ds vs → bools ds = some bs → vs = bs.map V.bl
  | [], _, _, h, e => by cases h; cases e; rfl
  | d :: ds, _, _, h, e => by
    cases h with
    | cons h1 h2 =>
      cases h1 <;> simp only [bools] at e <;> try (cases e)
      rw [Option.map_eq_some_iff] at e
      obtain ⟨bs', e1, e2⟩ := e
      subst e2
      rw [bools_is h2 e1]
      rfl
/-- all(a list of truth values) -/
def allD (μ : Mem) : List D → Option D
  | [d] => match seqOf μ d with
    | some (false, ds) => (bools ds).map fun bs => .bl (bs.all id)
    | _ => none
  | _ => none
theorem call_allD (c : Cxt G n N sc X) (E : Ent) (W : WX) : CallR X (.builtin "all") (rL G E W allD) := by
  refine CallR.imp (cr_all c.calm) fun xs H Q h => ?_
  obtain ⟨F, ι, μ, ρ, σ, ds, d, S, i, e, o⟩ := h
  unfold allD at e
  split at e
  · next x =>
    split at e
    · next ds' e1 =>
      rw [Option.map_eq_some_iff] at e
      obtain ⟨bs, e2, e3⟩ := e
      subst e3
      obtain ⟨v, rfl, iv⟩ := one_of i
      obtain ⟨a, vs, h1, h2, h3, h4⟩ := seqOf_rep S iv.v e1
      subst h1
      have h3 := h3 rfl
      rw [bools_is h4 e2] at h3
      exact ⟨a, bs, rfl, by rw [c.eK]; exact h3, o.val S (.bl _)⟩
    · cases e
  · cases e
def divmodD (_ : Mem) : List D → Option D
  | [.int i, .int j] => if 0 < j ∧ j < 1073741824 then some (.tup [.int (i / j), .int (i % j)]) else none
  | _ => none
theorem call_divmodD (E : Ent) (W : WX) : CallR X (.builtin "divmod") (rL G E W divmodD) := by
  refine CallR.imp call_divmod fun xs H Q h => ?_
  obtain ⟨F, ι, μ, ρ, σ, ds, d, S, i, e, o⟩ := h
  unfold divmodD at e
  split at e
  · split at e
    · next hc =>
      cases e
      obtain ⟨v, u, rfl, iv, iu⟩ := two_of i
      rw [IsV.int (IsK.v iv), IsV.int (IsK.v iu)]
      exact ⟨_, _, rfl, hc, fun p hp => o.tup S (.cons (.int _) (.cons (.int _) .nil)) hp⟩
    · cases e
  · cases e
/-- repr -/
def reprD (μ : Mem) : List D → Option D
  | [d] => match pyOf μ d with
    | some p => if SeqAt.shaped p = true ∧ p.showable = true ∧ p.shown.length ≤ sizeLine ∧ p.hasDict = false then some (.str p.shown) else none
    | none => none
  | _ => none
theorem call_reprD (c : Cxt G n N sc X) (h100 : 100 ≤ n) (E : Ent) (W : WX) : CallR X (.builtin "repr") (rL G E W reprD) := by
  intro pins s σ' H xs us Q I rr h
  obtain ⟨F, ι, μ, ρ, σ, ds, d, S, i, e, o⟩ := h
  unfold reprD at e
  split at e
  · next x =>
    split at e
    · next p e1 =>
      split at e
      · next hp =>
        cases e
        obtain ⟨h1, h2, h3, h4⟩ := hp
        obtain ⟨v, rfl, iv⟩ := one_of i
        obtain ⟨u, rfl, ru⟩ := vals1 rr
        have hd := pyOf_dp S iv.v e1
        rw [← c.eK] at hd
        obtain ⟨as, rd⟩ := Dp.reads I p v u hd ru
        have q := o.val S (.str _)
        have fin : ∀ (h' : Heap) (t : Tok) (tk : Nat), (∀ b ob, s.heap.get? b = some ob → h'.get? b = some ob) → EP X pins σ' Q (.str p.shown t) { s with heap := h', toks := tk } := fun h' t tk hk => ⟨.str p.shown, H, I.kept (t' := tk) hk, ⟨t, rfl⟩, q⟩
        have self : EP X pins σ' Q (.str p.shown s.toks) { s with toks := s.toks + 1 } := fin s.heap _ _ fun _ _ e => e
        have hdep := SeqAt.depth_of_shaped h1
        have hun := c.room.un
        cases rd with
        | none => exact PySem.P.repr_of_none self
        | bool b => exact PySem.P.repr_of_bool self
        | int j t =>
          refine PySem.P.repr_of_int ?_ self
          simpa [PyData.showable] using h2
        | str y t => exact PySem.P.repr_of_str self h3
        | list g1 g2 g3 g4 => exact repr_of_reads' (.list g1 g2 g3 g4) h2 (fun z => by rw [h4] at z; cases z) (c.gua h100) (by omega) (fun _ _ e => e) (fun h' t tk hk => fin h' t tk hk) h3
        | tuple g1 g2 g3 g4 => exact repr_of_reads' (.tuple g1 g2 g3 g4) h2 (fun z => by rw [h4] at z; cases z) (c.gua h100) (by omega) (fun _ _ e => e) (fun h' t tk hk => fin h' t tk hk) h3
        | dict g1 g2 g3 g4 g5 => exact repr_of_reads' (.dict g1 g2 g3 g4 g5) h2 (fun z => by rw [h4] at z; cases z) (c.gua h100) (by omega) (fun _ _ e => e) (fun h' t tk hk => fin h' t tk hk) h3
      · cases e
    · cases e
  · cases e
/-- the type of a value -/
def tyName (μ : Mem) : D → Option String
  | .non => some "NoneType" | .bl _ => some "bool" | .int _ => some "int" | .str _ => some "str"
  | .tup _ => some "tuple" | .lst _ => some "list"
  | .cell l => match μ[l]? with
    | some (.lst _) => some "list"
    | _ => none
  | _ => none
theorem tyName_is {E : Ent} {F : Hp} {ι : List Addr} {μ : Mem} {ρ : Sls} {σ : L2.St} {H : Hp} {d : D} {v : V} {t : String} (S : Stt G E F ι μ ρ σ H) (h : IsV G F ι ρ σ d v) (e : tyName μ d = some t) : TyX G.K H v (.type t) := by
  cases d with
  | non => cases e; rw [h.non]; exact .base .non
  | bl b => cases e; rw [h.bl]; exact .base (.bl b)
  | int i => cases e; rw [h.int]; exact .base (.int i)
  | str x => cases e; rw [h.str]; exact .base (.str x)
  | tup xs =>
    cases e
    obtain ⟨a, vs, rfl, h2, h3⟩ := h.tup S
    rcases h2 with (h2 | ⟨ob, h2⟩) | ⟨ob, its, m, h2, h4, _⟩
    · exact .base (.tup h2)
    · exact .fTuple h2
    · exact .kTuple h2 h4
  | lst xs =>
    cases e
    obtain ⟨a, vs, rfl, h2, h3⟩ := h.lst S
    exact .base (.lst h2)
  | cell l =>
    simp only [tyName] at e
    split at e
    · next xs q =>
      cases e
      obtain ⟨a, vs, rfl, _, h2, h3⟩ := S.cellL h q
      exact .base (.lst h2)
    · cases e
  | _ => cases e
/-- which of these types stands under which -/
def isSub (a b : String) : Bool := a == b || (a == "bool" && b == "int")
theorem kitB_all : ∀ a ∈ ["NoneType", "bool", "int", "str", "tuple", "list"], ∀ b ∈ ["bool", "int", "str", "tuple", "list"], kitB a b = some (isSub a b) := by
  decide +kernel
def isiD (T : String) (μ : Mem) (d : D) : Option D := match tyName μ d with
  | some t => some (.bl (isSub t T))
  | none => none
def evIsi (T : String) (ea : Ev) : Ev := fun ρ μ => (ea ρ μ).bind fun d μ1 => match isiD T μ1 d with
  | some r => .ok r μ1
  | none => .bad
theorem tyName_mem {μ : Mem} {d : D} {t : String} (e : tyName μ d = some t) : t ∈ ["NoneType", "bool", "int", "str", "tuple", "list"] := by
  cases d <;> simp only [tyName] at e <;> first | (cases e; decide) | (split at e <;> cases e; decide) | cases e
/-- isinstance(e, T), T a built-in type of these -/
theorem de_isi (c : Cxt G n N sc X qc) {T : String} {tn : Str} {e : Expr} {ea : Ev} {p p2 : Pos} (ha : DE G X k e ea) (hm : G.mg "isinstance" = none) (hmT : G.mg tn = none) (hT : T ∈ ["bool", "int", "str", "tuple", "list"]) (hbT : bootBuiltins tn = some (.type T))
    (hg : gloB sc "isinstance" = true := by rfl) (hgT : gloB sc tn = true := by rfl) (hnT : tn ≠ "__name__" := by decide) (hdT : (tn == ("__debug__" : Str)) = false := by decide)
    (he : starEach [e, .Name tn p2] X.env = (false, eval e X.env) :: starEach [.Name tn p2] X.env := by rfl) : DE G X true (.Call (.Name "isinstance" p) [e, .Name tn p2] [] pos) (evIsi T ea) := by
  refine ⟨fun E W tk => ?_⟩
  have pT : PE X (.Name tn p2) (tC (.ty T)) := pe_bltn (c.gl hgT) (by rw [c.emg]; exact hmT) hbT rfl hnT hdT
  refine PE.imp (pe_callB call_isi (c.gl hg) (by rw [c.emg]; exact hm) boot_isinstance (pa_cons (ha.run E W tk) (pa_cons pT pa_nil rfl) he) (by decide) (by decide) he rfl) fun σ H Q h => ?_
  obtain ⟨F, ι, μ, ρ, S, o⟩ := h
  refine tE_bind S o fun F1 ι1 μ1 H1 d v S1 g1 i1 _ o1 => ?_
  cases q : tyName μ1 d with
  | none => simp only [isiD, q] at o1; exact o1.elim
  | some t =>
    simp only [isiD, q] at o1
    exact ⟨v, .ty T, .type t, .type T, _, rfl, .ty T, by rw [c.eK]; exact tyName_is S1 i1.v q, kit_ty (kitB_all t (tyName_mem q) T hT), o1.val S1 (.bl _)⟩
end
end PyI

set_option Elab.async false
set_option linter.all false
set_option maxRecDepth 100000
set_option maxHeartbeats 4000000
namespace PyI
open PySem PySem.Spec PyProof.Rows L2

/-! ### statements -/
inductive Fl where
  | nx | rt (d : D) | bk | ct
abbrev Es := Sls → Mem → Out (Fl × Sls)
abbrev PO (X : Cx) : Prop := PassesOwn (model X.prog X.w) X.A X.env X.xe
section
variable (G : GC) (E : Ent)
def OutS (F : Hp) (ι : List Addr) (W : WX) (Dn : Ends) : Out (Fl × Sls) → Prop
  | .ok (.nx, ρ') μ' => ∀ F' ι' σ' H', Stt G E F' ι' μ' ρ' σ' H' → Grow F ι F' ι' → Dn.nx σ' H'
  | .ok (.bk, ρ') μ' => ∀ F' ι' σ' H', Stt G E F' ι' μ' ρ' σ' H' → Grow F ι F' ι' → Dn.bk σ' H'
  | .ok (.ct, ρ') μ' => ∀ F' ι' σ' H', Stt G E F' ι' μ' ρ' σ' H' → Grow F ι F' ι' → Dn.ct σ' H'
  | .ok (.rt d, _) μ' => ∀ F' ι' H' v, Rep G F' ι' μ' H' → Ext E F' ι' H' → Grow F ι F' ι' → Is G F' ι' d v → Dn.rt v H'
  | .exc c ds μ' => ∀ F' ι' ρ' σ' H' cls xd, Stt G E F' ι' μ' ρ' σ' H' → Grow F ι F' ι' → ExV G F' ι' c ds cls xd H' → W cls xd σ' H'
  | .bad => False
def tS (W : WX) (es : Es) : TS := fun Dn σ H => ∃ F ι μ ρ, Stt G E F ι μ ρ σ H ∧ OutS G E F ι W Dn (es ρ μ)
end
structure DS (G : GC) (X : Cx) (st : Stmt) (es : Es) : Prop where
  run : ∀ (E : Ent) (W : WX), E.w = true → Takes X W → PO X → PS X st (tS G E W es)
structure DSs (G : GC) (X : Cx) (st : List Stmt) (es : Es) : Prop where
  run : ∀ (E : Ent) (W : WX), E.w = true → Takes X W → PO X → PSs X st (tS G E W es)
def sNx : Es := fun ρ μ => .ok (.nx, ρ) μ
def sBk : Es := fun ρ μ => .ok (.bk, ρ) μ
def sCt : Es := fun ρ μ => .ok (.ct, ρ) μ
def sRtN : Es := fun ρ μ => .ok (.rt .non, ρ) μ
def sSq (a b : Es) : Es := fun ρ μ => (a ρ μ).bind fun r μ1 => match r with
  | (.nx, ρ1) => b ρ1 μ1
  | (.rt d, ρ1) => .ok (.rt d, ρ1) μ1
  | (.bk, ρ1) => .ok (.bk, ρ1) μ1
  | (.ct, ρ1) => .ok (.ct, ρ1) μ1
def sEx (ea : Ev) : Es := fun ρ μ => (ea ρ μ).bind fun _ μ1 => .ok (.nx, ρ) μ1
def sRt (ea : Ev) : Es := fun ρ μ => (ea ρ μ).bind fun d μ1 => .ok (.rt d, ρ) μ1
def sIf (ec : Ev) (a b : Es) : Es := fun ρ μ => (ec ρ μ).bind fun x μ1 => match x with
  | .bl true => a ρ μ1
  | .bl false => b ρ μ1
  | _ => .bad
/-- own lists become data ahead of a statement -/
def frz (i : Nat) (ρ : Sls) : Sls := match ρ[i]? with
  | some (.ol xs) => ρ.set i (.v (.lst xs))
  | _ => ρ
def sFz (i : Nat) (a : Es) : Es := fun ρ μ => a (frz i ρ) μ
section
variable {G : GC} {E : Ent} {F F' : Hp} {ι ι' : List Addr} {μ μ' : Mem} {ρ : Sls} {σ : L2.St} {H H' : Hp} {W : WX} {Dn : Ends}
theorem OutS.grow (g : Grow F ι F' ι') {o : Out (Fl × Sls)} (h : OutS G E F ι W Dn o) : OutS G E F' ι' W Dn o := by
  cases o with
  | ok r m =>
    obtain ⟨f, ρ'⟩ := r
    cases f with
    | nx => exact fun F'' ι'' σ'' H'' S g' => h F'' ι'' σ'' H'' S (g.trans g')
    | bk => exact fun F'' ι'' σ'' H'' S g' => h F'' ι'' σ'' H'' S (g.trans g')
    | ct => exact fun F'' ι'' σ'' H'' S g' => h F'' ι'' σ'' H'' S (g.trans g')
    | rt d => exact fun F'' ι'' H'' v r x g' => h F'' ι'' H'' v r x (g.trans g')
  | exc c ds m => exact fun F'' ι'' ρ'' σ'' H'' cls xd S g' i => h F'' ι'' ρ'' σ'' H'' cls xd S (g.trans g') i
  | bad => exact h
/-- an expression, then the rest -/
theorem tE_bindS {ev : Ev} {c : D → Mem → Out (Fl × Sls)} {k1 : Bool} {Q' : VK} {ρ : Sls} (S : Stt G E F ι μ ρ σ H) (h : OutS G E F ι W Dn ((ev ρ μ).bind c))
    (next : ∀ F' ι' μ' H' d v, Stt G E F' ι' μ' ρ σ H' → Grow F ι F' ι' → IsK k1 G F' ι' ρ σ d v → OutS G E F' ι' W Dn (c d μ') → Q' v H') : tE G E k1 W ev σ H Q' := by
  refine ⟨F, ι, μ, ρ, S, ?_⟩
  cases q : ev ρ μ with
  | ok d μ' => rw [q] at h; exact fun F' ι' H' v S' g iv => next F' ι' μ' H' d v S' g iv (OutS.grow g h)
  | exc c ds μ' => rw [q] at h; exact fun F' ι' H' cls xd S' g i => h F' ι' ρ σ H' cls xd S' g i
  | bad => rw [q] at h; exact h
theorem tL_bindS {ev : EvL} {c : List D → Mem → Out (Fl × Sls)} {k1 : Bool} {Q' : List V → Hp → Prop} {ρ : Sls} (S : Stt G E F ι μ ρ σ H) (h : OutS G E F ι W Dn ((ev ρ μ).bind c))
    (next : ∀ F' ι' μ' H' ds vs, Stt G E F' ι' μ' ρ σ H' → Grow F ι F' ι' → IsKs k1 G F' ι' ρ σ ds vs → OutS G E F' ι' W Dn (c ds μ') → Q' vs H') : tL G E k1 W ev σ H Q' := by
  refine ⟨F, ι, μ, ρ, S, ?_⟩
  cases q : ev ρ μ with
  | ok d μ' => rw [q] at h; exact fun F' ι' H' v S' g iv => next F' ι' μ' H' d v S' g iv (OutS.grow g h)
  | exc c ds μ' => rw [q] at h; exact fun F' ι' H' cls xd S' g i => h F' ι' ρ σ H' cls xd S' g i
  | bad => rw [q] at h; exact h
theorem tT_bindS {ev : Ev} {c : D → Mem → Out (Fl × Sls)} {Q' : Bool → Hp → Prop} {ρ : Sls} (S : Stt G E F ι μ ρ σ H) (h : OutS G E F ι W Dn ((ev ρ μ).bind c)) (hc : ∀ d μ', (∀ b, d ≠ .bl b) → c d μ' = .bad)
    (next : ∀ F' ι' μ' H' b, Stt G E F' ι' μ' ρ σ H' → Grow F ι F' ι' → OutS G E F' ι' W Dn (c (.bl b) μ') → Q' b H') : tT G E W ev σ H Q' := by
  refine ⟨F, ι, μ, ρ, S, ?_⟩
  cases q : ev ρ μ with
  | ok d μ' =>
    rw [q] at h
    have h : OutS G E F ι W Dn (c d μ') := h
    cases d <;> first | exact fun F' ι' H' S' g => next F' ι' μ' H' _ S' g (OutS.grow g h) | (rw [hc _ _ (by intro b z; cases z)] at h; exact h)
  | exc c ds μ' => rw [q] at h; exact fun F' ι' H' cls xd S' g i => h F' ι' ρ σ H' cls xd S' g i
  | bad => rw [q] at h; exact h
/-- an own list frozen, in the state -/
theorem Stt.frz (hw : E.w = true) (S : Stt G E F ι μ ρ σ H) (i : Nat) : ∃ F', Grow F ι F' ι ∧ Stt G E F' ι μ (frz i ρ) σ H := by
  unfold PyI.frz
  split
  · next xs e =>
    obtain ⟨a, vs, e1, _⟩ := S.own i xs e
    obtain ⟨_, _, g, _, S'⟩ := S.freeze hw e e1
    exact ⟨_, g, S'⟩
  · exact ⟨F, Grow.refl _ _, S⟩
end
section
variable {G : GC} {n : Nat} {N : List Str} {sc : Scope} {X : Cx} {qc : Bool} {st : Stmt} {rest sa sb : List Stmt} {a b : Es} {e : Expr} {ea ec : Ev} {k : Bool} {pos : Pos}
theorem dss_nil : DSs G X [] sNx := ⟨fun E W hw tk hp => PSs.imp pss_nil fun Dn σ H ⟨F, ι, μ, ρ, S, o⟩ => o F ι σ H S (Grow.refl _ _)⟩
theorem dss_cons (h1 : DS G X st a) (h2 : DSs G X rest b) : DSs G X (st :: rest) (sSq a b) := ⟨fun E W hw tk hp => PSs.imp (pss_cons (h1.run E W hw tk hp) (h2.run E W hw tk hp)) fun Dn σ H h => by
  obtain ⟨F, ι, μ, ρ, S, o⟩ := h
  refine ⟨F, ι, μ, ρ, S, ?_⟩
  simp only [sSq] at o
  cases q : a ρ μ with
  | ok r μ1 =>
    rw [q] at o
    obtain ⟨f, ρ1⟩ := r
    cases f with
    | nx => exact fun F' ι' σ' H' S' g => ⟨F', ι', μ1, ρ1, S', OutS.grow g o⟩
    | bk => exact o
    | ct => exact o
    | rt d => exact o
  | exc c ds m => rw [q] at o; exact o
  | bad => rw [q] at o; exact o⟩
theorem dss_one (h1 : DS G X st a) : DSs G X [st] a := ⟨fun E W hw tk hp => pss_one (h1.run E W hw tk hp)⟩
theorem ds_pass : DS G X (.Pass pos) sNx := ⟨fun E W hw tk hp => PS.imp ps_pass fun Dn σ H ⟨F, ι, μ, ρ, S, o⟩ => o F ι σ H S (Grow.refl _ _)⟩
theorem ds_break : DS G X (.Break pos) sBk := ⟨fun E W hw tk hp => PS.imp ps_break fun Dn σ H ⟨F, ι, μ, ρ, S, o⟩ => o F ι σ H S (Grow.refl _ _)⟩
theorem ds_cont : DS G X (.Continue pos) sCt := ⟨fun E W hw tk hp => PS.imp ps_continue fun Dn σ H ⟨F, ι, μ, ρ, S, o⟩ => o F ι σ H S (Grow.refl _ _)⟩
theorem ds_ex (h : DE G X k e ea) (hs : swapsWith e none pos.line X.env = pure false := by rfl) : DS G X (.Expr e pos) (sEx ea) := ⟨fun E W hw tk hp => PS.imp (ps_expr (h.run E W tk) hs) fun Dn σ H h => by
  obtain ⟨F, ι, μ, ρ, S, o⟩ := h
  exact tE_bindS S o fun F' ι' μ' H' d v S' g iv o' => o' F' ι' σ H' S' (Grow.refl _ _)⟩
theorem ds_rt (h : DE G X true e ea) : DS G X (.Return (some e) pos) (sRt ea) := ⟨fun E W hw tk hp => PS.imp (ps_ret (h.run E W tk)) fun Dn σ H h => by
  obtain ⟨F, ι, μ, ρ, S, o⟩ := h
  exact tE_bindS S o fun F' ι' μ' H' d v S' g iv o' => o' F' ι' H' v S'.rep S'.ext (Grow.refl _ _) iv⟩
theorem ds_rtN : DS G X (.Return none pos) sRtN := ⟨fun E W hw tk hp => PS.imp ps_retN fun Dn σ H ⟨F, ι, μ, ρ, S, o⟩ => o F ι H .non S.rep S.ext (Grow.refl _ _) .non⟩
theorem ds_if {c : Expr} (hc : DT G X c ec) (ha : DSs G X sa a) (hb : DSs G X sb b) : DS G X (.If c sa sb pos) (sIf ec a b) := ⟨fun E W hw tk hp => PS.imp (ps_if (hc.run E W tk) (ha.run E W hw tk hp) (hb.run E W hw tk hp)) fun Dn σ H h => by
  obtain ⟨F, ι, μ, ρ, S, o⟩ := h
  refine tT_bindS S o (fun d μ' hd => by cases d <;> first | rfl | exact absurd rfl (hd _)) fun F' ι' μ' H' b S' g o' => ?_
  cases b with
  | true => rw [if_pos rfl]; exact ⟨F', ι', μ', ρ, S', o'⟩
  | false => rw [if_neg Bool.false_ne_true]; exact ⟨F', ι', μ', ρ, S', o'⟩⟩
/-- own lists are frozen ahead of a statement -/
theorem ds_fz (i : Nat) (h : DS G X st a) : DS G X st (sFz i a) := ⟨fun E W hw tk hp => PS.imp (h.run E W hw tk hp) fun Dn σ H h => by
  obtain ⟨F, ι, μ, ρ, S, o⟩ := h
  obtain ⟨F', g, S'⟩ := S.frz hw i
  exact ⟨F', ι, μ, _, S', OutS.grow g o⟩⟩
/-- what is never come to -/
theorem ds_never : DS G X st (fun _ _ => .bad) := ⟨fun E W hw tk hp => PS.imp ps_never fun Dn σ H ⟨F, ι, μ, ρ, S, o⟩ => o⟩
theorem dss_never : DSs G X rest (fun _ _ => .bad) := ⟨fun E W hw tk hp => PSs.imp pss_never fun Dn σ H ⟨F, ι, μ, ρ, S, o⟩ => o⟩
end

/-! ### targets -/
abbrev Tg := D → Sls → Mem → Out Sls
abbrev TgL := List D → Sls → Mem → Out Sls
section
variable (G : GC) (E : Ent)
def OutG (F : Hp) (ι : List Addr) (W : WX) (Q : L2.St → Hp → Prop) : Out Sls → Prop
  | .ok ρ' μ' => ∀ F' ι' σ' H', Stt G E F' ι' μ' ρ' σ' H' → Grow F ι F' ι' → Q σ' H'
  | .exc c ds μ' => ∀ F' ι' ρ' σ' H' cls xd, Stt G E F' ι' μ' ρ' σ' H' → Grow F ι F' ι' → ExV G F' ι' c ds cls xd H' → W cls xd σ' H'
  | .bad => False
def tG (W : WX) (t : Tg) : TG := fun v σ H Q => ∃ F ι μ ρ d, Stt G E F ι μ ρ σ H ∧ Is G F ι d v ∧ OutG G E F ι W Q (t d ρ μ)
def tGs (W : WX) (t : TgL) : TGs := fun vs σ H Q => ∃ F ι μ ρ ds, Stt G E F ι μ ρ σ H ∧ IsAll G F ι ds vs ∧ OutG G E F ι W Q (t ds ρ μ)
end
/-- k: the entry's own lists may be written (a def's body, not a block) -/
structure DG (G : GC) (X : Cx) (tg : Expr) (t : Tg) : Prop where
  run : ∀ (E : Ent) (W : WX), Takes X W → PG X tg (tG G E W t)
structure DGs (G : GC) (X : Cx) (tg : List Expr) (t : TgL) : Prop where
  run : ∀ (E : Ent) (W : WX), Takes X W → PGs X tg (tGs G E W t)
def gNm (i : Nat) : Tg := fun d ρ μ => .ok (ρ.set i (.v d)) μ
def gsNil : TgL := fun ds ρ μ => match ds with
  | [] => .ok ρ μ
  | _ => .bad
def gsCons (t : Tg) (u : TgL) : TgL := fun ds ρ μ => match ds with
  | d :: ds => (t d ρ μ).bind fun ρ1 μ1 => u ds ρ1 μ1
  | [] => .bad
def gTp (m : Nat) (u : TgL) : Tg := fun d ρ μ => match d with
  | .tup ds => if ds.length = m then u ds ρ μ else .bad
  | _ => .bad
def gLs (m : Nat) (u : TgL) : Tg := fun d ρ μ => match d with
  | .lst ds => if ds.length = m then u ds ρ μ else .bad
  | _ => .bad
def ixSet (xs : List D) (i : Int) (d : D) : Option (List D) := (ixN xs.length i).map fun j => xs.set j d
/-- o[i] = d, o a cell's list -/
def gSb (eo ei : Ev) : Tg := fun d ρ μ => (eo ρ μ).bind fun o μ1 => (ei ρ μ1).bind fun i μ2 => match o, i with
  | .cell l, .int i => (match μ2[l]? with
    | some (.lst xs) => (match ixSet xs i d with
      | some ys => .ok ρ (μ2.set l (.lst ys))
      | none => .bad)
    | _ => .bad)
  | _, _ => .bad
section
variable {G : GC} {E : Ent} {F F' : Hp} {ι ι' : List Addr} {μ μ' : Mem} {ρ : Sls} {σ : L2.St} {H H' : Hp} {W : WX} {Q : L2.St → Hp → Prop}
theorem OutG.grow (g : Grow F ι F' ι') {o : Out Sls} (h : OutG G E F ι W Q o) : OutG G E F' ι' W Q o := by
  cases o with
  | ok d m => exact fun F'' ι'' σ'' H'' S g' => h F'' ι'' σ'' H'' S (g.trans g')
  | exc c ds m => exact fun F'' ι'' ρ'' σ'' H'' cls xd S g' i => h F'' ι'' ρ'' σ'' H'' cls xd S (g.trans g') i
  | bad => exact h
theorem tE_bindG {ev : Ev} {c : D → Mem → Out Sls} {k1 : Bool} {Q' : VK} {ρ : Sls} (S : Stt G E F ι μ ρ σ H) (h : OutG G E F ι W Q ((ev ρ μ).bind c))
    (next : ∀ F' ι' μ' H' d v, Stt G E F' ι' μ' ρ σ H' → Grow F ι F' ι' → IsK k1 G F' ι' ρ σ d v → OutG G E F' ι' W Q (c d μ') → Q' v H') : tE G E k1 W ev σ H Q' := by
  refine ⟨F, ι, μ, ρ, S, ?_⟩
  cases q : ev ρ μ with
  | ok d μ' => rw [q] at h; exact fun F' ι' H' v S' g iv => next F' ι' μ' H' d v S' g iv (OutG.grow g h)
  | exc c ds μ' => rw [q] at h; exact fun F' ι' H' cls xd S' g i => h F' ι' ρ σ H' cls xd S' g i
  | bad => rw [q] at h; exact h
end
section
variable {G : GC} {n : Nat} {N : List Str} {sc : Scope} {X : Cx} {qc : Bool} {k : Bool} {pos : Pos}
theorem PG.imp {tg : Expr} {t t' : TG} (h : PG X tg t) (i : ∀ v σ H Q, t' v σ H Q → t v σ H Q) : PG X tg t' := ⟨fun pins s σ H v u Q I r q => h.run pins s σ H v u Q I r (i v σ H Q q)⟩
theorem PGs.imp {tg : List Expr} {t t' : TGs} (h : PGs X tg t) (i : ∀ v σ H Q, t' v σ H Q → t v σ H Q) : PGs X tg t' := ⟨fun pins s σ H v u Q I r q => h.run pins s σ H v u Q I r (i v σ H Q q)⟩
def locB (sc : Scope) (x : Str) : Bool := match sc.names.lookup x with
  | some .local => true | _ => false
def celB (sc : Scope) (x : Str) : Bool := match sc.names.lookup x with
  | some .cell => true | _ => false
theorem Cxt.loc (c : Cxt G n N sc X qc) {x : Str} (h : locB sc x = true) : X.env.scope.names.lookup x = some .local := by
  rw [c.esc]
  unfold locB at h
  split at h
  · assumption
  · cases h
theorem Cxt.cel (c : Cxt G n N sc X qc) {x : Str} (h : celB sc x = true) : X.env.scope.names.lookup x = some .cell := by
  rw [c.esc]
  unfold celB at h
  split at h
  · assumption
  · cases h
theorem dg_nm (c : Cxt G n N sc X qc) (i : Nat) {x : Str} (hi : N[i]? = some x := by rfl) (hx : locB sc x = true := by rfl) : DG G X (.Name x pos) (gNm i) :=
  ⟨fun E W tk => PG.imp (pg_name (by rw [c.eN]; exact c.nd) (by rw [c.eN]; exact hi) (.inl (c.loc hx)) (.inr (c.loc hx))) fun v σ H Q h => by
    obtain ⟨F, ι, μ, ρ, d, S, iv, o⟩ := h
    exact o F ι _ H (S.set iv) (Grow.refl _ _)⟩
theorem dg_nmC (c : Cxt G n N sc X qc) (i : Nat) {x : Str} (hf : X.fn x = true) (hi : N[i]? = some x := by rfl) (hx : celB sc x = true := by rfl) : DG G X (.Name x pos) (gNm i) :=
  ⟨fun E W tk => PG.imp (pg_name (by rw [c.eN]; exact c.nd) (by rw [c.eN]; exact hi) (.inr (c.cel hx)) (.inl hf)) fun v σ H Q h => by
    obtain ⟨F, ι, μ, ρ, d, S, iv, o⟩ := h
    exact o F ι _ H (S.set iv) (Grow.refl _ _)⟩
theorem dgs_nil : DGs G X [] gsNil := ⟨fun E W tk => PGs.imp pgs_nil fun v σ H Q h => by
  obtain ⟨F, ι, μ, ρ, ds, S, iv, o⟩ := h
  cases iv with
  | nil => exact ⟨rfl, o F ι _ H S (Grow.refl _ _)⟩
  | cons _ _ => exact o.elim⟩
theorem dgs_cons {e : Expr} {es : List Expr} {t : Tg} {u : TgL} (h1 : DG G X e t) (h2 : DGs G X es u) (hs : (assignEach (e :: es) X.env).map (·.2) = assign e X.env :: (assignEach es X.env).map (·.2) := by rfl) : DGs G X (e :: es) (gsCons t u) :=
  ⟨fun E W tk => PGs.imp (pgs_cons (h1.run E W tk) (h2.run E W tk) hs) fun v σ H Q h => by
    obtain ⟨F, ι, μ, ρ, ds, S, iv, o⟩ := h
    cases iv with
    | nil => exact o.elim
    | @cons d v ds vs i r =>
      refine ⟨v, vs, rfl, F, ι, μ, ρ, d, S, i, ?_⟩
      simp only [gsCons] at o
      cases q : t d ρ μ with
      | ok ρ1 μ1 => rw [q] at o; exact fun F' ι' σ' H' S' g => ⟨F', ι', μ1, ρ1, ds, S', r.grow g, OutG.grow g o⟩
      | exc c ds m => rw [q] at o; exact o
      | bad => rw [q] at o; exact o⟩
theorem dg_tp (c : Cxt G n N sc X) {es : List Expr} {kk : Nat} {u : TgL} {m : Nat} (h : DGs G X es u) (hn : (assignEach es X.env).length = m := by rfl) (hst : (assignEach es X.env).findIdx? (·.1) = none := by rfl) : DG G X (.Tuple es kk pos) (gTp m u) :=
  ⟨fun E W tk => PG.imp (pg_tup c.calm (h.run E W tk) hn hst) fun v σ H Q h => by
    obtain ⟨F, ι, μ, ρ, d, S, iv, o⟩ := h
    unfold gTp at o
    split at o
    · split at o
      · next hl =>
        cases iv with
        | tup hq hs => exact ⟨_, _, rfl, by rw [c.eK]; exact SqT.grow S.rep.sub hq, hs.length.symm.trans hl, F, ι, μ, ρ, _, S, hs, o⟩
      · exact o.elim
    · exact o.elim⟩
theorem dg_ls (c : Cxt G n N sc X) {es : List Expr} {kk : Nat} {u : TgL} {m : Nat} (h : DGs G X es u) (hn : (assignEach es X.env).length = m := by rfl) (hst : (assignEach es X.env).findIdx? (·.1) = none := by rfl) : DG G X (.Tuple es kk pos) (gLs m u) :=
  ⟨fun E W tk => PG.imp (pg_lst c.calm (h.run E W tk) hn hst) fun v σ H Q h => by
    obtain ⟨F, ι, μ, ρ, d, S, iv, o⟩ := h
    unfold gLs at o
    split at o
    · split at o
      · next hl =>
        cases iv with
        | lst hq hs => exact ⟨_, _, rfl, .inl (.inl (S.rep.sub _ _ hq)), hs.length.symm.trans hl, F, ι, μ, ρ, _, S, hs, o⟩
      · exact o.elim
    · exact o.elim⟩
theorem dg_sb {o i : Expr} {eo ei : Ev} {k1 : Bool} (ho : DE G X k1 o eo) (hi : DE G X true i ei) (ha : ∀ v, assign (.Subscript o i pos) X.env v = (do
      let ov ← holding [v] (eval o X.env)
      let iv ← holding [v, ov] (eval i X.env)
      standAt pos
      holding [v, ov, iv] (setItem ov iv v)
      release [v, ov, iv] []) := by intro _; rfl) : DG G X (.Subscript o i pos) (gSb eo ei) :=
  ⟨fun E W tk => PG.imp (pg_sub (ho.run E W tk) (hi.run E W tk) set_list ha) fun v σ H Q h => by
    obtain ⟨F, ι, μ, ρ, d, S, iv, o⟩ := h
    refine tE_bindG S o fun F1 ι1 μ1 H1 d1 v1 S1 g1 i1 o1 => ?_
    refine tE_bindG S1 o1 fun F2 ι2 μ2 H2 d2 v2 S2 g2 i2 o2 => ?_
    split at o2
    · next l j =>
      split at o2
      · next xs e =>
        split at o2
        · next ys ey =>
          unfold ixSet at ey
          cases q : ixN xs.length j with
          | none => rw [q] at ey; cases ey
          | some j' =>
            rw [q] at ey
            cases ey
            obtain ⟨a, vs, rfl, hl, hH, hs⟩ := S2.cellL (i1.v.grow g2) e
            have hv := IsV.int (IsK.v i2)
            subst hv
            refine ⟨a, vs, j, j', rfl, rfl, hH, by rw [← hs.length]; exact q, ?_⟩
            refine o2 F2 ι2 σ _ (S2.write hl ⟨_, upd_same, hs.set j' ((iv.grow g1).grow g2)⟩) (Grow.refl _ _)
        · exact o2.elim
      · exact o2.elim
    · exact o2.elim⟩

/-! ### assignments -/
def sAs (ea : Ev) (t : Tg) : Es := fun ρ μ => (ea ρ μ).bind fun d μ1 => (t d ρ μ1).bind fun ρ1 μ2 => .ok (.nx, ρ1) μ2
theorem outG_S {F : Hp} {ι : List Addr} {W : WX} {E : Ent} {Dn : Ends} {o : Out Sls} (h : OutS G E F ι W Dn (o.bind fun ρ1 μ2 => .ok (.nx, ρ1) μ2)) : OutG G E F ι W Dn.nx o := by
  cases o with
  | ok ρ1 μ1 => exact h
  | exc c ds m => exact h
  | bad => exact h
theorem ds_as {tg e : Expr} {ea : Ev} {t : Tg} (he : DE G X true e ea) (hg : DG G X tg t) (hs : swapsWithSole [tg] e pos.line X.env = pure false := by rfl) (hw : swappedStores [tg] e X.env = pure none := by rfl)
    (h1 : (assignEach [tg] X.env).map (·.2) = [assign tg X.env] := by rfl) : DS G X (.Assign [tg] e pos) (sAs ea t) :=
  ⟨fun E W hw' tk hp => PS.imp (ps_asg (he.run E W tk) (hg.run E W tk) hs hw h1) fun Dn σ H h => by
    obtain ⟨F, ι, μ, ρ, S, o⟩ := h
    exact tE_bindS S o fun F' ι' μ' H' d v S' g iv o' => ⟨F', ι', μ', ρ, d, S', iv, outG_S o'⟩⟩
theorem ds_set (c : Cxt G n N sc X qc) (i : Nat) {x : Str} {e : Expr} {ea : Ev} {pos' : Pos} (he : DE G X true e ea) (hi : N[i]? = some x := by rfl) (hx : locB sc x = true := by rfl) (hs : swapsWith e (some (.Name x pos')) pos.line X.env = pure false := by rfl) : DS G X (.Assign [.Name x pos'] e pos) (sAs ea (gNm i)) :=
  ⟨fun E W hw' tk hp => PS.imp (ps_set (by rw [c.eN]; exact c.nd) (by rw [c.eN]; exact hi) (.inl (c.loc hx)) (he.run E W tk) hs (.inr (c.loc hx))) fun Dn σ H h => by
    obtain ⟨F, ι, μ, ρ, S, o⟩ := h
    exact tE_bindS S o fun F' ι' μ' H' d v S' g iv o' => o' F' ι' _ H' (S'.set iv) (Grow.refl _ _)⟩
theorem ds_setC (c : Cxt G n N sc X qc) (i : Nat) {x : Str} {e : Expr} {ea : Ev} {pos' : Pos} (he : DE G X true e ea) (hf : X.fn x = true) (hi : N[i]? = some x := by rfl) (hx : celB sc x = true := by rfl) (hs : swapsWith e (some (.Name x pos')) pos.line X.env = pure false := by rfl) : DS G X (.Assign [.Name x pos'] e pos) (sAs ea (gNm i)) :=
  ⟨fun E W hw' tk hp => PS.imp (ps_set (by rw [c.eN]; exact c.nd) (by rw [c.eN]; exact hi) (.inr (c.cel hx)) (he.run E W tk) hs (.inl hf)) fun Dn σ H h => by
    obtain ⟨F, ι, μ, ρ, S, o⟩ := h
    exact tE_bindS S o fun F' ι' μ' H' d v S' g iv o' => o' F' ι' _ H' (S'.set iv) (Grow.refl _ _)⟩
/-- a, b = e1, e2 -/
def sP2 (i j : Nat) (el : EvL) : Es := fun ρ μ => (el ρ μ).bind fun ds μ1 => match ds with
  | [d, e] => .ok (.nx, (ρ.set i (.v d)).set j (.v e)) μ1
  | _ => .bad
def sP3 (i j l : Nat) (el : EvL) : Es := fun ρ μ => (el ρ μ).bind fun ds μ1 => match ds with
  | [d, e, f] => .ok (.nx, ((ρ.set i (.v d)).set j (.v e)).set l (.v f)) μ1
  | _ => .bad
theorem ds_p2 (c : Cxt G n N sc X) (i j : Nat) {x y : Str} {a b : Expr} {el : EvL} {px py pt : Pos} {kt k2 pt2} (ha : DA G X true [a, b] el) (hi : N[i]? = some x := by rfl) (hj : N[j]? = some y := by rfl) (hij : i ≠ j := by decide)
    (hx : locB sc x = true := by rfl) (hy : locB sc y = true := by rfl) (hw : swappedStores [.Tuple [.Name x px, .Name y py] kt pt] (.Tuple [a, b] k2 pt2) X.env = pure (some [x, y]))
    (hs : swapsWithSole [.Tuple [.Name x px, .Name y py] kt pt] (.Tuple [a, b] k2 pt2) pos.line X.env = pure false := by rfl) : DS G X (.Assign [.Tuple [.Name x px, .Name y py] kt pt] (.Tuple [a, b] k2 pt2) pos) (sP2 i j el) :=
  ⟨fun E W hw' tk hp => PS.imp (ps_par c.calm (by rw [c.eN]; exact c.nd) (by rw [c.eN]; exact hi) (by rw [c.eN]; exact hj) hij (c.loc hx) (c.loc hy) (ha.run E W tk) hw hs) fun Dn σ H h => by
    obtain ⟨F, ι, μ, ρ, S, o⟩ := h
    refine tL_bindS S o fun F' ι' μ' H' ds vs S' g iv o' => ?_
    split at o'
    · cases iv with
      | cons r1 t =>
        cases t with
        | cons r2 t =>
          cases t
          exact ⟨_, _, rfl, o' F' ι' _ H' ((S'.set r1).set r2) (Grow.refl _ _)⟩
    · exact o'.elim⟩
end
end PyI

set_option Elab.async false
set_option linter.all false
set_option maxRecDepth 100000
set_option maxHeartbeats 4000000
namespace PyI
open PySem PySem.Spec PyProof.Rows L2

/-! ### own lists -/
def sOw (i : Nat) (el : EvL) : Es := fun ρ μ => (el ρ μ).bind fun ds μ1 => if ds.length ≤ sizeLine then .ok (.nx, ρ.set i (.ol ds)) μ1 else .bad
def sAp (i : Nat) (ea : Ev) : Es := fun ρ μ => match ρ[i]? with
  | some (.ol xs) => (ea ρ μ).bind fun d μ1 => if xs.length < sizeLine then .ok (.nx, ρ.set i (.ol (xs ++ [d]))) μ1 else .bad
  | _ => .bad
/-- append to a cell's list -/
def sApC (eo ea : Ev) : Es := fun ρ μ => (eo ρ μ).bind fun o μ1 => (ea ρ μ1).bind fun d μ2 => match o with
  | .cell l => (match μ2[l]? with
    | some (.lst xs) => if xs.length < sizeLine then .ok (.nx, ρ) (μ2.set l (.lst (xs ++ [d]))) else .bad
    | _ => .bad)
  | _ => .bad
section
variable {G : GC} {n : Nat} {N : List Str} {sc : Scope} {X : Cx} {qc : Bool} {k : Bool} {pos : Pos}
theorem ds_ow (c : Cxt G n N sc X qc) (i : Nat) {x : Str} {es : List Expr} {el : EvL} {p pos' : Pos} (he : DA G X true es el) (hi : N[i]? = some x := by rfl) (hx : locB sc x = true := by rfl) (hs : swapsWith (.List es p) (some (.Name x pos')) pos.line X.env = pure false := by rfl) : DS G X (.Assign [.Name x pos'] (.List es p) pos) (sOw i el) :=
  ⟨fun E W hw' tk hp => PS.imp (ps_set (by rw [c.eN]; exact c.nd) (by rw [c.eN]; exact hi) (.inl (c.loc hx)) (pe_lst (he.run E W tk)) hs (.inr (c.loc hx))) fun Dn σ H h => by
    obtain ⟨F, ι, μ, ρ, S, o⟩ := h
    refine tL_bindS S o fun F' ι' μ' H' ds vs S' g iv o' => ?_
    split at o'
    · next hz => exact ⟨by rw [← iv.all.length]; exact hz, fun p hp => o' F' ι' _ _ (S'.setO hp iv.all) (Grow.refl _ _)⟩
    · exact o'.elim⟩
theorem ds_ap (c : Cxt G n N sc X qc) (i : Nat) {x : Str} {e : Expr} {ea : Ev} {p apos cpos : Pos} (he : DE G X true e ea) (hi : N[i]? = some x := by rfl) (hv : visB sc x = true := by rfl) (hd : (x == ("__debug__" : Str)) = false := by decide) (hcd : (x == ("__classdict__" : Str)) = false := by decide)
    (hbase : attributeBase (.Name x p) "append" X.env (eval (.Name x p) X.env) = eval (.Name x p) X.env := by rfl)
    (hfew : ((backTo cpos (starEach [e] X.env)).all (fun x => !x.1) && (backToKw cpos (keywordEach [] X.env)).all (fun x => x.1.isSome)
      && decide ([e].length + ([] : List Keyword).length + (if ([] : List Keyword).isEmpty then 0 else 1) < 30)) = true := by rfl)
    (hline : (apos.endLine == cpos.line) = true := by rfl) (hs : starEach [e] X.env = (false, eval e X.env) :: starEach [] X.env := by rfl)
    (hsw : swapsWith (.Call (.Attribute (.Name x p) "append" apos) [e] [] cpos) none pos.line X.env = pure false := by rfl) :
    DS G X (.Expr (.Call (.Attribute (.Name x p) "append" apos) [e] [] cpos) pos) (sAp i ea) :=
  ⟨fun E W hw tk hp => PS.imp (ps_expr (pe_bm PySem.F.plainAttrs_list PySem.F.slot_list_append PySem.F.type_list_append mt_append (pe_var (by rw [c.eN]; exact hi) (c.vis hv) hd hcd) (pa_cons (he.run E W tk) pa_nil hs) hbase hfew hline hs) hsw) fun Dn σ H h => by
    obtain ⟨F, ι, μ, ρ, S, o⟩ := h
    unfold sAp at o
    split at o
    · next xs key =>
      obtain ⟨a, vs, h1, h2, _⟩ := S.own i xs key
      refine ⟨.ref a, h1, .inl ⟨rfl, vs, .inl (.inl h2)⟩, ?_⟩
      show tE G E true W ea σ H _
      refine tE_bindS S o fun F' ι' μ' H' d v S' g iv o' => ?_
      obtain ⟨a', ws, g1, g2, g3, _⟩ := S'.own i xs key
      rw [h1] at g1
      cases g1
      split at o'
      · next hz => exact ⟨a, ws, v, rfl, rfl, g2, by rw [← g3.length]; exact hz, o' F' ι' _ _ (S'.writeO hw key h1 (g3.append (.cons iv .nil))) (Grow.refl _ _)⟩
      · exact o'.elim
    · exact o.elim⟩
end
end PyI

set_option Elab.async false
set_option linter.all false
set_option maxRecDepth 100000
set_option maxHeartbeats 4000000
namespace PyI
open PySem PySem.Spec PyProof.Rows L2

/-! ### what a loop walks -/
def ItF (G : GC) (E : Ent) (J : It) (F : Hp) (ι : List Addr) (ds : List D) : Prop :=
  ∀ (E : Ent) (μ : Mem) (ρ : Sls) (σ : L2.St) (H F' : Hp) (ι' : List Addr) (i : Nat), Grow F ι F' ι' → Stt G E F' ι' μ ρ σ H →
    (ds.length ≤ i → J.stop i H) ∧ ∀ d, ds[i]? = some d → J.go i H ∧ ∀ x H', J.yld i H x H' → ∃ F'', Grow F' ι' F'' ι' ∧ Stt G E F'' ι' μ ρ σ H' ∧ Is G F'' ι' d x ∧ (∀ a, H' a = none → H a = none) ∧ (∀ a, F'' a ≠ none → F' a ≠ none ∨ H a = none) ∧ (∀ a o, H a = some o → H' a = some o)
theorem ItF.grow {G : GC} {E : Ent} {J : It} {F F' : Hp} {ι ι' : List Addr} {ds : List D} (g : Grow F ι F' ι') (h : ItF G E J F ι ds) : ItF G E J F' ι' ds := fun E2 μ ρ σ H F2 ι2 i g2 S => h E2 μ ρ σ H F2 ι2 i (g.trans g2) S
section
variable (G : GC) (E : Ent)
def OutI (F : Hp) (ι : List Addr) (ρ : Sls) (σ : L2.St) (W : WX) (R : It → Hp → Prop) : Out (List D) → Prop
  | .ok ds μ' => ∀ F' ι' H' J, Stt G E F' ι' μ' ρ σ H' → Grow F ι F' ι' → ItF G E J F' ι' ds → R J H'
  | .exc c ds μ' => ∀ F' ι' H' cls xd, Stt G E F' ι' μ' ρ σ H' → Grow F ι F' ι' → ExV G F' ι' c ds cls xd H' → W cls xd σ H'
  | .bad => False
def tI (W : WX) (ei : EvL) : TI := fun σ H R => ∃ F ι μ ρ, Stt G E F ι μ ρ σ H ∧ OutI G E F ι ρ σ W R (ei ρ μ)
end
structure DI (G : GC) (X : Cx) (tg iter : Expr) (ei : EvL) : Prop where
  run : ∀ (E : Ent) (W : WX), Takes X W → PI X tg iter (tI G E W ei)
def evSqT (ev : Ev) : EvL := fun ρ μ => (ev ρ μ).bind fun d μ1 => match d with
  | .tup ds => .ok ds μ1
  | _ => .bad
def evSqL (ev : Ev) : EvL := fun ρ μ => (ev ρ μ).bind fun d μ1 => match d with
  | .lst ds => .ok ds μ1
  | .scr ds => .ok ds μ1
  | _ => .bad
def rngD (lo : Int) (n : Nat) : List D := (List.range n).map fun (i : Nat) => D.int (lo + (i : Int))
def evR1 (ea : EvL) : EvL := fun ρ μ => (ea ρ μ).bind fun ds μ1 => match ds with
  | [.int j] => if -(2 ^ 62) ≤ j ∧ j < 2 ^ 62 then .ok (rngD 0 j.toNat) μ1 else .bad
  | _ => .bad
def evR2 (ea : EvL) : EvL := fun ρ μ => (ea ρ μ).bind fun ds μ1 => match ds with
  | [.int i, .int j] => if -(2 ^ 62) ≤ i ∧ i < 2 ^ 62 ∧ -(2 ^ 62) ≤ j ∧ j < 2 ^ 62 then .ok (rngD i (j - i).toNat) μ1 else .bad
  | _ => .bad
section
variable {G : GC} {E : Ent} {F F' : Hp} {ι ι' : List Addr} {μ μ' : Mem} {ρ : Sls} {σ : L2.St} {H H' : Hp} {W : WX}
theorem OutI.grow {R : It → Hp → Prop} (g : Grow F ι F' ι') {o : Out (List D)} (h : OutI G E F ι ρ σ W R o) : OutI G E F' ι' ρ σ W R o := by
  cases o with
  | ok d m => exact fun F'' ι'' H'' J S g' i => h F'' ι'' H'' J S (g.trans g') i
  | exc c ds m => exact fun F'' ι'' H'' cls xd S g' i => h F'' ι'' H'' cls xd S (g.trans g') i
  | bad => exact h
theorem tE_bindI {ev : Ev} {c : D → Mem → Out (List D)} {k1 : Bool} {Q' : VK} {R : It → Hp → Prop} {ρ : Sls} (S : Stt G E F ι μ ρ σ H) (h : OutI G E F ι ρ σ W R ((ev ρ μ).bind c))
    (next : ∀ F' ι' μ' H' d v, Stt G E F' ι' μ' ρ σ H' → Grow F ι F' ι' → IsK k1 G F' ι' ρ σ d v → OutI G E F' ι' ρ σ W R (c d μ') → Q' v H') : tE G E k1 W ev σ H Q' := by
  refine ⟨F, ι, μ, ρ, S, ?_⟩
  cases q : ev ρ μ with
  | ok d μ' => rw [q] at h; exact fun F' ι' H' v S' g iv => next F' ι' μ' H' d v S' g iv (OutI.grow g h)
  | exc c ds μ' => rw [q] at h; exact h
  | bad => rw [q] at h; exact h
theorem tL_bindI {ev : EvL} {c : List D → Mem → Out (List D)} {k1 : Bool} {Q' : List V → Hp → Prop} {R : It → Hp → Prop} {ρ : Sls} (S : Stt G E F ι μ ρ σ H) (h : OutI G E F ι ρ σ W R ((ev ρ μ).bind c))
    (next : ∀ F' ι' μ' H' ds vs, Stt G E F' ι' μ' ρ σ H' → Grow F ι F' ι' → IsKs k1 G F' ι' ρ σ ds vs → OutI G E F' ι' ρ σ W R (c ds μ') → Q' vs H') : tL G E k1 W ev σ H Q' := by
  refine ⟨F, ι, μ, ρ, S, ?_⟩
  cases q : ev ρ μ with
  | ok d μ' => rw [q] at h; exact fun F' ι' H' v S' g iv => next F' ι' μ' H' d v S' g iv (OutI.grow g h)
  | exc c ds μ' => rw [q] at h; exact h
  | bad => rw [q] at h; exact h
theorem itF_same {J : It} {ds : List D} (h : ∀ (H : Hp) (F' : Hp) (ι' : List Addr) (i : Nat), Grow F ι F' ι' → (∀ a o, F' a = some o → H a = some o) → (ds.length ≤ i → J.stop i H) ∧ ∀ d, ds[i]? = some d → J.go i H ∧ ∀ x H', J.yld i H x H' → H' = H ∧ Is G F' ι' d x) : ItF G E J F ι ds := by
  intro E2 μ ρ σ H F' ι' i g S
  obtain ⟨h1, h2⟩ := h H F' ι' i g S.rep.sub
  refine ⟨h1, fun d hd => ?_⟩
  obtain ⟨h3, h4⟩ := h2 d hd
  refine ⟨h3, fun x H' y => ?_⟩
  obtain ⟨rfl, i⟩ := h4 x H' y
  exact ⟨F', Grow.refl _ _, S, i, fun _ h => h, fun _ h => .inl h, fun _ _ h => h⟩
theorem itF_tup {a : Addr} {vs : List V} {ds : List D} (hq : SqT G.K F a vs) (hs : IsAll G F ι ds vs) : ItF G E (Itt G.K a) F ι ds := itF_same fun H F' ι' i g sub => by
  have hq' : SqT G.K H a vs := SqT.grow sub (SqT.grow g.f hq)
  refine ⟨fun hl => ⟨vs, hq', by rw [← hs.length]; exact hl⟩, fun d hd => ?_⟩
  obtain ⟨v, e, iv⟩ := (hs.grow g).get hd
  exact ⟨⟨vs, v, hq', e⟩, fun x H' ⟨e1, e2⟩ => ⟨e1, by have := e2 vs hq'; rw [e] at this; cases this; exact iv⟩⟩
theorem itF_lst {a : Addr} {vs : List V} {ds : List D} (hq : SqL G.K F a vs) (hs : IsAll G F ι ds vs) : ItF G E (Itl G.K a) F ι ds := itF_same fun H F' ι' i g sub => by
  have hq' : SqL G.K H a vs := SqL.grow sub (SqL.grow g.f hq)
  refine ⟨fun hl => ⟨vs, hq', by rw [← hs.length]; exact hl⟩, fun d hd => ?_⟩
  obtain ⟨v, e, iv⟩ := (hs.grow g).get hd
  exact ⟨⟨vs, v, hq', e⟩, fun x H' ⟨e1, e2⟩ => ⟨e1, by have := e2 vs hq'; rw [e] at this; cases this; exact iv⟩⟩
theorem itF_rng {lo : Int} {m : Nat} : ItF G E (Itr lo m) F ι (rngD lo m) := itF_same fun H F' ι' i g sub => by
  refine ⟨fun hl => ?_, fun d hd => ?_⟩
  · have : (rngD lo m).length = m := by simp [rngD]
    rw [this] at hl
    exact hl
  · have hi : i < m := by
      have := (List.getElem?_eq_some_iff.mp hd).1
      simpa [rngD] using this
    have e : d = .int (lo + i) := by
      simp [rngD, List.getElem?_range hi] at hd
      exact hd.symm
    exact ⟨hi, fun x H' ⟨e1, e2⟩ => ⟨e1, by rw [e, e2]; exact .int _⟩⟩
end
section
variable {G : GC} {n : Nat} {N : List Str} {sc : Scope} {X : Cx} {qc : Bool} {k : Bool} {pos : Pos} {tg : Expr}
theorem PI.imp {it : Expr} {t t' : TI} (h : PI X tg it t) (i : ∀ σ H R, t' σ H R → t σ H R) : PI X tg it t' := ⟨fun pins s σ H R I q => h.run pins s σ H R I (i σ H R q)⟩
theorem di_tup (c : Cxt G n N sc X qc) {l : Expr} {el : Ev} (hl : DE G X true l el) : DI G X tg l (evSqT el) := ⟨fun E W tk => PI.imp (pi_tup (hl.run E W tk)) fun σ H R h => by
  obtain ⟨F, ι, μ, ρ, S, o⟩ := h
  refine tE_bindI S o fun F1 ι1 μ1 H1 d v S1 g1 i1 o1 => ?_
  split at o1
  · cases (show Is G F1 ι1 _ v from i1) with
    | tup hq hs => exact ⟨_, rfl, ⟨_, by rw [c.eK]; exact SqT.grow S1.rep.sub hq⟩, o1 F1 ι1 H1 _ S1 (Grow.refl _ _) (by rw [c.eK]; exact itF_tup hq hs)⟩
  · exact o1.elim⟩
theorem di_lst (c : Cxt G n N sc X qc) {l : Expr} {el : Ev} (hl : DE G X true l el) : DI G X tg l (evSqL el) := ⟨fun E W tk => PI.imp (pi_list (hl.run E W tk)) fun σ H R h => by
  obtain ⟨F, ι, μ, ρ, S, o⟩ := h
  refine tE_bindI S o fun F1 ι1 μ1 H1 d v S1 g1 i1 o1 => ?_
  split at o1
  · cases (show Is G F1 ι1 _ v from i1) with
    | lst hq hs => exact ⟨_, rfl, ⟨_, .inl (.inl (S1.rep.sub _ _ hq))⟩, o1 F1 ι1 H1 _ S1 (Grow.refl _ _) (by rw [c.eK]; exact itF_lst (.inl (.inl hq)) hs)⟩
  · cases (show Is G F1 ι1 _ v from i1) with
    | scr hq hs => exact ⟨_, rfl, ⟨_, by rw [c.eK]; exact SqL.grow S1.rep.sub hq⟩, o1 F1 ι1 H1 _ S1 (Grow.refl _ _) (by rw [c.eK]; exact itF_lst hq hs)⟩
  · exact o1.elim⟩
/-- no def of the text hides the name -/
theorem di_r1 (c : Cxt G n N sc X qc) {a : Expr} {ea : EvL} {p : Pos} (hm : G.mg "range" = none) (ha : DA G X true [a] ea) (hg : gloB sc "range" = true := by rfl) (hs : starEach [a] X.env = [(false, eval a X.env)] := by rfl) : DI G X tg (.Call (.Name "range" p) [a] [] pos) (evR1 ea) := ⟨fun E W tk => PI.imp (pi_range1 (c.gl hg) (by rw [c.emg]; exact hm) (ha.run E W tk) hs) fun σ H R h => by
  obtain ⟨F, ι, μ, ρ, S, o⟩ := h
  refine tL_bindI S o fun F1 ι1 μ1 H1 ds vs S1 g1 i1 o1 => ?_
  split at o1
  · split at o1
    · next hz =>
      have ia := i1.all
      cases ia with
      | cons i t =>
        cases t
        cases i
        exact ⟨_, rfl, hz.1, hz.2, o1 F1 ι1 H1 _ S1 (Grow.refl _ _) itF_rng⟩
    · exact o1.elim
  · exact o1.elim⟩
theorem di_r2 (c : Cxt G n N sc X qc) {a b : Expr} {ea : EvL} {p : Pos} (hm : G.mg "range" = none) (ha : DA G X true [a, b] ea) (hg : gloB sc "range" = true := by rfl) (hs : starEach [a, b] X.env = [(false, eval a X.env), (false, eval b X.env)] := by rfl) (hs2 : starEach [b] X.env = [(false, eval b X.env)] := by rfl) : DI G X tg (.Call (.Name "range" p) [a, b] [] pos) (evR2 ea) := ⟨fun E W tk => PI.imp (pi_range2 (c.gl hg) (by rw [c.emg]; exact hm) (ha.run E W tk) hs hs2) fun σ H R h => by
  obtain ⟨F, ι, μ, ρ, S, o⟩ := h
  refine tL_bindI S o fun F1 ι1 μ1 H1 ds vs S1 g1 i1 o1 => ?_
  split at o1
  · split at o1
    · next hz =>
      have ia := i1.all
      cases ia with
      | cons i t =>
        cases t with
        | cons i2 t =>
          cases t
          cases i
          cases i2
          exact ⟨_, _, rfl, hz, o1 F1 ι1 H1 _ S1 (Grow.refl _ _) itF_rng⟩
    · exact o1.elim
  · exact o1.elim⟩
end

/-! ### for, while -/
def forL (t : Tg) (b : Es) : List D → Es
  | [], ρ, μ => .ok (.nx, ρ) μ
  | d :: ds, ρ, μ => (t d ρ μ).bind fun ρ1 μ1 => (b ρ1 μ1).bind fun r μ2 => match r with
    | (.nx, ρ2) => forL t b ds ρ2 μ2
    | (.ct, ρ2) => forL t b ds ρ2 μ2
    | (.bk, ρ2) => .ok (.nx, ρ2) μ2
    | (.rt d, ρ2) => .ok (.rt d, ρ2) μ2
def sFor (ei : EvL) (t : Tg) (b : Es) : Es := fun ρ μ => (ei ρ μ).bind fun ds μ1 => forL t b ds ρ μ1
def whL (ec : Ev) (b : Es) : Nat → Es
  | 0, _, _ => .bad
  | k + 1, ρ, μ => (ec ρ μ).bind fun x μ1 => match x with
    | .bl true => (b ρ μ1).bind fun r μ2 => match r with
      | (.nx, ρ2) => whL ec b k ρ2 μ2
      | (.ct, ρ2) => whL ec b k ρ2 μ2
      | (.bk, ρ2) => .ok (.nx, ρ2) μ2
      | (.rt d, ρ2) => .ok (.rt d, ρ2) μ2
    | .bl false => .ok (.nx, ρ) μ1
    | _ => .bad
def sWh (fu : Sls → Mem → Nat) (ec : Ev) (b : Es) : Es := fun ρ μ => whL ec b (fu ρ μ) ρ μ
section
variable {G : GC} {n : Nat} {N : List Str} {sc : Scope} {X : Cx} {qc : Bool} {k : Bool} {pos : Pos} {tg iter : Expr} {body : List Stmt}
theorem ds_for (c : Cxt G n N sc X) {ei : EvL} {t : Tg} {b : Es} (hi : DI G X tg iter ei) (hg : DG G X tg t) (hb : DSs G X body b) (hs : ∀ x, foldedSetIterable iter X.env x = pure x := by intro _; rfl) : DS G X (.For tg iter body [] pos) (sFor ei t b) :=
  ⟨fun E W hw tk hp => PS.imp (ps_for hp c.calm (hi.run E W tk) (hg.run E W tk) (hb.run E W hw tk hp) hs) fun Dn σ H h => by
    obtain ⟨F, ι, μ, ρ, S, o⟩ := h
    show tI G E W ei σ H _
    refine ⟨F, ι, μ, ρ, S, ?_⟩
    simp only [sFor] at o
    cases q : ei ρ μ with
    | exc cc ds m => rw [q] at o; exact fun F' ι' H' cls xd S' g i => o F' ι' ρ σ H' cls xd S' g i
    | bad => rw [q] at o; exact o
    | ok ds μ0 =>
      rw [q] at o
      have o : OutS G E F ι W Dn (forL t b ds ρ μ0) := o
      intro F0 ι0 H0 J S0 g0 hJ
      refine ⟨fun i m σ H => ∃ F1 ι1 μ1 ρ1, m = ds.length - i ∧ Grow F0 ι0 F1 ι1 ∧ Stt G E F1 ι1 μ1 ρ1 σ H ∧ OutS G E F1 ι1 W Dn (forL t b (ds.drop i) ρ1 μ1), ⟨_, F0, ι0, μ0, ρ, rfl, Grow.refl _ _, S0, OutS.grow g0 o⟩, ?_⟩
      rintro i m σ H ⟨F1, ι1, μ1, ρ1, rfl, g1, S1, o1⟩
      obtain ⟨j1, j2⟩ := hJ E μ1 ρ1 σ H F1 ι1 i g1 S1
      by_cases hl : i < ds.length
      · have ed : ds[i]? = some ds[i] := List.getElem?_eq_getElem hl
        obtain ⟨j3, j4⟩ := j2 _ ed
        rw [List.drop_eq_getElem_cons hl] at o1
        refine .inr ⟨j3, fun σ' H' => ∃ F2 ι2 μ2 ρ2, Grow F0 ι0 F2 ι2 ∧ Stt G E F2 ι2 μ2 ρ2 σ' H' ∧ OutS G E F2 ι2 W Dn (forL t b (ds.drop (i + 1)) ρ2 μ2), fun σ' H' ⟨F2, ι2, μ2, ρ2, g2, S2, o2⟩ => ⟨_, by omega, F2, ι2, μ2, ρ2, rfl, g2, S2, o2⟩, fun x H' y => ?_⟩
        obtain ⟨F2, g2, S2, i2, _⟩ := j4 x H' y
        refine ⟨F2, ι1, μ1, ρ1, ds[i], S2, i2, ?_⟩
        have o2 := OutS.grow g2 o1
        simp only [forL] at o2
        cases q2 : t ds[i] ρ1 μ1 with
        | exc cc ds m => rw [q2] at o2; exact fun F' ι' ρ' σ' H' cls xd S' g i => o2 F' ι' ρ' σ' H' cls xd S' g i
        | bad => rw [q2] at o2; exact o2
        | ok ρ3 μ3 =>
          rw [q2] at o2
          have o2 : OutS G E F2 ι1 W Dn ((b ρ3 μ3).bind fun r μ2 => match r with
            | (.nx, ρ2) => forL t b (ds.drop (i + 1)) ρ2 μ2
            | (.ct, ρ2) => forL t b (ds.drop (i + 1)) ρ2 μ2
            | (.bk, ρ2) => .ok (.nx, ρ2) μ2
            | (.rt d, ρ2) => .ok (.rt d, ρ2) μ2) := o2
          intro F3 ι3 σ3 H3 S3 g3
          refine ⟨F3, ι3, μ3, ρ3, S3, ?_⟩
          have o3 := OutS.grow g3 o2
          have g03 := (g1.trans g2).trans g3
          cases q3 : b ρ3 μ3 with
          | exc cc ds m => rw [q3] at o3; exact o3
          | bad => rw [q3] at o3; exact o3
          | ok r μ4 =>
            rw [q3] at o3
            obtain ⟨f, ρ4⟩ := r
            cases f with
            | nx => exact fun F4 ι4 σ4 H4 S4 g4 => ⟨F4, ι4, μ4, ρ4, g03.trans g4, S4, OutS.grow g4 o3⟩
            | ct => exact fun F4 ι4 σ4 H4 S4 g4 => ⟨F4, ι4, μ4, ρ4, g03.trans g4, S4, OutS.grow g4 o3⟩
            | bk => exact o3
            | rt d => exact o3
      · have e : ds.drop i = [] := List.drop_eq_nil_of_le (by omega)
        rw [e] at o1
        exact .inl ⟨j1 (by omega), o1 F1 ι1 σ H S1 (Grow.refl _ _)⟩⟩
theorem ds_while (fu : Sls → Mem → Nat) {cd : Expr} {ec : Ev} {b : Es} (hc : DT G X cd ec) (hb : DSs G X body b) : DS G X (.While cd body [] pos) (sWh fu ec b) :=
  ⟨fun E W hw tk hp => PS.imp (ps_while hp (hc.run E W tk) (hb.run E W hw tk hp)) fun Dn σ H h => by
    obtain ⟨F, ι, μ, ρ, S, o⟩ := h
    refine ⟨fun m σ H => ∃ F1 ι1 μ1 ρ1, Grow F ι F1 ι1 ∧ Stt G E F1 ι1 μ1 ρ1 σ H ∧ OutS G E F1 ι1 W Dn (whL ec b m ρ1 μ1), ⟨fu ρ μ, F, ι, μ, ρ, Grow.refl _ _, S, o⟩, ?_⟩
    rintro m σ H ⟨F1, ι1, μ1, ρ1, g1, S1, o1⟩
    cases m with
    | zero => exact o1.elim
    | succ m =>
      refine tT_bindS S1 o1 (fun d μ' hd => by cases d <;> first | rfl | exact absurd rfl (hd _)) fun F2 ι2 μ2 H2 x S2 g2 o2 => ?_
      cases x with
      | false => rw [if_neg Bool.false_ne_true]; exact o2 F2 ι2 σ H2 S2 (Grow.refl _ _)
      | true =>
        rw [if_pos rfl]
        refine ⟨fun σ' H' => ∃ F3 ι3 μ3 ρ3, Grow F ι F3 ι3 ∧ Stt G E F3 ι3 μ3 ρ3 σ' H' ∧ OutS G E F3 ι3 W Dn (whL ec b m ρ3 μ3), fun σ' H' h => ⟨m, Nat.lt_succ_self _, h⟩, F2, ι2, μ2, ρ1, S2, ?_⟩
        have o2 : OutS G E F2 ι2 W Dn ((b ρ1 μ2).bind fun r μ3 => match r with
          | (.nx, ρ2) => whL ec b m ρ2 μ3
          | (.ct, ρ2) => whL ec b m ρ2 μ3
          | (.bk, ρ2) => .ok (.nx, ρ2) μ3
          | (.rt d, ρ2) => .ok (.rt d, ρ2) μ3) := o2
        cases q3 : b ρ1 μ2 with
        | exc cc ds m => rw [q3] at o2; exact o2
        | bad => rw [q3] at o2; exact o2
        | ok r μ4 =>
          rw [q3] at o2
          obtain ⟨f, ρ4⟩ := r
          cases f with
          | nx => exact fun F4 ι4 σ4 H4 S4 g4 => ⟨F4, ι4, μ4, ρ4, (g1.trans g2).trans g4, S4, OutS.grow g4 o2⟩
          | ct => exact fun F4 ι4 σ4 H4 S4 g4 => ⟨F4, ι4, μ4, ρ4, (g1.trans g2).trans g4, S4, OutS.grow g4 o2⟩
          | bk => exact o2
          | rt d => exact o2⟩
end
end PyI

set_option Elab.async false
set_option linter.all false
set_option maxRecDepth 100000
set_option maxHeartbeats 4000000
namespace PyI
open PySem PySem.Spec PyProof.Rows L2

/-! ### list comprehensions -/
def noX {α : Type} (o : Out α) : Out α := match o with
  | .exc _ _ _ => .bad
  | .ok a m => .ok a m
  | .bad => .bad
def wipeS (ρ : Sls) : List Nat → Sls
  | [] => ρ
  | v :: vs => (wipeS ρ vs).set v .un
def lcL (t : Tg) (ec ee : Ev) (vs : List Nat) (ρ : Sls) : List D → Mem → Out (List D)
  | [], μ => .ok [] μ
  | d :: ds, μ => (noX (t d (wipeS ρ vs) μ)).bind fun ρ1 μ1 => (noX (ec ρ1 μ1)).bind fun c μ2 => match c with
    | .bl true => (noX (ee ρ1 μ2)).bind fun y μ3 => (lcL t ec ee vs ρ ds μ3).bind fun ys μ4 => .ok (y :: ys) μ4
    | .bl false => lcL t ec ee vs ρ ds μ2
    | _ => .bad
def evLc (ei : EvL) (t : Tg) (ec ee : Ev) (vs : List Nat) : Ev := fun ρ μ => (ei ρ μ).bind fun ds μ1 => if ds.length ≤ sizeLine then (lcL t ec ee vs ρ ds μ1).bind fun ys μ2 => .ok (.lst ys) μ2 else .bad
section
variable {G : GC} {E : Ent} {F F' : Hp} {ι ι' : List Addr} {μ μ' : Mem} {ρ : Sls} {σ : L2.St} {H H' : Hp} {W : WX}
theorem Stt.wipe (S : Stt G E F ι μ ρ σ H) : ∀ vs : List Nat, Stt G E F ι μ (wipeS ρ vs) (L2.wipe σ vs) H
  | [] => S
  | v :: vs => (S.wipe vs).wipe1 v
theorem Stt.poke (S : Stt G E F ι μ ρ σ H) {p : Addr} {o : HO} (hF : F p = none) (hI : p ∉ ι) (hE : E.H p = none) (hO : ∀ (i : Nat) (xs : List D), ρ[i]? = some (.ol xs) → σ[i]? ≠ some (some (.ref p))) (hH : H p = none ∨ ∃ xs, H p = some (.lst xs)) : Stt G E F ι μ ρ σ (upd H p o) := by
  have hT : LamX.Tabs G.tb (upd H p o) := tabs_upd S.rep.tab (hH.elim .non fun ⟨_, z⟩ => .lst z)
  refine ⟨⟨fun a u h => ?_, S.rep.nd, S.rep.off, ?_, hT, S.rep.ftb⟩, S.len, S.slot, fun i xs e => ?_, S.dis, ⟨S.ext.grow, fun a u h ha => ?_, fun a h => ?_, S.ext.newc, S.ext.newf, S.ext.ntE⟩⟩
  · have n : a ≠ p := fun z => by rw [z, hF] at h; cases h
    rw [upd_ne n]; exact S.rep.sub a u h
  · exact paired_keep S.rep.cell fun c a ha r => r.keep (Grow.refl _ _) (upd_ne (fun z => hI (z ▸ ha)))
  · obtain ⟨a, vs, h1, h2, h3, h4, h5, h6⟩ := S.own i xs e
    have n : a ≠ p := fun z => hO i xs e (by rw [← z]; exact h1)
    exact ⟨a, vs, h1, by rw [upd_ne n]; exact h2, h3, h4, h5, h6⟩
  · have n : a ≠ p := fun z => by rw [z, hE] at h; cases h
    rw [upd_ne n]; exact S.ext.keep a u h ha
  · by_cases q : a = p
    · subst q; exact hE
    · refine S.ext.there a ?_
      unfold nt at h ⊢; rw [upd_ne q] at h; exact h
theorem wipe_out {σ : L2.St} {i : Nat} {x : Option V} : ∀ {vs : List Nat}, i ∉ vs → L2.wipe (σ.set i x) vs = (L2.wipe σ vs).set i x
  | [], _ => rfl
  | v :: vs, h => by
    simp only [List.mem_cons, not_or] at h
    show (L2.wipe (σ.set i x) vs).set v none = ((L2.wipe σ vs).set v none).set i x
    rw [wipe_out h.2, List.set_comm _ _ h.1]
theorem wipe_in {σ : L2.St} {i : Nat} {x : Option V} : ∀ {vs : List Nat}, i ∈ vs → L2.wipe (σ.set i x) vs = L2.wipe σ vs
  | v :: vs, h => by
    show (L2.wipe (σ.set i x) vs).set v none = (L2.wipe σ vs).set v none
    by_cases q : i ∈ vs
    · rw [wipe_in q]
    · rw [wipe_out q]
      have e : i = v := by
        rcases List.mem_cons.mp h with h | h
        · exact h
        · exact absurd h q
      rw [e, List.set_set]
theorem wipe_sub : ∀ {us : List Nat} {vs : List Nat}, (∀ v ∈ us, v ∈ vs) → L2.wipe (L2.wipe σ us) vs = L2.wipe σ vs
  | [], _, _ => rfl
  | u :: us, vs, h => by
    show L2.wipe ((L2.wipe σ us).set u none) vs = _
    rw [wipe_in (h u (List.mem_cons_self ..))]
    exact wipe_sub fun v hv => h v (List.mem_cons_of_mem _ hv)
end
/-- a target within a block: it changes the block's own slots alone -/
structure DGB (G : GC) (X : Cx) (vs : List Nat) (tg : Expr) (t : Tg) : Prop where
  run : ∀ (E : Ent) (W : WX), PG X tg fun v σ H Q => tG G E W t v σ H fun σ' H' => L2.wipe σ' vs = L2.wipe σ vs → Q σ' H'
structure DGBs (G : GC) (X : Cx) (vs : List Nat) (tg : List Expr) (t : TgL) : Prop where
  run : ∀ (E : Ent) (W : WX), PGs X tg fun v σ H Q => tGs G E W t v σ H fun σ' H' => L2.wipe σ' vs = L2.wipe σ vs → Q σ' H'
structure DTs (G : GC) (X : Cx) (ifs : List Expr) (ec : Ev) : Prop where
  run : ∀ (E : Ent) (W : WX), Takes X W → PTs X ifs (tT G E W ec)
section
variable {G : GC} {n : Nat} {N : List Str} {sc : Scope} {X : Cx} {qc : Bool} {k : Bool} {pos : Pos} {vs : List Nat}
theorem PTs.imp {ifs : List Expr} {t t' : TT} (h : PTs X ifs t) (i : ∀ σ H Q, t' σ H Q → t σ H Q) : PTs X ifs t' := ⟨fun pins s σ H Q I q => h.run pins s σ H Q I (i σ H Q q)⟩
theorem dts_nil : DTs G X [] (evC (.bl true)) := ⟨fun E W tk => PTs.imp pts_nil fun σ H Q ⟨F, ι, μ, ρ, S, o⟩ => o F ι H S (Grow.refl _ _)⟩
theorem dts_one {e : Expr} {ec : Ev} (h : DT G X e ec) : DTs G X [e] ec := ⟨fun E W tk => pts_one (h.run E W tk)⟩
theorem dgb_nm (c : Cxt G n N sc X qc) (i : Nat) {x : Str} (hi : N[i]? = some x := by rfl) (hx : locB sc x = true := by rfl) (hv : i ∈ vs := by decide) : DGB G X vs (.Name x pos) (gNm i) :=
  ⟨fun E W => PG.imp (pg_name (by rw [c.eN]; exact c.nd) (by rw [c.eN]; exact hi) (.inl (c.loc hx)) (.inr (c.loc hx))) fun v σ H Q h => by
    obtain ⟨F, ι, μ, ρ, d, S, iv, o⟩ := h
    exact o F ι _ H (S.set iv) (Grow.refl _ _) (wipe_in hv)⟩
theorem dgb_nmC (c : Cxt G n N sc X qc) (i : Nat) {x : Str} (hf : X.fn x = true) (hi : N[i]? = some x := by rfl) (hx : celB sc x = true := by rfl) (hv : i ∈ vs := by decide) : DGB G X vs (.Name x pos) (gNm i) :=
  ⟨fun E W => PG.imp (pg_name (by rw [c.eN]; exact c.nd) (by rw [c.eN]; exact hi) (.inr (c.cel hx)) (.inl hf)) fun v σ H Q h => by
    obtain ⟨F, ι, μ, ρ, d, S, iv, o⟩ := h
    exact o F ι _ H (S.set iv) (Grow.refl _ _) (wipe_in hv)⟩
theorem dgbs_nil : DGBs G X vs [] gsNil := ⟨fun E W => PGs.imp pgs_nil fun v σ H Q h => by
  obtain ⟨F, ι, μ, ρ, ds, S, iv, o⟩ := h
  cases iv with
  | nil => exact ⟨rfl, o F ι _ H S (Grow.refl _ _) rfl⟩
  | cons _ _ => exact o.elim⟩
theorem dgbs_cons {e : Expr} {es : List Expr} {t : Tg} {u : TgL} (h1 : DGB G X vs e t) (h2 : DGBs G X vs es u) (hs : (assignEach (e :: es) X.env).map (·.2) = assign e X.env :: (assignEach es X.env).map (·.2) := by rfl) : DGBs G X vs (e :: es) (gsCons t u) :=
  ⟨fun E W => PGs.imp (pgs_cons (h1.run E W) (h2.run E W) hs) fun v σ H Q h => by
    obtain ⟨F, ι, μ, ρ, ds, S, iv, o⟩ := h
    cases iv with
    | nil => exact o.elim
    | @cons d v ds vs i r =>
      refine ⟨v, vs, rfl, F, ι, μ, ρ, d, S, i, ?_⟩
      simp only [gsCons] at o
      cases q : t d ρ μ with
      | ok ρ1 μ1 =>
        rw [q] at o
        refine fun F' ι' σ' H' S' g hw => ⟨F', ι', μ1, ρ1, ds, S', r.grow g, ?_⟩
        have o' := OutG.grow g (show OutG G E F ι W _ (u ds ρ1 μ1) from o)
        rw [hw]
        exact o'
      | exc c ds m => rw [q] at o; exact o
      | bad => rw [q] at o; exact o⟩
theorem dgb_tp (c : Cxt G n N sc X) {es : List Expr} {kk : Nat} {u : TgL} {m : Nat} (h : DGBs G X vs es u) (hn : (assignEach es X.env).length = m := by rfl) (hst : (assignEach es X.env).findIdx? (·.1) = none := by rfl) : DGB G X vs (.Tuple es kk pos) (gTp m u) :=
  ⟨fun E W => PG.imp (pg_tup c.calm (h.run E W) hn hst) fun v σ H Q h => by
    obtain ⟨F, ι, μ, ρ, d, S, iv, o⟩ := h
    unfold gTp at o
    split at o
    · split at o
      · next hl =>
        cases iv with
        | tup hq hs => exact ⟨_, _, rfl, by rw [c.eK]; exact SqT.grow S.rep.sub hq, hs.length.symm.trans hl, F, ι, μ, ρ, _, S, hs, o⟩
      · exact o.elim
    · exact o.elim⟩
theorem Cxt.blk (c : Cxt G n N sc X) (s : Shared) (H : Hp) (scope : Scope) (C : Addr) (cl : List (Str × Addr)) (fp : List Addr) : Cxt G n N (relS scope sc) (X.blk s H scope (compEnvC scope cl C X.env) fp) :=
  ⟨c.eP, c.ew, c.eK, c.emg, c.eb, c.eN, by rw [← c.esc]; rfl, fun _ => c.calm, fun _ => c.room, c.unt, c.gua, c.nd⟩
def noW : WX := fun _ _ _ _ => False
theorem takes_no : Takes X noW := fun u s' ⟨_, _, _, _, _, _, _, _, _, _, _, _, _, _, _, _, w⟩ => w.elim
theorem PE.ex {α : Type} {e : Expr} {t : α → TE} (h : ∀ x, PE X e (t x)) : PE X e (fun σ H Q => ∃ x, t x σ H Q) := ⟨fun pins s σ H Q I ⟨x, q⟩ => (h x).run pins s σ H Q I q⟩
theorem PTs.ex {α : Type} {e : List Expr} {t : α → TT} (h : ∀ x, PTs X e (t x)) : PTs X e (fun σ H Q => ∃ x, t x σ H Q) := ⟨fun pins s σ H Q I ⟨x, q⟩ => (h x).run pins s σ H Q I q⟩
theorem PG.ex {α : Type} {e : Expr} {t : α → TG} (h : ∀ x, PG X e (t x)) : PG X e (fun v σ H Q => ∃ x, t x v σ H Q) := ⟨fun pins s σ H v u Q I r ⟨x, q⟩ => (h x).run pins s σ H v u Q I r q⟩
theorem tLc_of {E : Ent} {W : WX} {ei : EvL} {t : Tg} {ec ee : Ev} {σ : L2.St} {H : Hp} {Q : VK} (h : tE G E true W (evLc ei t ec ee vs) σ H Q) :
    tLc (tI G E W ei) (fun v σ H Q => ∃ E', tG G E' noW t v σ H fun σ' H' => L2.wipe σ' vs = L2.wipe σ vs → Q σ' H') (fun σ H Q => ∃ E', tT G E' noW ec σ H Q) (fun σ H Q => ∃ E', tE G E' true noW ee σ H Q) vs σ H Q := by
  obtain ⟨F, ι, μ, ρ, S, o⟩ := h
  refine ⟨F, ι, μ, ρ, S, ?_⟩
  simp only [evLc] at o
  cases q : ei ρ μ with
  | exc cc ds m => rw [q] at o; exact o
  | bad => rw [q] at o; exact o
  | ok ds μ0 =>
    rw [q] at o
    have o : OutE G E true F ι ρ σ W Q (if ds.length ≤ sizeLine then (lcL t ec ee vs ρ ds μ0).bind fun ys μ2 => .ok (.lst ys) μ2 else .bad) := o
    by_cases hz : ds.length ≤ sizeLine
    case neg => rw [if_neg hz] at o; exact o.elim
    rw [if_pos hz] at o
    intro F0 ι0 H0 J S0 g0 hJ L hL
    have hE : E.H L = none := S0.ext.there L (nt_none hL)
    have hO : ∀ (i : Nat) (xs : List D), ρ[i]? = some (.ol xs) → σ[i]? ≠ some (some (.ref L)) := fun i xs e z => by
      obtain ⟨a, ws, h1, h2, _⟩ := S0.own i xs e
      rw [z] at h1
      cases h1
      rw [hL] at h2; cases h2
    have F0L : F0 L = none := by
      cases q : F0 L with
      | none => rfl
      | some u => have := S0.rep.sub _ _ q; rw [hL] at this; cases this
    have I0L : L ∉ ι0 := fun z => S0.rep.at z hL
    refine ⟨fun i m H => ∃ F1 ι1 μ1 acc ws, m = ds.length - i ∧ acc.length ≤ i ∧ Grow F0 ι0 F1 ι1 ∧ Stt G E F1 ι1 μ1 ρ σ H ∧ H L = some (.lst ws) ∧ IsAll G F1 ι1 acc ws ∧ F1 L = none ∧ L ∉ ι1 ∧
      OutE G E true F1 ι1 ρ σ W Q ((lcL t ec ee vs ρ (ds.drop i) μ1).bind fun ys μ2 => .ok (.lst (acc ++ ys)) μ2), ⟨_, F0, ι0, μ0, [], [], rfl, Nat.le_refl _, Grow.refl _ _, S0.poke F0L I0L hE hO (.inl hL), upd_same, .nil, F0L, I0L, OutE.grow g0 o⟩, ?_⟩
    rintro i m H ⟨F1, ι1, μ1, acc, ws, rfl, hacc, g1, S1, hH, iw, F1L, I1L, o1⟩
    obtain ⟨j1, j2⟩ := hJ E μ1 ρ σ H F1 ι1 i g1 S1
    by_cases hl : i < ds.length
    · have ed : ds[i]? = some ds[i] := List.getElem?_eq_getElem hl
      obtain ⟨j3, j4⟩ := j2 _ ed
      rw [List.drop_eq_getElem_cons hl] at o1
      refine .inr ⟨j3, fun H' => ∃ F1 ι1 μ1 acc ws, acc.length ≤ i + 1 ∧ Grow F0 ι0 F1 ι1 ∧ Stt G E F1 ι1 μ1 ρ σ H' ∧ H' L = some (.lst ws) ∧ IsAll G F1 ι1 acc ws ∧ F1 L = none ∧ L ∉ ι1 ∧
        OutE G E true F1 ι1 ρ σ W Q ((lcL t ec ee vs ρ (ds.drop (i + 1)) μ1).bind fun ys μ2 => .ok (.lst (acc ++ ys)) μ2), fun H' ⟨F1, ι1, μ1, acc, ws, h⟩ => ⟨_, by omega, F1, ι1, μ1, acc, ws, rfl, h⟩, fun x H' y => ?_⟩
      obtain ⟨F2, g2, S2, i2, hn, hf, hk⟩ := j4 x H' y
      have hH2 : H' L = some (.lst ws) := hk L _ hH
      have hHn : nt H' L = some (.lst ws) := nt_of hH2 fun _ z => nomatch z
      have F2L : F2 L = none := by
        cases q : F2 L with
        | none => rfl
        | some u =>
          rcases hf L (by rw [q]; simp) with z | z
          · exact absurd F1L z
          · rw [hH] at z; cases z
      have Sw := (S2.wipe vs).here
      have o2 := OutE.grow g2 o1
      -- what stays of L
      have stay : ∀ {F3 : Hp} {ι3 : List Addr} {H3 : Hp}, (∀ a o, F3 a = some o → H3 a = some o) → Ext ⟨ι1, F2, nt H', false⟩ F3 ι3 H3 → H3 L = some (.lst ws) ∧ F3 L = none ∧ L ∉ ι3 := fun {F3 ι3 H3} sb x => by
        refine ⟨x.keep L _ hHn I1L, ?_, fun z => ?_⟩
        · cases q : F3 L with
          | none => rfl
          | some u =>
            rcases x.newf L u q (fun fs z => by have := (sb L u q).symm.trans (x.keep L _ hHn I1L); cases this; cases z) with z | z
            · rw [show F2 L = some u from z] at F2L; cases F2L
            · rw [show nt H' L = none from z] at hHn; cases hHn
        · rcases x.newc L z with z | z
          · exact I1L z
          · rw [show nt H' L = none from z] at hHn; cases hHn
      refine ⟨⟨ι1, F2, nt H', false⟩, F2, ι1, μ1, wipeS ρ vs, ds[i], Sw, i2, ?_⟩
      simp only [lcL] at o2
      cases q1 : t ds[i] (wipeS ρ vs) μ1 with
      | exc cc ds m => rw [q1] at o2; exact o2.elim
      | bad => rw [q1] at o2; exact o2.elim
      | ok ρ1 μ2 =>
        rw [q1] at o2
        intro F3 ι3 σ3 H3 S3 g3 hw
        refine ⟨hw.trans (wipe_sub fun _ h => h), ⟨ι1, F2, nt H', false⟩, F3, ι3, μ2, ρ1, S3, ?_⟩
        have o2 : OutE G E true F2 ι1 ρ σ W Q (((noX (ec ρ1 μ2)).bind fun c μ2 => match c with
          | .bl true => (noX (ee ρ1 μ2)).bind fun y μ3 => (lcL t ec ee vs ρ (ds.drop (i + 1)) μ3).bind fun ys μ4 => .ok (y :: ys) μ4
          | .bl false => lcL t ec ee vs ρ (ds.drop (i + 1)) μ2
          | _ => .bad).bind fun ys μ2 => .ok (.lst (acc ++ ys)) μ2) := o2
        cases q2 : ec ρ1 μ2 with
        | exc cc ds m => rw [q2] at o2; exact o2.elim
        | bad => rw [q2] at o2; exact o2.elim
        | ok cd μ3 =>
          rw [q2] at o2
          cases cd with
          | bl b =>
            intro F4 ι4 H4 S4 g4
            have S5 := S2.call S4.ext S4.rep
            obtain ⟨l1, l2, l3⟩ := stay S4.rep.sub S4.ext
            have g14 : Grow F1 ι1 F4 ι4 := g2.trans S4.ext.grow
            cases b with
            | false =>
              rw [if_neg Bool.false_ne_true]
              exact ⟨F4, ι4, μ3, acc, ws, Nat.le_succ_of_le hacc, g1.trans g14, S5, l1, iw.grow g14, l2, l3, OutE.grow S4.ext.grow o2⟩
            | true =>
              rw [if_pos rfl]
              have o3 : OutE G E true F2 ι1 ρ σ W Q (((noX (ee ρ1 μ3)).bind fun y μ3 => (lcL t ec ee vs ρ (ds.drop (i + 1)) μ3).bind fun ys μ4 => .ok (y :: ys) μ4).bind fun ys μ2 => .ok (.lst (acc ++ ys)) μ2) := o2
              refine ⟨⟨ι1, F2, nt H', false⟩, F4, ι4, μ3, ρ1, S4, ?_⟩
              cases q3 : ee ρ1 μ3 with
              | exc cc ds m => rw [q3] at o3; exact o3.elim
              | bad => rw [q3] at o3; exact o3.elim
              | ok d μ5 =>
                rw [q3] at o3
                intro F5 ι5 H5 v S6 g5 iv
                have S7 := S2.call S6.ext S6.rep
                obtain ⟨l1, l2, l3⟩ := stay S6.rep.sub S6.ext
                have g15 : Grow F1 ι1 F5 ι5 := g2.trans S6.ext.grow
                refine ⟨ws, l1, ?_, F5, ι5, μ5, acc ++ [d], ws ++ [v], ?_, g1.trans g15, S7.poke l2 l3 hE hO (.inr ⟨_, l1⟩), upd_same, (iw.grow g15).append (.cons iv .nil), l2, l3, ?_⟩
                · have := iw.length
                  omega
                · rw [List.length_append, List.length_singleton]
                  omega
                · have o4 : OutE G E true F2 ι1 ρ σ W Q (((lcL t ec ee vs ρ (ds.drop (i + 1)) μ5).bind fun ys μ4 => .ok (d :: ys) μ4).bind fun ys μ2 => .ok (.lst (acc ++ ys)) μ2) := o3
                  refine OutE.grow S6.ext.grow ?_
                  cases q4 : lcL t ec ee vs ρ (ds.drop (i + 1)) μ5 with
                  | exc cc ds m => rw [q4] at o4; exact o4
                  | bad => rw [q4] at o4; exact o4
                  | ok ys m =>
                    rw [q4] at o4
                    have e : acc ++ [d] ++ ys = acc ++ d :: ys := by simp
                    show OutE G E true F2 ι1 ρ σ W Q (.ok (.lst (acc ++ [d] ++ ys)) m)
                    rw [e]
                    exact o4
          | _ => exact o2.elim
    · have e : ds.drop i = [] := List.drop_eq_nil_of_le (by omega)
      rw [e] at o1
      have o1 : OutE G E true F1 ι1 ρ σ W Q (.ok (.lst (acc ++ [])) μ1) := o1
      rw [List.append_nil] at o1
      obtain ⟨g', S'⟩ := S1.frzNew hH F1L I1L hE hO
      exact .inl ⟨j1 (by omega), o1 _ ι1 H (.ref L) S' g' (.lst upd_same (iw.grow g'))⟩
theorem de_lc (c : Cxt G n N sc X) (own : List (Str × Nat)) {elt tg iter : Expr} {ifs : List Expr} {scope : Scope} {ei : EvL} {t : Tg} {ec ee : Ev} (hi : DI G X tg iter ei)
    (hg : ∀ X', Cxt G n N (relS scope sc) X' → DGB G X' (own.map (·.2)) tg t) (ht : ∀ X', Cxt G n N (relS scope sc) X' → DTs G X' ifs ec) (he : ∀ X', Cxt G n N (relS scope sc) X' → DE G X' true elt ee)
    (ok : blkC N sc scope own = true := by rfl) (hs : ∀ x, foldedSetIterable iter X.env x = pure x := by intro _; rfl) : DE G X true (.ListComp elt [⟨tg, iter, ifs, 0⟩] scope pos) (evLc ei t ec ee (own.map (·.2))) :=
  ⟨fun E W tk => PE.imp (pe_lc c.calm (by rw [c.eN]; exact c.nd) (hi.run E W tk) (by rw [c.eN, c.esc]; exact blkOk_by ok)
    (fun s H C cl fp => PG.ex fun E' => (hg _ (c.blk s H scope C cl fp)).run E' noW) (fun s H C cl fp => PTs.ex fun E' => (ht _ (c.blk s H scope C cl fp)).run E' noW takes_no)
    (fun s H C cl fp => PE.ex fun E' => (he _ (c.blk s H scope C cl fp)).run E' noW takes_no) hs) fun σ H Q h => tLc_of h⟩
theorem ds_setLc (c : Cxt G n N sc X) (own : List (Str × Nat)) (i : Nat) {y : Str} {py spos : Pos} {elt tg iter : Expr} {ifs : List Expr} {scope : Scope} {ei : EvL} {t : Tg} {ec ee : Ev} (hi : DI G X tg iter ei)
    (hg : ∀ X', Cxt G n N (relS scope sc) X' → DGB G X' (own.map (·.2)) tg t) (ht : ∀ X', Cxt G n N (relS scope sc) X' → DTs G X' ifs ec) (he : ∀ X', Cxt G n N (relS scope sc) X' → DE G X' true elt ee)
    (hsw : swapsWith (.ListComp elt [⟨tg, iter, ifs, 0⟩] scope pos) (some (.Name y py)) spos.line X.env = pure true)
    (hy : N[i]? = some y := by rfl) (hyl : locB sc y = true := by rfl) (ok : blkC N sc scope own = true := by rfl) (hs : ∀ x, foldedSetIterable iter X.env x = pure x := by intro _; rfl) : DS G X (.Assign [.Name y py] (.ListComp elt [⟨tg, iter, ifs, 0⟩] scope pos) spos) (sAs (evLc ei t ec ee (own.map (·.2))) (gNm i)) :=
  ⟨fun E W hw' tk hp => PS.imp (ps_setLc c.calm (by rw [c.eN]; exact c.nd) (by rw [c.eN]; exact hy) (c.loc hyl) hsw (hi.run E W tk) (by rw [c.eN, c.esc]; exact blkOk_by ok)
    (fun s H C cl fp => PG.ex fun E' => (hg _ (c.blk s H scope C cl fp)).run E' noW) (fun s H C cl fp => PTs.ex fun E' => (ht _ (c.blk s H scope C cl fp)).run E' noW takes_no)
    (fun s H C cl fp => PE.ex fun E' => (he _ (c.blk s H scope C cl fp)).run E' noW takes_no) hs) fun Dn σ H h => by
    obtain ⟨F, ι, μ, ρ, S, o⟩ := h
    refine tLc_of ?_
    exact tE_bindS S o fun F' ι' μ' H' d v S' g iv o' => o' F' ι' _ H' (S'.set iv) (Grow.refl _ _)⟩
end
end PyI

set_option Elab.async false
set_option linter.all false
set_option maxRecDepth 100000
set_option maxHeartbeats 4000000
namespace PyI
open PySem PySem.Spec PyProof.Rows L2

/-! ### from a body to a def -/
def stS (N : List Str) (ds : List D) : Sls := ds.map .v ++ List.replicate (N.length - ds.length) .un
def finF (N : List Str) (es : Es) : Fun := fun ds μ => match es (stS N ds) μ with
  | .ok (.rt d, _) μ' => .ok d μ'
  | .ok (.nx, _) μ' => .ok .non μ'
  | .ok (.bk, _) _ => .bad
  | .ok (.ct, _) _ => .bad
  | .exc c es μ' => .exc c es μ'
  | .bad => .bad
/-- a def's body, not a block -/
structure Bdy (X : Cx) : Prop where
  stk : X.stack = X.env :: X.outer
  frm : X.env.frame = some X.env.locals
  fnt : ∀ x, X.fn x = true
  exn : X.ex = []
theorem stt_start {G : GC} {F : Hp} {ι : List Addr} {μ : Mem} {H : Hp} {N : List Str} {ds : List D} {vs : List V} (r : Rep G F ι μ H) (i : IsAll G F ι ds vs) : Stt G ⟨ι, F, nt H, true⟩ F ι μ (stS N ds) (L2.start N vs) H where
  rep := r
  len := by simp [stS, L2.start, i.length]
  slot := fun j d e => by
    unfold stS at e
    by_cases hj : j < ds.length
    · rw [List.getElem?_append_left (by simpa using hj), List.getElem?_map] at e
      cases q : ds[j]? with
      | none => rw [q] at e; cases e
      | some d' =>
        rw [q] at e
        cases e
        obtain ⟨v, e1, iv⟩ := i.get q
        refine ⟨v, ?_, iv⟩
        unfold L2.start
        rw [List.getElem?_append_left (by simpa [← i.length] using hj), List.getElem?_map, e1]
        rfl
    · rw [List.getElem?_append_right (by simpa using hj)] at e
      have := List.mem_of_getElem? e
      have := List.eq_of_mem_replicate this
      cases this
  own := fun j xs e => by
    unfold stS at e
    have := List.mem_of_getElem? e
    rcases List.mem_append.mp this with z | z
    · obtain ⟨_, _, z⟩ := List.mem_map.mp z
      cases z
    · have := List.eq_of_mem_replicate z
      cases this
  dis := fun j k xs ys a e => by
    unfold stS at e
    have := List.mem_of_getElem? e
    rcases List.mem_append.mp this with z | z
    · obtain ⟨_, _, z⟩ := List.mem_map.mp z
      cases z
    · have := List.eq_of_mem_replicate z
      cases this
  ext := Ext.refl r
def codeAt (K : PySem.W.Frag) (f : Addr) : Addr := match K.lookup f with
  | some ⟨_, _, .func fd, _⟩ => (match fd.code with
    | .ref c => c
    | _ => 0)
  | _ => 0
/-- the def at f runs here -/
structure Lmb (K : PySem.W.Frag) (f : Addr) (x : Str) (X : Cx) : Prop where
  code : X.env.code = .ref (codeAt K f)
  qual : X.env.qual = (envOfC x X.env.scope 0 0 .none).qual
theorem fnC_of {G : GC} {k i : Nat} {x : Str} {st : Stmt} {N ps : List Str} {es : Es} {fd : FuncData} {dvs : List V} (F : FunD G.K x x (defArgs st) (defBody st) (defScope st) dvs [] (G.fa i) fd) (hm : G.mg x = some (.ref (G.fa i))) (S : FnScope N ps (defScope st))
    (hb : ∀ X, Cxt G k N (defScope st) X → Bdy X → Lmb G.K (G.fa i) x X → DSs G X (defBody st) es) : FnC G (k + 1) i x st dvs ps (finF N es) := by
  refine ⟨fd, F, ⟨fun A outer s H args us vs Q E hr hg e0 hbt r sp => ?_⟩, hm⟩
  obtain ⟨oc, od, dV, kV, doc, pm, an, cdv, ct, osl, rfl, lk, hcd, _, _⟩ := F.ex
  obtain ⟨Fz, ι, μ, ds, rp, ia, hl, hq⟩ := sp
  refine LamX.run_ofS lk hcd S hr e0 hbt r (ia.length.symm.trans hl) fun hr' => ?_
  let X := cxOf (L2.CX G.P G.w) G.P G.w G.K G.mg G.base N x (defScope st) (G.fa i) cdv A outer s H E
  have c : Cxt G k N (defScope st) X := ⟨rfl, rfl, rfl, rfl, rfl, rfl, rfl, fun _ => rfl, fun _ => hr', hr'.units, fun z => hg (Nat.le_succ_of_le z), S.nd⟩
  have tk : Takes X (fun cls d _ H' => E cls d H') := takes_of (X := X) rfl rfl rfl (E₁ := fun e' s'' => L2.CX G.P G.w outer H s E e' s'') rfl
  have po : PO X := passes_of (X := X) (K := fun e' s'' => L2.CX G.P G.w outer H s E e' s'') (E₁ := fun e' s'' => L2.CX G.P G.w outer H s E e' s'') rfl
  have lm : Lmb G.K (G.fa i) x X := ⟨by
    obtain ⟨cc, rfl⟩ := He.codeIn_ref hcd
    show Value.ref cc = _
    unfold codeAt
    rw [lk], rfl⟩
  refine ⟨_, (hb X c ⟨rfl, rfl, fun _ => rfl, rfl⟩ lm).run ⟨ι, Fz, nt H, true⟩ _ rfl tk po, Fz, ι, μ, stS N ds, stt_start rp ia, ?_⟩
  unfold finF at hq
  cases q : es (stS N ds) μ with
  | ok f μ' =>
    rw [q] at hq
    obtain ⟨f, ρ'⟩ := f
    cases f with
    | nx => exact fun F' ι' σ' H' S' g => hq F' ι' H' .non S'.rep S'.ext .non
    | rt d => exact fun F' ι' H' v r x g iv => hq F' ι' H' v r x iv
    | bk => exact hq.elim
    | ct => exact hq.elim
  | exc cc ds' μ' => rw [q] at hq; exact fun F' ι' ρ' σ' H' cls xd S' g xv => hq F' ι' H' cls xd S'.rep S'.ext xv
  | bad => rw [q] at hq; exact hq.elim
end PyI

set_option Elab.async false
set_option linter.all false
set_option maxRecDepth 100000
set_option maxHeartbeats 4000000
namespace PyI
open PySem PySem.Spec PyProof.Rows L2

/-! ### an own exception over an own one over ValueError: super().__init__(x); self.x = x -/
abbrev supBody (x : Str) (p0 p1 p2 p3 p4 p5 p6 p7 p8 p9 : Pos) : List Stmt :=
  [.Expr (.Call (.Attribute (.Call (.Name "super" p0) [] [] p1) "__init__" p2) [.Name x p3] [] p4) p5, .Assign [.Attribute (.Name "self" p6) x p7] (.Name x p8) p9]
structure SupC (P : Program) (K : PySem.W.Frag) (mg : Str → Option Value) (C : Addr) (x : Str) : Prop where
  T : OexC K C
  ex : ∃ (fI cc cda : Addr) (qual : Str) (params : Arguments) (scope : Scope) (dV kV doc pm ct oc cl ccl : Value) (an od cld cdd : Option Addr) (osl csl ccs : Array (Option Value)) (p0 p1 p2 p3 p4 p5 p6 p7 p8 p9 : Pos) (vs : Array Value) (file : Str) (tf : Tok) (ar : Arg),
    PySem.W.findIn K (.ref C) "__init__" = some (some (.ref fI)) ∧ PySem.W.typeIn K (.ref fI) = some (.type "function") ∧
    K.lookup fI = some ⟨oc, od, .func (PySem.W.ksFn "__init__" qual params (supBody x p0 p1 p2 p3 p4 p5 p6 p7 p8 p9) scope dV kV doc pm an (.ref cda) ct cc), osl⟩ ∧ PySem.W.codeIn K (.ref cda) qual = true ∧
    K.lookup cda = some ⟨ccl, cdd, .fields vs, ccs⟩ ∧ vs[2]? = some (.str file tf) ∧ ((P.main.file : Str) == file) = true ∧ K.lookup cc = some ⟨cl, cld, .cell (some (.ref C)), csl⟩ ∧
    (params.posonlyargs ++ params.args).head? = some ar ∧ ar.arg = "self" ∧
    (∀ (u v : Value), bindArgs (PySem.W.ksFn "__init__" qual params (supBody x p0 p1 p2 p3 p4 p5 p6 p7 p8 p9) scope dV kV doc pm an (.ref cda) ct cc) ⟨[u, v], []⟩ = pure [(("self" : Str), u), (x, v)]) ∧
    scope.names.lookup ("super" : Str) = some .globalImplicit ∧ scope.names.lookup ("__class__" : Str) = some .free ∧ scope.names.lookup ("self" : Str) = some .local ∧ scope.names.lookup x = some .local ∧ scope.kind = .function ∧ scope.isCoroutine = false ∧ scope.isGenerator = false ∧
    (∀ y ∈ scope.names, y.2 ≠ .cell) ∧
    (∀ env : Env, ∃ pl : Sem Bool, eval (.Call (.Attribute (.Call (.Name "super" p0) [] [] p1) "__init__" p2) [.Name x p3] [] p4) env = (do
      let ov ← attributeBase (.Call (.Name "super" p0) [] [] p1) "__init__" env (eval (.Call (.Name "super" p0) [] [] p1) env)
      standAt p2.atName
      let (f, first) ← holding [ov] (getMethod ov "__init__" pl)
      callWith p4 f first (backTo p4 (starEach [.Name x p3] env)) []))
  cls : ∃ cd, PySem.W.clsIn K C = some cd ∧ PySem.W.alongIn K "__init__" ((cd.mro.dropWhile (· != .ref C)).drop 1) = some (some (.builtin "ValueError.__init__"))
  sup : mg "super" = none
  subC : PySem.W.mroIn K C (.ref C) = some true
  subV : PySem.W.subIn K (.ref C) (.type "ValueError") = some true
  opq : PySem.W.nsIn K cStatics "thirdparty.any" = some none
  top : (P.main.scope.names.lookup ("super" : Str)).isSome = false
  fld : PySem.W.findIn K (.ref C) x = some none
  nsl : x ≠ "self"
  ndb : (x == ("__debug__" : Str)) = false
section
open PySem.W PySem.Calls
variable {prog : Program} {w : World} {A : Around} {hp : Heap} {g : Array GenState} {d : Drawn} {t : Nat} {os : OsState} {nm q : Str} {C N : Addr} {bs bm : List Value} {hdct : Bool} {sn : List Str} {sub : List Value} {ab : Bool} {col : Option Bool} {dd : Option Addr} {k0 k1 k2 k3 k5 : Option Value}
/-- the wrapper of ValueError.__init__, called -/
theorem call_mwV {E : Value → Shared → Prop} {u e t0 : Addr} {rest : List Value} {Q : Value → Shared → Prop} (hbm : PySem.HandSPX.refsVE bm = true)
    (hC : hp.get? C = some (excClassObj nm q C N bs bm hdct sn sub ab col dd k0 k1 k2 k3 k5 "ValueError.__new__")) (he : hp.get? e = some (PySem.HandSPX.excO C t0)) (hu : hp.get? u = some (kxs_mw "ValueError.__init__" e)) (hrest : rest.length ≤ sizeLine)
    (hq : ∀ h' t1, (∀ b o, b ≠ e → hp.get? b = some o → h'.get? b = some o) → h'.get? e = some (PySem.HandSPX.excO C t1) → Q .none ⟨h', g, d, t, os⟩) :
    wpAny (model prog w) A (call (.ref u) rest) Q E ⟨hp, g, d, t, os⟩ := by
  refine wpAny_call (codeAny_of_tree ?_)
  show wpAny _ A.in1 (callAny (.ref u) ⟨rest, []⟩) _ _ _
  simp only [callAny]
  refine wpAny_bind (wpAny_load hu ?_)
  simp only [kxs_mw, show (Value.type "method-wrapper" == Value.type "method" || Value.type "method-wrapper" == Value.type "builtin_function_or_method" || Value.type "method-wrapper" == Value.type "method-wrapper") = true by decide, if_true]
  refine KFB.if_so (by decide) ?_
  refine wpAny_bind (check_bound_init F.excBase_ValueError.toExcCallFacts hC he rfl ?_)
  refine wpAny_bind (wpAny_pure (wpAny_pure ?_))
  refine ⟨plainId_quiet F.excBase_ValueError.init.plain _, codeAny_builtin F.excBase_ValueError.initEntry ?_⟩
  rw [Around.under_plainId F.excBase_ValueError.init.plain _]
  exact exc_init_tree (cls := .ref C) (t0 := t0) (dv := none) (c2 := .none) (c3 := .none) (b4 := .bool false) he hrest fun h' k e' _ => hq h' _ k e'
end
section
open PySem.W PySem.Calls
variable {P : Program} {w : World} {A : Around} {K : PySem.W.Frag} {mg mb : Str → Option Value} {hp : Heap} {g : Array GenState} {d : Drawn} {t : Nat} {os : OsState} {C e t0 : Addr} {x : Str} {u : Value} {R : Result → Shared → Prop}
/-- its __init__ -/
theorem sup_init (S : SupC P K mg C x) (X : K.In hp) (G : hp.Ns mainGlobals mg) (B : hp.Ns builtinsNs mb) (hb : mb "super" = bootBuiltins "super") (lim : hp.NoLimit) (he : hp.get? e = some (PySem.HandSPX.excO C t0)) (hK : K.lookup e = none) (hroom : A.depth < recursionLimit) :
    ∃ fI, findIn K (.ref C) "__init__" = some (some (.ref fI)) ∧ typeIn K (.ref fI) = some (.type "function") ∧
      ((∀ h' dx t' t1, (∀ b o, b ≠ e → hp.get? b = some o → h'.get? b = some o) → hp.objs.size ≤ dx → dx ≠ e → h'.get? e = some ({ cls := .ref C, dict := some dx, data := .fields #[.ref t1, .none, .none, .none, .bool false, .none] } : Obj) → h'.Ns1 dx (fun y => if y = x then some u else none) → R (.ok (.ret .none)) ⟨h', g, d, t', os⟩) →
        codeAny (model P w) A (.call (.ref fI) ⟨[.ref e, u], []⟩) R ⟨hp, g, d, t, os⟩) := by
  obtain ⟨fI, cc, cda, qual, params, scope, dV, kV, doc, pm, ct, oc, cl, ccl, an, od, cld, cdd, osl, csl, ccs, p0, p1, p2, p3, p4, p5, p6, p7, p8, p9, vs, file, tf, ar, iC, tI, lk, hcd, hcode, hvs, hfile, hcell, hpar, har, hbind, ks1, ks2, ks3, ks4, hk, hco, hgen, nocell, hmc⟩ := S.ex
  refine ⟨fI, iC, tI, fun hq => ?_⟩
  obtain ⟨nm, q, N, bs, bm, sn, sub, ab, col, dd, k0, k1, k2, k3, k5, hC, hbm⟩ := S.T.cls
  obtain ⟨cd, hcd2, halong⟩ := S.cls
  have nx : (x == "self") = false := by simpa using S.nsl
  have nx2 : (("self" : Str) == x) = false := by simpa using fun z => S.nsl z.symm
  refine ks_codeAny_call_defAt (fd := PySem.W.ksFn "__init__" qual params (supBody x p0 p1 p2 p3 p4 p5 p6 p7 p8 p9) scope dV kV doc pm an (.ref cda) ct cc) (binds := [(("self" : Str), .ref e), (x, u)]) hroom (X _ _ lk) rfl lim (codeRec_of X hcd) rfl (.of_eq (hbind _ _)) nocell (fun y hy => ?_) (fun h0 hns hk0 => ?_) hco hgen hk
  · rcases List.mem_cons.mp hy with rfl | hy
    · exact ks3
    · rcases List.mem_cons.mp hy with rfl | hy
      · exact ks4
      · cases hy
  -- the body
  have X0 : K.In h0 := X.keeps hk0
  have hL : ∀ b o, hp.get? b = some o → b ≠ hp.objs.size := fun b o z => Nat.ne_of_lt (Heap.lt_size z)
  have he0 := hk0 _ _ he
  have hC0 := X0 _ _ hC
  have envK : ∀ {y : Str} {k : NameKind}, scope.names.lookup y = some k → (callEnv (PySem.W.ksFn "__init__" qual params (supBody x p0 p1 p2 p3 p4 p5 p6 p7 p8 p9) scope dV kV doc pm an (.ref cda) ct cc) hp.objs.size fI).kindOf y = some k := fun h => h
  refine ks_wpAt_execs_cons (ks_wpAt_Expr_any ?_ (by unfold interactive; rw [show (callEnv (PySem.W.ksFn "__init__" qual params (supBody x p0 p1 p2 p3 p4 p5 p6 p7 p8 p9) scope dV kV doc pm an (.ref cda) ct cc) hp.objs.size fI).scope.kind = _ from hk]; rfl))
  obtain ⟨pl, hpl⟩ := hmc (callEnv (PySem.W.ksFn "__init__" qual params (supBody x p0 p1 p2 p3 p4 p5 p6 p7 p8 p9) scope dV kV doc pm an (.ref cda) ct cc) hp.objs.size fI)
  refine ks_wpAt_MethodCall ?_ hpl
  refine ks_wpAt_super_base (envK ks1) (envK ks2) rfl rfl (X0 _ _ lk) rfl hpar rfl (X0 _ _ hcode) rfl hvs hfile S.top ?_
  refine ks_loadName_global hk (envK ks1) (loadGlobal_builtin (G.keeps hk0) S.sup (B.keeps hk0) (hb.trans ?_) ⟨rfl, ?_⟩)
  · kernel_rfl
  refine wpAny_loadName_free hk (envK ks2) rfl ⟨_, X0 _ _ hcell, rfl⟩ ?_
  rw [har]
  refine wpAny_loadName_local hk (envK ks3) hns (v := .ref e) (by simp [List.lookup, nx2]) ?_
  refine ks_wpAny_isType_cls hC0 rfl ⟨rfl, ?_⟩
  refine ks_wpAny_call_super hC0 rfl he0 rfl (fun c z => nomatch z) (looks_mroIn X0 S.subC) (fun h1 so1 hk1 => ?_)
  have X1 : K.In h1 := X0.keeps hk1
  have he1 := hk1 _ _ he0
  have hI1 : PySem.W.InstAt h1 e (PySem.HandSPX.excO C t0) C none := ⟨he1, rfl, rfl, trivial⟩
  have hIV : Looks (model P w) h1 (isInstance (.ref e) (.type "ValueError")) true := hI1.type.andThen (looks_subIn X1 S.subV)
  refine kxs_getMethod kxs_ValueError so1 (looks_opaque X1 S.opq) (l₀ := cd.mro) (fun A Q E s k q => wpAny_bind ((looks_clsIn X1 hcd2) A _ E s k (wpAny_pure q))) rfl X1 halong hIV (fun z => by
    have y := X1 _ _ hC
    rw [← z, he1] at y
    have := congrArg Obj.data (Option.some.inj y)
    cases this) rfl ?_
  have hk2 : ∀ b o, h1.get? b = some o → (h1.push (kxs_mw "ValueError.__init__" e)).get? b = some o := fun b o z => Heap.get?_push_of_some _ z
  refine kxs_callWith (i := "ValueError.__init__") (x := e) rfl (evalArgs_plain ?_)
  have hns2 := (hns.keeps fun b o z => hk2 b o (hk1 b o z))
  have l2 : (List.reverse [(("self" : Str), Value.ref e), (x, u)]).lookup x = some u := by simp [List.lookup]
  refine spliced_cons ?_
  refine ldc hk (envK ks4) hns2 l2 ?_ S.ndb
  refine spliced_nil ⟨Heap.get?_push_at rfl rfl, ?_⟩
  refine call_mwV hbm (hk2 _ _ (X1 _ _ hC)) (hk2 _ _ he1) (Heap.get?_push_at rfl rfl) (by show 1 ≤ sizeLine; rw [sizeLine_eq]; omega) fun h3 t1 hk3 he3 => ?_
  have nL : hp.objs.size ≠ e := fun z => hL _ _ he z.symm
  have kk : ∀ b o, b ≠ e → hp.get? b = some o → h3.get? b = some o := fun b o n z => hk3 b o n (hk2 b o (hk1 b o (hk0 b o z)))
  have X3 : K.In h3 := fun b o z => kk b o (fun y => by rw [y, hK] at z; cases z) (X b o z)
  have hns3 : h3.Ns hp.objs.size (fun y => (List.reverse [(("self" : Str), Value.ref e), (x, u)]).lookup y) := by
    obtain ⟨oL, es, ep, hLo, r⟩ := hns2
    exact ⟨oL, es, ep, hk3 _ _ nL hLo, r⟩
  -- self.x = x
  refine ks_wpAt_execs_cons (ks_wpAt_Assign_Attr (wpAt_of_wpAny ?_))
  refine ldc hk (envK ks4) hns3 l2 ?_ S.ndb
  refine ldc hk (envK ks3) hns3 (v := .ref e) (by simp [List.lookup, nx2]) ?_
  have hcl : PySem.W.clsIn K C = some { name := nm, bases := bs, mro := .ref C :: bm, ns := N, qualname := q, hasDict := true, slotNames := sn, subclasses := sub, abstract := ab, collection := col, hasDel := false } := by unfold PySem.W.clsIn; rw [hC] <;> rfl
  refine PySem.W.set_plain X3 (ox := PySem.HandSPX.excO C t1) (od := none) ⟨he3, rfl, rfl, trivial⟩ S.T.sa ?_
  refine PySem.HandSPX.exc_osa X3 he3 hcl (show PySem.HandSPX.refsVE (.ref C :: bm) = true from hbm) rfl S.fld (fun h' tk' dx k dn dne hx hn => ?_)
  refine wpAt_of_wpAny (wpAny_execs_nil ?_)
  have sz : hp.objs.size ≤ h3.objs.size := by
    have a1 : hp.objs.size < h3.objs.size := by
      obtain ⟨oL, es, ep, hLo, r⟩ := hns3
      exact Heap.lt_size hLo
    exact Nat.le_of_lt a1
  exact hq h' dx tk' t1 (fun b o n z => k b o n (kk b o n z)) (Nat.le_trans sz dn) dne hx hn
end
end PyI

set_option Elab.async false
set_option linter.all false
set_option maxRecDepth 100000
set_option maxHeartbeats 4000000
namespace PyI
open PySem PySem.Spec PyProof.Rows L2

/-! ### raise C(e) -/
def tMkS (C : Addr) (x : Str) (te : TE) : L2.St → Hp → XK → Prop := fun σ H Q => te σ H fun v H1 => ∀ d, H1 d = none → Q (.ref C) (some d) (upd H1 d (.xd [(x, v)]))
def mkQ (C : Addr) (x : Str) (Q : XK) : List V → Hp → Prop := fun vs H1 => match vs with
  | [v] => ∀ d, H1 d = none → Q (.ref C) (some d) (upd H1 d (.xd [(x, v)]))
  | _ => False
section
variable {X : Cx} {C : Addr} {x nm : Str} {k : Nat} {e : Expr} {te : TE} {p pos : Pos}
theorem mk_last {pins : List (Addr × Obj)} {σ : L2.St} {H1 : Hp} {Q : XK} {hp h2 : Heap} {g d' : _} {os : OsState} {tk t2 : Nat} {a dx t1 : Addr} {v : V} {u : Value} (R : Raises X (.ref C)) (I1 : L2.Inv X pins σ H1 ⟨hp, g, d', tk, os⟩) (ha : hp.objs.size ≤ a)
    (kk : ∀ b o, hp.get? b = some o → h2.get? b = some o) (hdx : hp.objs.size ≤ dx) (dne : dx ≠ a) (hx : h2.get? a = some ({ cls := .ref C, dict := some dx, data := .fields #[.ref t1, .none, .none, .none, .bool false, .none] } : Obj)) (hn : h2.Ns1 dx (fun y => if y = x then some u else none)) (ru : RelV v u)
    (q : ∀ d, H1 d = none → Q (.ref C) (some d) (upd H1 d (.xd [(x, v)]))) : MkP X pins σ Q (.ref a) ⟨h2, g, d', t2, os⟩ := by
  obtain ⟨G, g1, g2⟩ := restrict h2 fun b => decide (b ≠ a)
  have gk : ∀ b, b ≠ a → G.get? b = h2.get? b := fun b hb => g1 b (decide_eq_true hb)
  have ge : G.get? a = none := g2 a (by simp)
  have nha : ∀ {b : Addr} {o : Obj}, hp.get? b = some o → b ≠ a := fun {b o} z => Nat.ne_of_lt (Nat.lt_of_lt_of_le (Heap.lt_size z) ha)
  have kG : ∀ b o, hp.get? b = some o → G.get? b = some o := fun b o z => (gk b (nha z)).trans (kk b o z)
  have hnG : G.Ns1 dx (fun y => if y = x then some u else none) := hn.at fun o y => (gk dx dne).trans y
  have hd1 : H1 dx = none := I1.hok.fresh hdx
  have J : L2.Inv X pins σ (upd H1 dx (.xd [(x, v)])) ⟨G, g, d', t2, os⟩ := I1.laid (t' := t2) (a := dx) (h' := G) kG hdx ⟨_, hnG, fun f => by
    by_cases hf : f = x
    · subst hf
      simp [List.lookup]
      exact ru
    · have e : (f == x) = false := by simpa using hf
      simp [List.lookup, e, hf]
      trivial⟩
  refine ⟨a, _, _, ⟨G, g, d', t2, os⟩, _, .ref C, some dx, rfl, J, fun b o z => ?_, ge, hx, ⟨rfl, rfl⟩, rfl, rfl, ?_, rfl, I1.bare, R, q dx hd1⟩
  · by_cases hba : b = a
    · rw [hba, ge] at z; cases z
    · exact (gk b hba).symm.trans z
  · rw [upd_ne (Ne.symm dne)]
    exact I1.hok.fresh ha
theorem pmk_sup (S : SupC X.prog X.K X.mg C x) (hr : Room (k + 1) X.A) (hg : Gl X nm) (hm : X.mg nm = some (.ref C)) (he : PE X e te) (hdb : (nm == ("__debug__" : Str)) = false := by decide) (hst : starEach [e] X.env = (false, eval e X.env) :: starEach [] X.env := by rfl)
    (hpl : (backTo pos (starEach [] X.env)).any (·.1) = false := by rfl) : PMk X (.Call (.Name nm p) [e] [] pos) (tMkS C x te) := by
  intro pins s σ H Q I h
  obtain ⟨nm', q, N, bs, bm, sn, sub, ab, col, dd, k0, k1, k2, k3, k5, hC, hbm⟩ := S.T.cls
  have ha : PA X [e] (tCons te tNil) := pa_cons he pa_nil hst
  refine wpAny_Call_Name_kw (ld_glob I hg hm ?_ hdb)
  refine PySem.W.callWith_K (h₀ := X.base) I.ok.mod.kin S.T.kC (thn (ha.run pos pins s σ H (mkQ C x Q) I h) fun us s1 ⟨vs, H1, I1, r1, q1⟩ => ⟨I1.kIn, ?_⟩) hst hpl
  show wpAny _ _ (call (.ref C) us) _ _ _
  obtain ⟨v, rfl⟩ : ∃ v, vs = [v] := by
    unfold mkQ at q1
    split at q1
    · exact ⟨_, rfl⟩
    · exact q1.elim
  have q1 : ∀ d, H1 d = none → Q (.ref C) (some d) (upd H1 d (.xd [(x, v)])) := q1
  obtain ⟨u, rfl, ru⟩ : ∃ u, us = [u] ∧ RelV v u := by
    cases r1 with
    | cons r t => cases t; exact ⟨_, rfl, r⟩
  have e0 := I1.env0
  obtain ⟨hp, g, dr, tk, os⟩ := s1
  have hsz : hp.objs.size ≤ hp.objs.size + 1 := Nat.le_succ _
  have kk : ∀ b o, hp.get? b = some o → ((hp.push (PySem.W.kdv_tup [u])).push (PySem.HandSPX.excO C hp.objs.size)).get? b = some o := fun b o e => Heap.get?_push_of_some _ (Heap.get?_push_of_some _ e)
  have hget : ((hp.push (PySem.W.kdv_tup [u])).push (PySem.HandSPX.excO C hp.objs.size)).get? (hp.objs.size + 1) = some (PySem.HandSPX.excO C hp.objs.size) := by heap_get
  have kB : ∀ b o, X.base.get? b = some o → ((hp.push (PySem.W.kdv_tup [u])).push (PySem.HandSPX.excO C hp.objs.size)).get? b = some o := fun b o z => kk b o (e0.bs b o z).1
  obtain ⟨mb, hmb, hbt⟩ := e0.mod.blt
  have szp : hp.objs.size + 2 = ((hp.push (PySem.W.kdv_tup [u])).push (PySem.HandSPX.excO C hp.objs.size)).objs.size := by rw [Heap.size_push, Heap.size_push]
  obtain ⟨fI, iC, tI, code⟩ := sup_init (P := X.prog) (w := X.w) (A := X.A.under (.builtin "type.__call__" ⟨.ref C :: [u], []⟩)) (g := g) (d := dr) (t := tk) (os := os) (u := u)
    (R := PySem.W.InitBack (hp.objs.size + 1) (fun r s' => match r with
      | .ok (.ret v) => MkP X pins σ Q v s'
      | .ok _ => False
      | .error er => X.xe er s')) S (e0.mod.kin.keeps kB) (e0.mod.glob.keeps kB) (hmb.keeps kB) (hbt _ (by decide)) (e0.mod.nolimit.keeps kB) hget
    (by
      cases z : X.K.lookup (hp.objs.size + 1) with
      | none => rfl
      | some o => exact absurd (Heap.lt_size (I1.kIn _ _ z)) (by show ¬ (hp.objs.size + 1 < hp.objs.size); omega)) (hr.make C [u] []).depth
  have kI : X.K.In hp := I1.kIn
  refine wpAny_call (PySem.HandSPX.call_own F.excBase_ValueError (fun Y => PySem.HandSPX.refsVE_contains Y bm hbm) (kI _ _ hC) (PySem.W.looks_findIn kI iC) (fun self => PySem.W.bind_fn kI self tI) (by show 1 ≤ sizeLine; rw [sizeLine_eq]; omega)
    (codeAny_mono (code fun h' dx t' t1 k dn dne hx hn => ⟨rfl, ?_⟩) fun r s' z => ?_))
  · exact mk_last (raises_own S.T.exC S.T.tyC) I1 hsz (fun b o z => k b o (Nat.ne_of_lt (Nat.lt_of_lt_of_le (Heap.lt_size z) hsz)) (kk b o z)) (by omega) dne hx hn ru q1
  · exact z
end
end PyI

set_option Elab.async false
set_option linter.all false
set_option maxRecDepth 100000
set_option maxHeartbeats 4000000
namespace PyI
open PySem PySem.Spec PyProof.Rows L2

/-! ### raise -/
def sRs (i : Nat) (ea : Ev) : Es := fun ρ μ => (ea ρ μ).bind fun d μ1 => .exc i [d] μ1
section
variable {G : GC} {E : Ent} {F F' : Hp} {ι ι' : List Addr} {μ μ' : Mem} {ρ : Sls} {σ : L2.St} {H H1 : Hp}
theorem Stt.laid (S : Stt G E F ι μ ρ σ H) {p : Addr} {o : HO} (hp : H p = none) : Stt G E F ι μ ρ σ (upd H p o) := by
  refine S.poke ?_ (fun z => S.rep.at z hp) (S.ext.there p (nt_none hp)) (fun i xs e z => ?_) (.inl hp)
  · cases q : F p with
    | none => rfl
    | some u => have := S.rep.sub _ _ q; rw [hp] at this; cases this
  · obtain ⟨a, ws, h1, h2, _⟩ := S.own i xs e
    rw [z] at h1
    cases h1
    rw [hp] at h2; cases h2
/-- tables may have grown -/
theorem Stt.extN (S : Stt G E F ι μ ρ σ H) (eN : LamX.ExtN H H1) (T : LamX.Tabs G.tb H1) : Stt G E F ι μ ρ σ H1 where
  rep := ⟨fun a o h => eN a o (S.rep.sub a o h) (S.rep.ftb a o h), S.rep.nd, S.rep.off, paired_imp S.rep.cell fun c a r => by
    cases c with
    | lst ds => obtain ⟨xs, e, i⟩ := r; exact ⟨xs, eN _ _ e (fun _ z => nomatch z), i⟩
    | ins c fs => obtain ⟨dx, vs, e, i⟩ := r; exact ⟨dx, vs, eN _ _ e (fun _ z => nomatch z), i⟩
    | dic kvs => obtain ⟨vs, e, i⟩ := r; exact ⟨vs, eN _ _ e (fun _ z => nomatch z), i⟩, T, S.rep.ftb⟩
  len := S.len
  slot := S.slot
  own := fun i xs e => by
    obtain ⟨a, vs, h1, h2, h3, h4, h5, h6⟩ := S.own i xs e
    exact ⟨a, vs, h1, eN _ _ h2 (fun _ z => nomatch z), h3, h4, h5, h6⟩
  dis := S.dis
  ext := ⟨S.ext.grow, fun a o h1 h2 => eN a o (S.ext.keep a o h1 h2) fun ps z => S.ext.ntE a ps (z ▸ h1), fun a h => S.ext.there a (by
    cases q : nt H a with
    | none => rfl
    | some o =>
      have q1 := nt_some q
      have n : ∀ ps, o ≠ .tbl ps := fun ps z => nt_tbl (z ▸ q)
      rw [nt_of (eN a o q1 n) n] at h
      cases h), S.ext.newc, S.ext.newf, S.ext.ntE⟩
end
section
variable {G : GC} {n : Nat} {N : List Str} {sc : Scope} {X : Cx} {qc : Bool} {k : Bool} {pos pos' p : Pos}
theorem ds_raise (c : Cxt G n N sc X) (i : Nat) {x nm : Str} {e : Expr} {ea : Ev} (S : SupC G.P G.K G.mg (G.ca i) x) (hx : G.xf i = [x]) (hm : G.mg nm = some (.ref (G.ca i))) (he : DE G X true e ea) (hn : 1 ≤ n := by decide) (hg : gloB sc nm = true := by rfl)
    (hdb : (nm == ("__debug__" : Str)) = false := by decide) (hst : starEach [e] X.env = (false, eval e X.env) :: starEach [] X.env := by rfl) (hpl : (backTo pos (starEach [] X.env)).any (·.1) = false := by rfl) : DS G X (.Raise (some (.Call (.Name nm p) [e] [] pos)) none pos') (sRs i ea) :=
  ⟨fun E W hw tk hp => by
    obtain ⟨m, rfl⟩ : ∃ m, n = m + 1 := ⟨n - 1, by omega⟩
    refine PS.imp (ps_raise c.calm tk (pmk_sup (k := m) (by rw [c.eP, c.eK, c.emg]; exact S) c.room (c.gl hg) (by rw [c.emg]; exact hm) (he.run E W tk) hdb hst hpl)) fun Dn σ H h => ?_
    obtain ⟨F, ι, μ, ρ, S, o⟩ := h
    refine tE_bindS S o fun F' ι' μ' H' d v S' g iv o' => fun dx hdx => ?_
    exact o' F' ι' ρ σ _ _ _ (S'.laid hdx) (Grow.refl _ _) ⟨rfl, dx, _, rfl, upd_same, by rw [hx] <;> rfl, .cons iv .nil⟩⟩
end

/-! ### try: act() / except C as e: return [e.x] if isinstance(e, D) and isinstance(e, ValueError) else None -/
theorem isT {K : PySem.W.Frag} {x t c : Value} {H : Heap → Prop} (ty : ∀ (M : Model) (h : Heap), K.In h → H h → PySem.W.Looks M h (typeOf x) t) (e : PySem.W.kitOne K t c = some true) : PySem.Answers (fun s => K.In s.heap ∧ H s.heap) x c true := by
  intro dep tk prog w A R s hs
  obtain ⟨hp, g, d, tt, os⟩ := s
  obtain ⟨⟨KI, hh⟩, hq⟩ := hs
  have lt := ty (model prog w) hp KI hh
  have hq0 := hq tt
  unfold Builtin.«isinstance.nested»
  refine wpAny_bind (lt.at ?_)
  unfold PySem.W.kitOne at e
  split at e
  · next eq =>
    simp only [eq, if_true]
    exact wpAny_bind (wpAny_rule (wpAny_pure hq0))
  · next neq =>
    simp only [neq, Bool.false_eq_true, if_false]
    have kc := PySem.W.kit_cls (M := model prog w) KI e
    refine wpAny_bind (kc.1.at ?_)
    rw [if_pos (by decide)]
    k_delta "plainIsInstance"
    refine wpAny_bind (wpAny_bind (kc.2.1.at ?_))
    simp only [Bool.not_true, Bool.false_eq_true, if_false]
    refine wpAny_bind ((lt.andThen kc.2.2).at ?_)
    first
      | exact wpAny_pure (wpAny_pure hq0)
      | (simp only [if_true]; first | exact wpAny_pure (wpAny_pure hq0) | exact wpAny_pure hq0 | exact wpAny_bind (wpAny_pure (wpAny_pure hq0)))
def rIsT (K : PySem.W.Frag) (D : Addr) (cls : Value) (a : Addr) : List V → Hp → VK → Prop := fun xs H Q => ∃ (c : V) (cv : Value), cls = .ref D ∧ xs = [.ref a, c] ∧ (∀ u, RelV c u → u = cv) ∧ PySem.W.kitOne K (.ref D) cv = some true ∧ Q (.bl true) H
theorem call_isT {X : Cx} {a D : Addr} {cls : Value} {d : Option Addr} {oe : Obj} {pn : List (Addr × Obj)} (hz : Zc cls d oe) : CallR (X.suite a ((a, oe) :: pn)) (.builtin "isinstance") (rIsT X.K D cls a) := by
  intro pins s σ H xs us Q I r h
  obtain ⟨c, cv, rfl, rfl, hcv, e, q⟩ := h
  cases r with
  | cons rx rr =>
    cases rr with
    | cons rt rr =>
      cases rr
      cases rx
      have ec := hcv _ rt
      subst ec
      obtain ⟨hget, _⟩ := I.pin (a, oe) (List.mem_append.mpr (.inl List.mem_cons_self))
      exact PySem.call_isinstance (S := fun _ R s => (X.K.In s.heap ∧ s.heap.get? a = some oe) ∧ ∀ tk, R (.ok (.ret (.bool true))) { s with toks := tk })
        (fun prog w A R s hs => PySem.isinstance_outer (isT (H := fun h => h.get? a = some oe) (fun M h _ hh => fun A Q E s k q => wpAny_typeOf_ref (k _ _ hh) (by rw [hz.1]; exact q)) e 0 _ prog w A R s hs) (fun z => nomatch z)) ⟨⟨I.kIn, hget⟩, fun tk => ⟨.bl true, H, I.kept (t' := tk) fun _ _ z => z, rfl, q⟩⟩
end PyI

set_option Elab.async false
set_option linter.all false
set_option maxRecDepth 100000
set_option maxHeartbeats 4000000
namespace PyI
open PySem PySem.Spec PyProof.Rows L2

/-- what the class C of the exceptions must be, so that the suite reads the field x -/
structure RefC (K : PySem.W.Frag) (CS C : Addr) (x : Str) : Prop where
  xf : XfC K C
  no : PySem.W.findIn K (.ref C) x = some none
  ex : PySem.W.exmOne K (.ref C) (.ref CS) = some true
  i1 : PySem.W.kitOne K (.ref C) (.ref C) = some true
  i2 : PySem.W.kitOne K (.ref C) (.type "ValueError") = some true
/-- the outcome that the def wants of the lambda's reading tl -/
def TTr (C : Addr) (x : Str) : (XK → Hp → VK → Prop) → Hp → VK → Prop := fun tl H Q =>
  tl (fun cls d H' => cls = .ref C ∧ ∃ (dd : Addr) (fs : List (Str × V)) (v : V), d = some dd ∧ H' dd = some (.xd fs) ∧ fs.lookup x = some v ∧ ∀ p, H' p = none → Q (.ref p) (upd H' p (.lst [v]))) H fun _ H' => Q .non H'
section
variable {X : Cx} {W : WX}
/-- a wish told of the slots' number, too -/
theorem takes_len (tk : Takes X W) : Takes X (fun cls d σ H => σ.length = X.N.length → W cls d σ H) := fun u s' ⟨a, B, sI, pins, σ, H, cls, d, e, I, nb, up, sky, na, os, ag, w⟩ => tk u s' ⟨a, B, sI, pins, σ, H, cls, d, e, I, nb, up, sky, na, os, ag, w I.len⟩
end
abbrev refBody (a xs en ii x : Str) (j1 j2 : Nat) (p1 p2 p3 p4 p5 p6 p7 p8 p9 q1 q2 q3 q4 q5 q6 q7 q8 q9 r1 r2 r3 r4 r5 : Pos) : List Stmt :=
  [.Try [.Expr (.Call (.Name a p1) [] [] p2) p3] [.ExceptHandler (some (.Name xs p4)) (some en)
    [.Return (some (.IfExp (.BoolOp .And [.Call (.Name "isinstance" p5) [.Name en p6, .Name ii p7] [] p8, .Call (.Name "isinstance" p9) [.Name en q1, .Name "ValueError" q2] [] q3] q4) (.List [.Attribute (.Name en q5) x q6] q7) (.Constant .none j1 q8) q9)) r1] r2] [] [] r3,
   .Return (some (.Constant .none j2 r4)) r5]
theorem boot_VE : bootBuiltins "ValueError" = some (.type "ValueError") := by kernel_rfl
theorem ref_gives {X : Cx} {Ng : List Str} {nm a xs en ii q x : Str} {sg : Scope} {g CS C : Addr} {cdg : Value} {j1 j2 : Nat} {p1 p2 p3 p4 p5 p6 p7 p8 p9 q1 q2 q3 q4 q5 q6 q7 q8 q9 r1 r2 r3 r4 r5 : Pos} (R : RefC X.K CS C x)
    (hN : Ng = [a, en]) (hne : a ≠ en) (hxs : gloB sg xs = true) (hmx : X.mg xs = some (.ref CS)) (hdx : (xs == ("__debug__" : Str)) = false) (hii : gloB sg ii = true) (hmi : X.mg ii = some (.ref C)) (hdi : (ii == ("__debug__" : Str)) = false)
    (hen : sg.names.lookup en = some .local) (hde : (en == ("__debug__" : Str)) = false) (hce : (en == ("__classdict__" : Str)) = false) (hg1 : gloB sg "isinstance" = true) (hg2 : gloB sg "ValueError" = true) (hm1 : X.mg "isinstance" = none) (hm2 : X.mg "ValueError" = none)
    (hbase : ∀ env : Env, attributeBase (.Name en q5) x env (eval (.Name en q5) env) = eval (.Name en q5) env) (hsw : ∀ env : Env, swapsWith (.Call (.Name a p1) [] [] p2) none p3.line env = pure false) :
    LamX.GivesTo X Ng nm sg g cdg (refBody a xs en ii x j1 j2 p1 p2 p3 p4 p5 p6 p7 p8 p9 q1 q2 q3 q4 q5 q6 q7 q8 q9 r1 r2 r3 r4 r5) a q (TTr C x) := by
  intro f c' s H Q tl act hc h
  subst hN
  have glo : ∀ {y : Str}, gloB sg y = true → Gl (cxOf C8.CX0 X.prog X.w X.K X.mg X.base [a, en] nm sg g cdg X.A X.stack s H C8.E0).nox y := fun {y} hy => by
    show sg.names.lookup y = some .globalImplicit
    unfold gloB at hy
    split at hy
    · assumption
    · cases hy
  refine ⟨_, pss_cons (ps_try_as (X := (cxOf C8.CX0 X.prog X.w X.K X.mg X.base [a, en] nm sg g cdg X.A X.stack s H C8.E0).nox) (i := 1) (c := .ref CS) (Wout := fun _ _ _ _ => False)
      (tb := fun W D σ H => ∃ Ech : XK, (∀ cls d σ' H', Ech cls d H' → σ'.length = 2 → W cls d σ' H') ∧ σ[0]? = some (some (.ref f)) ∧ H c' = some (LamX.CodeO c' q) ∧ tl Ech H fun _ H1 => D.nx σ H1)
      (ts := fun a' cls d => tRet (tIf (tAnd (tB (tCB (rIsT X.K C cls a') (tCons (tVar 1) (tCons (tC (.ref C)) tNil)))) (tB (tCB (rIsT X.K C cls a') (tCons (tVar 1) (tCons (tC (.ty "ValueError")) tNil))))) (tLst (tCons (tXf a' cls d C x (tVar 1)) tNil)) (tC .non)))
      rfl rfl (by show [a, en].Nodup; simp [hne]) rfl hen ⟨glo hxs, hdx, .inl hmx⟩ LamX.takes0 (fun W pn xe tk _ => ?_) (fun a' oe cls d pn hz hf => ?_)) (pss_one (ps_ret pe_non)), ?_⟩
  · refine ⟨fun pins s' σ H' D I h' => ?_⟩
    obtain ⟨Ech, hW, h1, h2, h3⟩ := h'
    have hp := act (fun cls d σ H => σ.length = 2 → W cls d σ H) pn xe Ech p1 p2 (takes_len tk) (fun cls d σ' H' e l => hW cls d σ' H' e l)
    exact (pss_one (ps_expr (pos := p3) hp (hsw _))).run pins s' σ H' D I ⟨h1, h2, h3⟩
  · have pv : ∀ {p : Pos}, PE ((cxOf C8.CX0 X.prog X.w X.K X.mg X.base [a, en] nm sg g cdg X.A X.stack s H C8.E0).nox.suite a' ((a', oe) :: pn)) (.Name en p) (tVar 1) := fun {p} => pe_var rfl (.inl hen) hde hce
    have pI1 := pe_callB (p := p5) (pos := p8) (call_isT (D := C) hz) (glo hg1) hm1 boot_isinstance (pa_cons (pv (p := p6)) (pa_cons (pe_glob (pos := p7) (v := .ref C) (glo hii) hmi rfl hdi) pa_nil))
    have pI2 := pe_callB (p := p9) (pos := q3) (call_isT (D := C) hz) (glo hg1) hm1 boot_isinstance (pa_cons (pv (p := q1)) (pa_cons (pe_bltn (pos := q2) (v := .ty "ValueError") (glo hg2) hm2 boot_VE rfl) pa_nil))
    have pF := pe_xf (X := (cxOf C8.CX0 X.prog X.w X.K X.mg X.base [a, en] nm sg g cdg X.A X.stack s H C8.E0).nox) (pos := q6) R.xf R.no hz hf (pv (p := q5)) (hbase _)
    exact pss_one (ps_ret (pe_ifExp (pw_and (pt_val pI1) (pw_and1 (pt_val pI2))).pt (pe_lst (pa_cons pF pa_nil)) pe_non))
  · refine ⟨fun cls d H' => cls = .ref C ∧ ∃ (dd : Addr) (fs : List (Str × V)) (v : V), d = some dd ∧ H' dd = some (.xd fs) ∧ fs.lookup x = some v ∧ ∀ p, H' p = none → Q (.ref p) (upd H' p (.lst [v])), fun cls d σ' H' hE hl => ?_, rfl, hc, h⟩
    obtain ⟨rfl, dd, fs, v, rfl, hH, hv, hQ⟩ := hE
    refine ⟨true, R.ex, fun _ a' ha' => ?_, fun z => nomatch z⟩
    have hs : (σ'.set 1 (some (.ref a')))[1]? = some (some (V.ref a')) := List.getElem?_set_self (by omega)
    refine ⟨.ref a', hs, .ref C, .ref C, rfl, rfl, fun u r => r, R.i1, true, rfl, ?_⟩
    dsimp only
    rw [if_pos rfl]
    refine ⟨.ref a', hs, .ty "ValueError", .type "ValueError", rfl, rfl, fun u r => r, R.i2, true, rfl, ?_⟩
    dsimp only
    rw [if_pos rfl]
    exact ⟨.ref a', hs, rfl, rfl, dd, fs, v, rfl, hH, hv, by show 1 ≤ sizeLine; rw [sizeLine_eq]; omega, hQ⟩
end PyI

set_option Elab.async false
set_option linter.all false
set_option maxRecDepth 100000
set_option maxHeartbeats 4000000
namespace PyI
open PySem PySem.Spec PyProof.Rows L2

/-! ### refused(lambda: e) -/
/-- the table of the code of the def at f, in which x() makes its lambdas -/
structure TabD (G : GC) (f : Addr) (q : Str) : Prop where
  ex : ∃ P, LamX.TabB G.base G.mg (codeAt G.K f) P ∧ (P, q ++ "<lambda>") ∈ G.tb ∧ ∀ p ∈ G.tb, p.1 = P → p.2 = q ++ "<lambda>"
def evRef (ci : Nat) (ea : Ev) : Ev := fun ρ μ => match ea ρ μ with
  | .ok _ μ' => .ok .non μ'
  | .exc c ds μ' => if c = ci ∧ ds.length = 1 then .ok (.lst ds) μ' else .bad
  | .bad => .bad
section
variable {G : GC} {n : Nat} {N : List Str} {sc : Scope} {X : Cx} {qc : Bool} {pos lpos p : Pos}
theorem Cxt.lam {k : Nat} (c : Cxt G n N sc X qc) (h100 : k < 100) {A : Around} {outer : List Env} {s : Shared} {H : Hp} {E : XK} {scope : Scope} {f c' : Addr} (r : Room k (A.deeper (LamX.lamEnv X scope s.heap.objs.size f c'))) : Cxt G k N scope (LamX.lamCx X A outer s H E scope f c') :=
  ⟨c.eP, c.ew, c.eK, c.emg, c.eb, c.eN, rfl, fun _ => rfl, fun _ => r, r.units, fun z => absurd z (by omega), c.nd⟩
theorem takes_lam {A : Around} {outer : List Env} {s : Shared} {H : Hp} {E : XK} {scope : Scope} {f c' : Addr} : Takes (LamX.lamCx X A outer s H E scope f c') (fun cls d _ H' => E cls d H') :=
  takes_of (X := LamX.lamCx X A outer s H E scope f c') rfl rfl rfl (E₁ := fun e' s'' => L2.CX X.prog X.w outer H s E e' s'') rfl
theorem de_refused (c : Cxt G n N sc X) (ci fi i : Nat) {k : Nat} {nm a x q own : Str} {params pg : Arguments} {body : Expr} {scope sg : Scope} {bg : List Stmt} {Ng : List Str} {fd : FuncData} {ea : Ev} (lm : Lmb G.K (G.fa i) own X) (T : TabD G (G.fa i) X.env.qual)
    (FD : FunD G.K nm nm pg bg sg [] [] (G.fa fi) fd) (hm : G.mg nm = some (.ref (G.fa fi))) (hb : L2.Binds G.K fd [a] []) (Sg : FnScope Ng [a] sg) (hNg : Ng[0]? = some a) (hva : Vis sg a)
    (hG : ∀ cdv, LamX.GivesTo X Ng nm sg (G.fa fi) cdv bg a (X.env.qual ++ "<lambda>") (TTr (G.ca ci) x)) (hx : G.xf ci = [x])
    (hbody : ∀ X', Cxt G k N scope X' → DE G X' true body ea) (hk : k < 100) (hn : k + 2 ≤ n) (L : LamX.lamSB sc scope = true) (hdef : defaultsOf params X.env = ([], []))
    (hbind : ∀ (q : Str) (cl : List (Str × Addr)) (pm cv ctv : Value), bindArgs (PySem.W.kla_fn "<lambda>" q params body scope cl pm cv ctv) ⟨[], []⟩ = pure [])
    (hg : gloB sc nm = true) (hdb : (nm == ("__debug__" : Str)) = false) (hd : (a == ("__debug__" : Str)) = false) (hcd : (a == ("__classdict__" : Str)) = false) :
    DE G X true (.Call (.Name nm p) [.Lambda params body scope lpos] [] pos) (evRef ci ea) := by
  refine ⟨fun E W tk => ?_⟩
  obtain ⟨P, TB, hmT, hu⟩ := T.ex
  obtain ⟨oc, od, dV, kV, doc, pm, an, cdv, ct, osl, rfl, lk, hcdv, _, _⟩ := FD.ex
  refine PE.imp (LamX.pe_lamcall (T := G.tb) (k := k) (t := fun E1 σ H Q => tE G E true (fun cls d _ H' => E1 cls d H') ea σ H Q) (c.gl hg) (by rw [c.emg]; exact hm) (by rw [c.eK]; exact FD.kp) (by rw [c.eK]; exact lk) (by rw [c.eK]; exact hcdv) (by rw [c.eK]; exact hb) Sg hNg hva
    (hG cdv) (by rw [c.eb, c.emg]; exact TB) lm.code hmT hu (c.room.mono hn) (by rw [c.esc]; exact LamX.lamS_by L) hdef hbind (fun A outer s H E1 f c' r => (hbody _ (c.lam hk r)).run E _ takes_lam) hdb hd hcd) fun σ H Q h => ?_
  obtain ⟨F, ι, μ, ρ, S, o⟩ := h
  refine ⟨S.rep.tab, fun H1 eN T1 => ?_⟩
  refine ⟨F, ι, μ, ρ, S.extN eN T1, ?_⟩
  unfold evRef at o
  cases q : ea ρ μ with
  | ok d μ' => rw [q] at o; exact fun F' ι' H' v S' g iv => o F' ι' H' .non S' g .non
  | bad => rw [q] at o; exact o
  | exc cc ds μ' =>
    rw [q] at o
    have o2 : OutE G E true F ι ρ σ W Q (if cc = ci ∧ ds.length = 1 then .ok (.lst ds) μ' else .bad) := o
    clear o
    by_cases hc : cc = ci ∧ ds.length = 1
    · rw [if_pos hc] at o2
      obtain ⟨rfl, hl⟩ := hc
      intro F' ι' H' cls xd S' g xv
      obtain ⟨h1, dd, fs, rfl, h3, h4, h5⟩ := xv
      rw [hx] at h4
      obtain ⟨⟨y, v⟩, rfl⟩ : ∃ z, fs = [z] := by
        match fs, h4 with
        | [z], _ => exact ⟨z, rfl⟩
      have e : y = x := by simpa using h4
      subst e
      exact ⟨h1, dd, _, v, rfl, h3, by simp [List.lookup], fun p hp => (OutE.grow g o2).lst S' h5 hp⟩
    · rw [if_neg hc] at o2; exact o2.elim
end
end PyI

set_option Elab.async false
set_option linter.all false
set_option maxRecDepth 100000
set_option maxHeartbeats 4000000
namespace PyI
open PySem PySem.Spec PyProof.Rows L2

/-! ### the law's call -/
/-- the law's def, called with the script at a in a heap that is told by H, tells True -/
def LawRun (P : Program) (w : World) (K : PySem.W.Frag) (n : Nat) (mg : Str → Option Value) (fa : Addr) (h : Heap) : Prop :=
  ∃ cs : List (Addr × Addr), (∀ p ∈ cs, h.get? p.2 = some { cls := .none, data := .fields #[] }) ∧ (∀ p ∈ cs, K.lookup p.2 = none) ∧ (∀ p ∈ cs, PySem.W.CodeHd h p.1 p.2) ∧
    ∀ (base : Heap) (s : Shared) (H : Hp) (a : Addr) (ns : List Int), K.In base → base.Ns mainGlobals mg → (∀ p ∈ cs, LamX.TabB base mg p.1 p.2) → ns.length ≤ n → (∀ z ∈ ns, Builtin.Int.intBits z ≤ 1048576) → (∀ p ∈ cs, H p.2 = some (.tbl #[])) →
      SqL K H a (ns.map V.int) → Env0 P w K mg base callerA [] s H → codeAny (model P w) callerA (.call (.ref fa) ⟨[.ref a], []⟩) (CR (L2.CX P w) [] P w H s (fun v _ => v = .bl true) fun _ _ _ => False) s
section
variable {P : Program} {w : World} {K : PySem.W.Frag} {mg mb : Str → Option Value} {n : Nat} {fa a : Addr} {s₁ : Shared} {vs : List Value} {ns : List Int}
open Classical in
theorem law_end (KX : K.In s₁.heap) (hns : s₁.heap.Ns mainGlobals mg) (hb : s₁.heap.Ns builtinsNs mb) (hbb : ∀ x : Str, x ≠ "__name__" → mb x = bootBuiltins x) (hlim : s₁.heap.NoLimit) (hg : s₁.gens = #[])
    (hbm : ∃ (bm : Addr) (ob : Obj), mg "__builtins__" = some (.ref bm) ∧ bm ≠ builtinsNs ∧ s₁.heap.get? bm = some ob ∧ ob.cls = .type "module" ∧ ob.dict = some builtinsNs ∧ ob.data = .plain)
    (ha : s₁.heap.get? a = some { cls := .type "list", data := .seq vs.toArray }) (hi : IntsAre vs ns) (hl : ns.length ≤ sizeLine) (hn : ns.length ≤ n) (hz : ∀ z ∈ ns, Builtin.Int.intBits z ≤ 1048576) (L : LawRun P w K n mg fa s₁.heap) :
    codeAny (model P w) callerA (.call (.ref fa) ⟨[.ref a], []⟩) (fun r s' => r = .ok (.ret (.bool true)) ∧ OldK s₁.heap s'.heap ∧ s'.os = s₁.os ∧ AllBare s'.gens) s₁ := by
  obtain ⟨cs, hT, nT, C, run⟩ := L
  have rv := vals_ints hi
  have tob : ∀ {b : Addr}, (∃ p ∈ cs, p.2 = b) → s₁.heap.get? b = some { cls := .none, data := .fields #[] } ∧ K.lookup b = none := fun {b} ⟨p, hp, e⟩ => by
    subst e
    exact ⟨hT p hp, nT p hp⟩
  have aT : ¬ ∃ p ∈ cs, p.2 = a := fun z => by
    have q := (tob z).1
    rw [ha] at q
    have := congrArg Obj.data (Option.some.inj q)
    cases this
  let H : Hp := fun b => if ∃ p ∈ cs, p.2 = b then some (.tbl #[]) else if b = a ∧ K.lookup a = none then some (.frz { cls := .type "list", data := .seq vs.toArray } (.lst (ns.map V.int))) else none
  -- the three kinds of places
  have kinds : ∀ b, ((∃ p ∈ cs, p.2 = b) ∧ H b = some (.tbl #[])) ∨ ((¬ ∃ p ∈ cs, p.2 = b) ∧ b = a ∧ K.lookup a = none ∧ H b = some (.frz { cls := .type "list", data := .seq vs.toArray } (.lst (ns.map V.int)))) ∨ ((¬ ∃ p ∈ cs, p.2 = b) ∧ H b = none) := fun b => by
    by_cases h1 : ∃ p ∈ cs, p.2 = b
    · exact .inl ⟨h1, if_pos h1⟩
    · by_cases h2 : b = a ∧ K.lookup a = none
      · exact .inr (.inl ⟨h1, h2.1, h2.2, (if_neg h1).trans (if_pos h2)⟩)
      · exact .inr (.inr ⟨h1, (if_neg h1).trans (if_neg h2)⟩)
  have hH : ∀ p ∈ cs, H p.2 = some (.tbl #[]) := fun p hp => if_pos ⟨p, hp, rfl⟩
  have hok : HOk P w H s₁.heap := fun b u z => by
    rcases kinds b with ⟨h1, e⟩ | ⟨_, rfl, _, e⟩ | ⟨_, e⟩
    · rw [e] at z; cases z; exact (tob h1).1
    · rw [e] at z; cases z; exact ⟨ha, by rw [List.length_map]; exact hl, vs, _, rv, ha⟩
    · rw [e] at z; cases z
  -- what is neither a table nor a list is not told of
  have free : ∀ {b : Addr} {o : Obj}, s₁.heap.get? b = some o → (∀ us m, o.data ≠ .seq us m) → o.data ≠ .fields #[] → H b = none := fun {b o} e n1 n2 => by
    rcases kinds b with ⟨h1, _⟩ | ⟨_, rfl, _, _⟩ | ⟨_, z⟩
    · rw [(tob h1).1] at e; cases e; exact absurd rfl n2
    · rw [ha] at e; cases e; exact absurd rfl (n1 _ _)
    · exact z
  have nsK : ∀ {b : Addr} {m : Str → Option Value}, s₁.heap.Ns b m → (hidT s₁.heap H).Ns b m := fun {b m} ⟨o, es, ep, e, d, r⟩ => ⟨o, es, ep, hidT_get e (free e (fun us m z => by rw [d] at z; cases z) fun z => by rw [d] at z; cases z), d, r⟩
  have hKb : K.In (hidT s₁.heap H) := fun b o e => hidT_get (KX b o e) (by
    rcases kinds b with ⟨h1, _⟩ | ⟨_, rfl, h2, _⟩ | ⟨_, z⟩
    · rw [(tob h1).2] at e; cases e
    · rw [h2] at e; cases e
    · exact z)
  have hS : SqL K H a (ns.map V.int) := by
    rcases kinds a with ⟨h1, _⟩ | ⟨_, _, _, e⟩ | ⟨h1, e⟩
    · exact absurd h1 aT
    · exact .inl (.inr ⟨_, e⟩)
    · cases q : K.lookup a with
      | none =>
        have : H a = some (.frz { cls := .type "list", data := .seq vs.toArray } (.lst (ns.map V.int))) := (if_neg aT).trans (if_pos ⟨rfl, q⟩)
        rw [this] at e; cases e
      | some o =>
        have e2 := KX a o q
        rw [ha] at e2
        cases e2
        exact .inr ⟨_, vs.toArray, _, q, rfl, rfl, rfl, by rw [List.size_toArray, hi.length]; exact hl, by simpa using rv⟩
  have TB : ∀ p ∈ cs, LamX.TabB (hidT s₁.heap H) mg p.1 p.2 := fun p hp => by
    have hTp := hT p hp
    refine ⟨?_, ?_, fun z => ?_⟩
    · obtain ⟨o, us, file, tf, flags, tg, inF, text, tt, e1, r1, r2, r3, rest⟩ := C p hp
      refine ⟨o, us, file, tf, flags, tg, inF, text, tt, hidT_get e1 (free e1 (fun vs n z => by rw [r2] at z; cases z) fun z => ?_), r1, r2, r3, rest⟩
      rw [r2] at z; cases z; simp at r3
    · obtain ⟨bm, ob, b1, b2, b3, b4, b5, b6⟩ := hbm
      refine ⟨bm, ob, b1, b2, fun q => ?_, fun q => ?_, hidT_get b3 (free b3 (fun us m z => by rw [b6] at z; cases z) fun z => by rw [b6] at z; cases z), b4, b5, b6⟩
      · obtain ⟨o, es, ep, e, hd, _⟩ := hns
        rw [q, e] at b3; cases b3; rw [hd] at b6; cases b6
      · rw [q, hTp] at b3; cases b3; cases b6
    · obtain ⟨o, es, ep, e, hd, _⟩ := hns
      rw [z, hTp] at e; cases e; cases hd
  have e0 : Env0 P w K mg (hidT s₁.heap H) callerA [] s₁ H := ⟨rfl, ⟨hKb, nsK hns, ⟨mb, nsK hb, hbb⟩, (let ⟨mc, h1, h2⟩ := hlim; ⟨mc, nsK h1, h2⟩)⟩, fun b o e => of_hidT e, Nat.le_of_eq (hidT_size _ _), trivial, fun b hb => absurd (show b ∈ ([] : List Addr) from hb) (by simp), hok, .of_eq hg⟩
  refine codeAny_mono (run _ s₁ H a ns hKb (nsK hns) TB hn hz hH hS e0) fun r s' h => ?_
  match r, h with
  | .error e, h => obtain ⟨_, _, _, _, _, _, _, _, _, _, _, _, _, z⟩ := h
  | .ok (.ret u), h =>
    obtain ⟨v, H', os, bare, un, hok', r', q⟩ := h
    have q : v = .bl true := q
    subst q
    obtain rfl : u = Value.bool true := r'
    have old : ∀ b o, s₁.heap.get? b = some o → (s'.heap.get? b = some o ∧ ¬ ∃ p ∈ cs, p.2 = b) ∨ ∃ p ∈ cs, p.2 = b ∧ ∃ more : Array Value, s'.heap.get? b = some { cls := .none, data := .fields more } := fun b o e => by
      rcases kinds b with ⟨⟨p, hp, rfl⟩, _⟩ | ⟨h1, rfl, _, z⟩ | ⟨h1, z⟩
      · obtain ⟨more, z⟩ := un.tbls p.2 #[] (hH p hp)
        exact .inr ⟨p, hp, rfl, _, hok' p.2 _ z⟩
      · obtain ⟨e1, _⟩ := hok _ _ z
        obtain ⟨e2, _⟩ := hok' _ _ (un.frzs _ _ _ z)
        rw [e] at e1; cases e1
        exact .inl ⟨e2, h1⟩
      · exact .inl ⟨un.keep b o e z (by intro z; cases z) (by simp), h1⟩
    refine ⟨rfl, ⟨fun b o e => ?_, fun b o e => ?_⟩, os, bare⟩
    · rcases old b o e with ⟨z, _⟩ | ⟨p, hp, rfl, more, hm⟩
      · exact .inl z
      · rw [hT p hp] at e
        cases e
        exact .inr (.inl ⟨((C p hp).tab (hT p hp)).isCodeTable, rfl, #[], more, rfl, by rw [Array.empty_append]; exact hm⟩)
    · rcases old b o e with ⟨z, _⟩ | ⟨p, hp, rfl, more, hm⟩
      · exact ⟨o, z⟩
      · exact ⟨_, hm⟩
theorem walk_law {l : PySem.W.OpenLaw} {n : Nat} {q : Program} {loose : List Str} {XP : (Str → Option Value) → Heap → Prop} {YP : World → Heap → Prop} {d : DefRec} (hn : l.most = some n) (hn2 : n ≤ sizeLine) (hdf : d.params.defaults = [])
    (F : ∀ (w : World) (mg : Str → Option Value) (fa : Addr) (h : Heap), YP w h → h.Ns mainGlobals mg → mg d.name = some (.ref fa) → ∃ K : PySem.W.Frag, K.In h ∧ LawRun l.prog w K n mg fa h) :
    PySem.W.WalkO q loose XP YP l.row.toRowW d [] (fun f vs => PySem.call f vs) := by
  refine Att.attach_callB hn hdf fun w s₀ s₁ mg mb fa o pm cd doc a vs ns G Y ho hd hcd hmg hobj hints hlen hbits hg => ?_
  obtain ⟨K, KX, R⟩ := F w mg fa _ Y G.T.g hmg
  exact law_end KX G.T.g G.T.b G.T.builtins G.T.nolimit hg G.T.bmain hobj hints (Nat.le_trans hlen hn2) hlen hbits R
end
/-- the law's call, by its def's promise -/
theorem law_call {G : GC} {k j : Nat} {fd : FuncData} {x : Str} {fn : Fun} {H : Hp} {a : Addr} {ns : List Int} {s : Shared} (FG : FnG G k (G.fa j) fd [x] fn) (hr : Room k callerA) (e0 : Env0 G.P G.w G.K G.mg G.base callerA [] s H) (hb : ∀ (s : Shared) (u : Value), BindsTo s fd ⟨[u], []⟩ [(x, u)])
    (hS : SqL G.K H a (ns.map V.int)) (hT : LamX.Tabs G.tb H) (hq : ∃ μ, fn [.scr (ns.map .int)] [] = .ok (.bl true) μ) :
    codeAny (model G.P G.w) callerA (.call (.ref (G.fa j)) ⟨[.ref a], []⟩) (CR (L2.CX G.P G.w) [] G.P G.w H s (fun v _ => v = .bl true) fun _ _ _ => False) s := by
  obtain ⟨μ, hq⟩ := hq
  have hF : ∀ b o, (fun b => if b = a then nt H b else none : Hp) b = some o → nt H b = some o := fun b o h => by
    by_cases e : b = a
    · exact (if_pos e).symm.trans h
    · have h' := (if_neg e).symm.trans h; cases h'
  have isI : ∀ l : List Int, IsAll G (fun b => if b = a then nt H b else none : Hp) [] (l.map D.int) (l.map V.int) := fun l => by
    induction l with
    | nil => exact .nil
    | cons z l ih => exact .cons (.int z) ih
  have hS' : SqL G.K (fun b => if b = a then nt H b else none : Hp) a (ns.map V.int) := by
    rcases hS with (h | ⟨o, h⟩) | h
    · exact .inl (.inl ((if_pos rfl).trans (nt_of h fun _ z => nomatch z)))
    · exact .inl (.inr ⟨o, (if_pos rfl).trans (nt_of h fun _ z => nomatch z)⟩)
    · exact .inr h
  refine FG.run callerA [] s H ⟨[.ref a], []⟩ [.ref a] [.ref a] _ _ hr (fun _ => rfl) e0 (hb s (.ref a)) (.cons rfl .nil) ⟨_, [], [], [.scr (ns.map .int)], ⟨fun b o h => nt_some (hF b o h), .nil, fun b h => absurd h (by simp), .nil, hT, fun b o h ps z => nt_tbl (z ▸ hF b o h)⟩, .cons (.scr hS' (isI ns)) .nil, rfl, ?_⟩
  rw [hq]
  intro F' ι' H' v r x iv
  cases iv with
  | bl b => rfl
end PyI

set_option Elab.async false
set_option linter.all false
set_option maxRecDepth 100000
set_option maxHeartbeats 4000000
namespace PyI
open PySem PySem.Spec PyProof.Rows L2

/-! ### the head's facts -/
abbrev SupW : Type := Option (Str × Str × Arguments × FuncBody × Scope × Addr × Addr)
/-- an exception class x, its __init__'s own text, its field -/
structure SupD where
  cls : Str
  qual : Str
  params : Arguments
  body : FuncBody
  scope : Scope
def supW (K : PySem.W.Frag) (d : SupD) : SupW := match K.lookup (He.ma K (He.ga K d.cls) "__init__") with
  | some ⟨_, _, .func fd, _⟩ => some (fd.name, fd.qualname, fd.params, fd.body, fd.scope, fd.globals, fd.builtins)
  | _ => none
def SupD.val (d : SupD) : SupW := some ("__init__", d.qual, d.params, d.body, d.scope, mainGlobals, builtinsNs)
def oexB (K : PySem.W.Frag) (C : Addr) : Bool := match K.lookup C with
  | some ⟨.type "type", _, .cls cd, sl⟩ => (match cd.mro, sl.toList with
    | .ref C' :: bm, [_, _, _, _, some (.builtin n), _] => C' == C && (n == "ValueError.__new__" && (!cd.hasDel && (cd.hasDict && PySem.HandSPX.refsVE bm)))
    | _, _ => false)
  | _ => false
theorem oexB_ok {K : PySem.W.Frag} {C : Addr} (h : oexB K C = true) : ∃ nm q N bs bm sn sub ab col dd k0 k1 k2 k3 k5, K.lookup C = some (excClassObj nm q C N bs bm true sn sub ab col dd k0 k1 k2 k3 k5 "ValueError.__new__") ∧ PySem.HandSPX.refsVE bm = true := by
  unfold oexB at h
  split at h
  · next dd cd sl ho =>
    split at h
    · next C' bm k0 k1 k2 k3 n k5 hm hs =>
      simp only [Bool.and_eq_true, beq_iff_eq, Bool.not_eq_true'] at h
      obtain ⟨rfl, rfl, hdel, hd, hb⟩ := h
      obtain ⟨nm, bs, mro, ns, qn, hdc, sn, sub, ab, col, del⟩ := cd
      dsimp only at hm hdel hd
      subst hm hdel hd
      have hsl : sl = #[k0, k1, k2, k3, some (.builtin "ValueError.__new__"), k5] := by
        obtain ⟨l⟩ := sl
        simp only at hs
        rw [hs]
      subst hsl
      exact ⟨_, _, _, _, _, _, _, _, _, _, _, _, _, _, _, ho, hb⟩
    · cases h
  · cases h
/-- the code's file, the cell of the class -/
def supF (K : PySem.W.Frag) (C : Addr) (file : Str) : Bool := match K.lookup (He.ma K C "__init__") with
  | some ⟨_, _, .func fd, _⟩ => (match fd.code, fd.closure, fd.defaults with
    | .ref cda, [(y, cc)], .none => decide (y = "__class__") && (PySem.W.codeIn K (.ref cda) fd.qualname && ((match K.lookup cda with
      | some ⟨_, _, .fields vs, _⟩ => (match (vs[2]? : Option Value) with
        | some (.str f _) => file == f
        | _ => false)
      | _ => false) && (match K.lookup cc with
      | some ⟨_, _, .cell (some (.ref D)), _⟩ => decide (D = C)
      | _ => false)))
    | _, _, _ => false)
  | _ => false
def supB (K : PySem.W.Frag) (C : Addr) (x : Str) (file : Str) : Bool :=
  oexB K C && (He.eqO (PySem.W.findIn K (.ref C) "__setattr__") (some (some (.builtin "object.__setattr__"))) && (decide (PySem.W.subIn K (.ref C) (.type "BaseException") = some true) && (decide (PySem.W.typeIn K (.ref C) = some (.type "type")) && (PySem.W.keepIn K (.ref C) &&
  (He.eqO (PySem.W.findIn K (.ref C) "__init__") (some (some (.ref (He.ma K C "__init__")))) && (decide (PySem.W.typeIn K (.ref (He.ma K C "__init__")) = some (.type "function")) && (supF K C file &&
  ((match PySem.W.clsIn K C with
    | some cd => He.eqO (PySem.W.alongIn K "__init__" ((cd.mro.dropWhile (· != .ref C)).drop 1)) (some (some (.builtin "ValueError.__init__")))
    | none => false) && (decide (PySem.W.mroIn K C (.ref C) = some true) && (decide (PySem.W.subIn K (.ref C) (.type "ValueError") = some true) && (He.eqO (PySem.W.nsIn K cStatics "thirdparty.any") (some none) && He.eqO (PySem.W.findIn K (.ref C) x) (some none))))))))))))
/-- what the __init__'s text must be -/
structure SupT (P : Program) (d : SupD) (x : Str) : Prop where
  ex : ∃ (ar : Arg) (p0 p1 p2 p3 p4 p5 p6 p7 p8 p9 : Pos), d.body = .stmts (supBody x p0 p1 p2 p3 p4 p5 p6 p7 p8 p9) ∧ (d.params.posonlyargs ++ d.params.args).head? = some ar ∧ ar.arg = "self" ∧
    (∀ (kV doc pm ct : Value) (an : Option Addr) (cda cc : Addr) (u v : Value), bindArgs (PySem.W.ksFn "__init__" d.qual d.params (supBody x p0 p1 p2 p3 p4 p5 p6 p7 p8 p9) d.scope .none kV doc pm an (.ref cda) ct cc) ⟨[u, v], []⟩ = pure [(("self" : Str), u), (x, v)]) ∧
    d.scope.names.lookup ("super" : Str) = some .globalImplicit ∧ d.scope.names.lookup ("__class__" : Str) = some .free ∧ d.scope.names.lookup ("self" : Str) = some .local ∧ d.scope.names.lookup x = some .local ∧ d.scope.kind = .function ∧ d.scope.isCoroutine = false ∧ d.scope.isGenerator = false ∧
    (∀ y ∈ d.scope.names, y.2 ≠ .cell) ∧
    (∀ env : Env, ∃ pl : Sem Bool, eval (.Call (.Attribute (.Call (.Name "super" p0) [] [] p1) "__init__" p2) [.Name x p3] [] p4) env = (do
      let ov ← attributeBase (.Call (.Name "super" p0) [] [] p1) "__init__" env (eval (.Call (.Name "super" p0) [] [] p1) env)
      standAt p2.atName
      let (f, first) ← holding [ov] (getMethod ov "__init__" pl)
      callWith p4 f first (backTo p4 (starEach [.Name x p3] env)) []))
  top : (P.main.scope.names.lookup ("super" : Str)).isSome = false
  nsl : x ≠ "self"
  ndb : (x == ("__debug__" : Str)) = false
theorem sup_of {P : Program} {K : PySem.W.Frag} {mg : Str → Option Value} {d : SupD} {x : Str} (h : supB K (He.ga K d.cls) x P.main.file = true) (e : supW K d = d.val) (T : SupT P d x) (hs : mg "super" = none) : SupC P K mg (He.ga K d.cls) x := by
  unfold supB at h
  obtain ⟨b1, h⟩ := He.ba h
  obtain ⟨b2, h⟩ := He.ba h
  obtain ⟨b3, h⟩ := He.ba h
  obtain ⟨b4, h⟩ := He.ba h
  obtain ⟨b5, h⟩ := He.ba h
  obtain ⟨b6, h⟩ := He.ba h
  obtain ⟨b7, h⟩ := He.ba h
  obtain ⟨b8, h⟩ := He.ba h
  obtain ⟨b9, h⟩ := He.ba h
  obtain ⟨b10, h⟩ := He.ba h
  obtain ⟨b11, h⟩ := He.ba h
  obtain ⟨b12, b13⟩ := He.ba h
  obtain ⟨ar, p0, p1, p2, p3, p4, p5, p6, p7, p8, p9, t1, t2, t3, t4, t5, t6, t7, t8, t9, t10, t11, t12, t13⟩ := T.ex
  refine ⟨⟨oexB_ok b1, He.eqO_ok b2, of_decide_eq_true b3, of_decide_eq_true b4, b5⟩, ?_, ?_, hs, of_decide_eq_true b10, of_decide_eq_true b11, He.eqO_ok b12, T.top, He.eqO_ok b13, T.nsl, T.ndb⟩
  · unfold supW at e
    unfold supF at b8
    cases q : K.lookup (He.ma K (He.ga K d.cls) "__init__") with
    | none => rw [q] at b8; cases b8
    | some o =>
      obtain ⟨oc, od, dt, osl⟩ := o
      rw [q] at b8 e
      cases dt with
      | func fd =>
        obtain ⟨n1, n2, n3, n4, n5, n6, n7, n8, n9, n10, n11, n12, n13, n14, n15⟩ := fd
        have e2 : (some (n1, n2, n3, n4, n5, n6, n15) : SupW) = d.val := e
        unfold SupD.val at e2
        simp only [Option.some.injEq, Prod.mk.injEq] at e2
        obtain ⟨rfl, rfl, rfl, rfl, rfl, rfl, rfl⟩ := e2
        dsimp only at b8
        split at b8
        · next cda y cc =>
          obtain ⟨c1, c2⟩ := He.ba b8
          obtain ⟨c2, c3⟩ := He.ba c2
          obtain ⟨c3, c4⟩ := He.ba c3
          obtain rfl : y = "__class__" := of_decide_eq_true c1
          split at c3
          · next a1 a2 vs a3 l1 =>
            split at c3
            · next f tf l2 =>
              split at c4
              · next a4 a5 D a6 l3 =>
                obtain rfl : D = He.ga K d.cls := of_decide_eq_true c4
                exact ⟨_, cc, cda, d.qual, d.params, d.scope, .none, n9, n10, n11, n14, oc, _, _, n12, od, _, _, osl, _, _, p0, p1, p2, p3, p4, p5, p6, p7, p8, p9, vs, f, tf, ar, He.eqO_ok b6, of_decide_eq_true b7, by rw [q, t1], c2, l1, l2, c3, l3, t2, t3, fun u v => t4 _ _ _ _ _ _ _ u v, t5, t6, t7, t8, t9, t10, t11, t12, t13⟩
              · cases c4
            · cases c3
          · cases c3
        · cases b8
      | _ => cases b8
  · cases q : PySem.W.clsIn K (He.ga K d.cls) with
    | none => rw [q] at b9; cases b9
    | some cd => rw [q] at b9; exact ⟨cd, rfl, He.eqO_ok b9⟩
def refB (K : PySem.W.Frag) (CS C : Addr) (x : Str) : Bool := xfB K C && (He.eqO (PySem.W.findIn K (.ref C) x) (some none) && (decide (PySem.W.exmOne K (.ref C) (.ref CS) = some true) && (decide (PySem.W.kitOne K (.ref C) (.ref C) = some true) && decide (PySem.W.kitOne K (.ref C) (.type "ValueError") = some true))))
theorem ref_of {K : PySem.W.Frag} {CS C : Addr} {x : Str} (h : refB K CS C x = true) : RefC K CS C x := by
  unfold refB at h
  obtain ⟨b1, h⟩ := He.ba h
  obtain ⟨b2, h⟩ := He.ba h
  obtain ⟨b3, h⟩ := He.ba h
  obtain ⟨b4, b5⟩ := He.ba h
  exact ⟨xfB_ok b1, He.eqO_ok b2, of_decide_eq_true b3, of_decide_eq_true b4, of_decide_eq_true b5⟩

/-! ### the Hook -/
structure SaysP (fa : List He.Fa) (fn : List He.DefD) (tf : List He.Defn) (ex : PySem.W.Frag → Bool) (sups : List SupD) (h : Heap) (K : PySem.W.Frag) : Prop where
  d : He.SaysD fa fn K
  more : ex K = true
  hd : ∀ p ∈ tf, PySem.W.codeHdIn K (He.cT K p).1 (He.cT K p).2 = true
  out : ∀ p ∈ tf, K.lookup (He.cT K p).2 = none
  empty : ∀ p ∈ tf, h.get? (He.cT K p).2 = some { cls := .none, data := .fields #[] }
  sup : sups.map (supW K) = sups.map SupD.val
abbrev AlP : Type := He.AlD × Bool × List SupW
def frP (g : Addr → Option Obj) (n : Nat) : PySem.W.Frag := He.frT g (He.asD g n ++ [cStatics])
def obsP (n : Nat) (fa : List He.Fa) (fn : List He.DefD) (tf : List He.Defn) (ex : PySem.W.Frag → Bool) (sups : List SupD) (g : Addr → Option Obj) : AlP :=
  (He.obsD fa fn (frP g n), ex (frP g n) && He.tabsB g tf (frP g n), sups.map (supW (frP g n)))
theorem saysP_of {n : Nat} {fa : List He.Fa} {fn : List He.DefD} {tf : List He.Defn} {ex : PySem.W.Frag → Bool} {sups : List SupD} {h : Heap} (e : obsP n fa fn tf ex sups h.get? = (He.valD fn, true, sups.map SupD.val)) : SaysP fa fn tf ex sups h (frP h.get? n) := by
  have e1 : He.obsD fa fn (frP h.get? n) = He.valD fn := congrArg (fun z : AlP => z.1) e
  have e2 : (ex (frP h.get? n) && He.tabsB h.get? tf (frP h.get? n)) = true := congrArg (fun z : AlP => z.2.1) e
  have e3 : sups.map (supW (frP h.get? n)) = sups.map SupD.val := congrArg (fun z : AlP => z.2.2) e
  obtain ⟨h1, h2⟩ := He.ba e2
  have key : ∀ p ∈ tf, PySem.W.codeHdIn (frP h.get? n) (He.cT (frP h.get? n) p).1 (He.cT (frP h.get? n) p).2 = true ∧ ∃ o, h.get? (He.cT (frP h.get? n) p).2 = some o ∧ He.emptyTab o = true := fun p hp => by
    obtain ⟨h3, h4⟩ := He.ba (List.all_eq_true.mp h2 p hp)
    refine ⟨h3, ?_⟩
    cases q : h.get? (He.cT (frP h.get? n) p).2 with
    | none => rw [q] at h4; cases h4
    | some o => rw [q] at h4; exact ⟨o, rfl, h4⟩
  refine ⟨e1, h1, fun p hp => (key p hp).1, fun p hp => ?_, fun p hp => ?_, e3⟩
  · obtain ⟨_, o, q, z⟩ := key p hp
    exact He.frT_none q z
  · obtain ⟨_, o, q, z⟩ := key p hp
    rw [q, He.emptyTab_eq z]
def hookP (n : Nat) (fa : List He.Fa) (fn : List He.DefD) (tf : List He.Defn) (ex : PySem.W.Frag → Bool) (sups : List SupD) : PySem.W.Hook where
  α := AlP
  obs := fun s => obsP n fa fn tf ex sups s.heap.get?
  val := fun _ => (He.valD fn, true, sups.map SupD.val)
  says := fun _ h => ∃ K : PySem.W.Frag, K.In h ∧ SaysP fa fn tf ex sups h K
  of := fun _ _ e => ⟨_, He.frT_in, saysP_of e⟩
  keeps := fun _ _ _ ⟨K, hK, c⟩ k => ⟨K, PySem.W.Frag.In.keeps hK k, ⟨c.d, c.more, c.hd, c.out, fun p hp => k _ _ (c.empty p hp), c.sup⟩⟩
theorem obsP_eq {n : Nat} {fa : List He.Fa} {fn : List He.DefD} {tf : List He.Defn} {ex : PySem.W.Frag → Bool} {sups : List SupD} {g : Addr → Option Obj} {s : Shared} (h : ∀ a, g a = s.heap.get? a) : obsP n fa fn tf ex sups g = (hookP n fa fn tf ex sups).obs s := by
  have e : g = s.heap.get? := funext h
  rw [e] <;> rfl
theorem SaysP.supW {fa : List He.Fa} {fn : List He.DefD} {tf : List He.Defn} {ex : PySem.W.Frag → Bool} {sups : List SupD} {h : Heap} {K : PySem.W.Frag} (c : SaysP fa fn tf ex sups h K) (i : Nat) {d : SupD} (hd : sups[i]? = some d) : PyI.supW K d = d.val := by
  have e2 : (sups.map (PyI.supW K))[i]? = (sups.map SupD.val)[i]? := by rw [c.sup]
  rw [List.getElem?_map, List.getElem?_map, hd] at e2
  exact Option.some.inj e2
end PyI

set_option Elab.async false
set_option linter.all false
set_option maxRecDepth 100000
set_option maxHeartbeats 4000000
namespace PyI
open PySem PySem.Spec PyProof.Rows L2

/-! ### what is asked of the scope alone -/
def env0 (sc : Scope) : Env := envOfC "" sc 0 0 .none
theorem sw_env {e1 e2 : Env} (h : e1.scope = e2.scope) (t : List Expr) (v : Expr) : swappedStores t v e1 = swappedStores t v e2 := by
  have k : e1.kindOf = e2.kindOf := by funext x; unfold Env.kindOf; rw [h]
  have b : e1.blockKind = e2.blockKind := by unfold Env.blockKind; rw [h]
  unfold swappedStores
  rw [b, k]
theorem sp_env {e1 e2 : Env} (h : e1.scope = e2.scope) (v : Expr) (t : Option Expr) (l : Nat) : swapsWith v t l e1 = swapsWith v t l e2 := by
  have k : e1.kindOf = e2.kindOf := by funext x; unfold Env.kindOf; rw [h]
  have b : e1.blockKind = e2.blockKind := by unfold Env.blockKind; rw [h]
  unfold swapsWith
  rw [b, k, h]
theorem ss_env {e1 e2 : Env} (h : e1.scope = e2.scope) (t : List Expr) (v : Expr) (l : Nat) : swapsWithSole t v l e1 = swapsWithSole t v l e2 := by
  unfold swapsWithSole
  split
  · exact sp_env h _ _ _
  · rfl
section
variable {G : GC} {n : Nat} {N : List Str} {sc : Scope} {X : Cx} {qc : Bool} {k : Bool} {pos : Pos}
theorem Cxt.e0 (c : Cxt G n N sc X qc) : X.env.scope = (env0 sc).scope := c.esc
theorem es_as (c : Cxt G n N sc X qc) {tg e : Expr} {ea : Ev} {t : Tg} (he : DE G X true e ea) (hg : DG G X tg t) (hs : swapsWithSole [tg] e pos.line (env0 sc) = pure false := by rfl) (hw : swappedStores [tg] e (env0 sc) = pure none := by rfl)
    (h1 : (assignEach [tg] X.env).map (·.2) = [assign tg X.env] := by rfl) : DS G X (.Assign [tg] e pos) (sAs ea t) := ds_as he hg ((ss_env c.e0 _ _ _).trans hs) ((sw_env c.e0 _ _).trans hw) h1
theorem es_set (c : Cxt G n N sc X qc) (i : Nat) {x : Str} {e : Expr} {ea : Ev} {pos' : Pos} (he : DE G X true e ea) (hi : N[i]? = some x := by rfl) (hx : locB sc x = true := by rfl) (hs : swapsWith e (some (.Name x pos')) pos.line (env0 sc) = pure false := by rfl) : DS G X (.Assign [.Name x pos'] e pos) (sAs ea (gNm i)) :=
  ds_set c i he hi hx ((sp_env c.e0 _ _ _).trans hs)
theorem es_setC (c : Cxt G n N sc X qc) (B : Bdy X) (i : Nat) {x : Str} {e : Expr} {ea : Ev} {pos' : Pos} (he : DE G X true e ea) (hi : N[i]? = some x := by rfl) (hx : celB sc x = true := by rfl) (hs : swapsWith e (some (.Name x pos')) pos.line (env0 sc) = pure false := by rfl) : DS G X (.Assign [.Name x pos'] e pos) (sAs ea (gNm i)) :=
  ds_setC c i he (B.fnt x) hi hx ((sp_env c.e0 _ _ _).trans hs)
theorem es_p2 (c : Cxt G n N sc X) (i j : Nat) {x y : Str} {a b : Expr} {el : EvL} {px py pt : Pos} {kt k2 pt2} (ha : DA G X true [a, b] el) (hi : N[i]? = some x := by rfl) (hj : N[j]? = some y := by rfl) (hij : i ≠ j := by decide)
    (hx : locB sc x = true := by rfl) (hy : locB sc y = true := by rfl) (hw : swappedStores [.Tuple [.Name x px, .Name y py] kt pt] (.Tuple [a, b] k2 pt2) (env0 sc) = pure (some [x, y]) := by rfl)
    (hs : swapsWithSole [.Tuple [.Name x px, .Name y py] kt pt] (.Tuple [a, b] k2 pt2) pos.line (env0 sc) = pure false := by rfl) : DS G X (.Assign [.Tuple [.Name x px, .Name y py] kt pt] (.Tuple [a, b] k2 pt2) pos) (sP2 i j el) :=
  ds_p2 c i j ha hi hj hij hx hy ((sw_env c.e0 _ _).trans hw) ((ss_env c.e0 _ _ _).trans hs)
theorem es_p3 (c : Cxt G n N sc X) (i j l : Nat) {x y z : Str} {a b d : Expr} {el : EvL} {px py pz pt : Pos} {kt k2 pt2} (ha : DA G X true [a, b, d] el) (hi : N[i]? = some x := by rfl) (hj : N[j]? = some y := by rfl) (hl : N[l]? = some z := by rfl) (hij : i ≠ j := by decide) (hil : i ≠ l := by decide) (hjl : j ≠ l := by decide)
    (hx : locB sc x = true := by rfl) (hy : locB sc y = true := by rfl) (hz : locB sc z = true := by rfl) (hw : swappedStores [.Tuple [.Name x px, .Name y py, .Name z pz] kt pt] (.Tuple [a, b, d] k2 pt2) (env0 sc) = pure (some [x, y, z]) := by rfl)
    (hs : swapsWithSole [.Tuple [.Name x px, .Name y py, .Name z pz] kt pt] (.Tuple [a, b, d] k2 pt2) pos.line (env0 sc) = pure false := by rfl) : DS G X (.Assign [.Tuple [.Name x px, .Name y py, .Name z pz] kt pt] (.Tuple [a, b, d] k2 pt2) pos) (sP3 i j l el) :=
  ⟨fun E W hw' tk hp => PS.imp (ps_par3 c.calm (by rw [c.eN]; exact c.nd) (by rw [c.eN]; exact hi) (by rw [c.eN]; exact hj) (by rw [c.eN]; exact hl) hij hil hjl (c.loc hx) (c.loc hy) (c.loc hz) (ha.run E W tk) ((sw_env c.e0 _ _).trans hw) ((ss_env c.e0 _ _ _).trans hs)) fun Dn σ H h => by
    obtain ⟨F, ι, μ, ρ, S, o⟩ := h
    refine tL_bindS S o fun F' ι' μ' H' ds vs S' g iv o' => ?_
    split at o'
    · cases iv with
      | cons r1 t =>
        cases t with
        | cons r2 t =>
          cases t with
          | cons r3 t =>
            cases t
            exact ⟨_, _, _, rfl, o' F' ι' _ H' (((S'.set r1).set r2).set r3) (Grow.refl _ _)⟩
    · exact o'.elim⟩
theorem es_ow (c : Cxt G n N sc X qc) (i : Nat) {x : Str} {es : List Expr} {el : EvL} {p pos' : Pos} (he : DA G X true es el) (hi : N[i]? = some x := by rfl) (hx : locB sc x = true := by rfl) (hs : swapsWith (.List es p) (some (.Name x pos')) pos.line (env0 sc) = pure false := by rfl) : DS G X (.Assign [.Name x pos'] (.List es p) pos) (sOw i el) :=
  ds_ow c i he hi hx ((sp_env c.e0 _ _ _).trans hs)
theorem es_setLc (c : Cxt G n N sc X) (own : List (Str × Nat)) (i : Nat) {y : Str} {py spos : Pos} {elt tg iter : Expr} {ifs : List Expr} {scope : Scope} {ei : EvL} {t : Tg} {ec ee : Ev} (hi : DI G X tg iter ei)
    (hg : ∀ X', Cxt G n N (relS scope sc) X' → DGB G X' (own.map (·.2)) tg t) (ht : ∀ X', Cxt G n N (relS scope sc) X' → DTs G X' ifs ec) (he : ∀ X', Cxt G n N (relS scope sc) X' → DE G X' true elt ee)
    (hsw : swapsWith (.ListComp elt [⟨tg, iter, ifs, 0⟩] scope pos) (some (.Name y py)) spos.line (env0 sc) = pure true := by rfl)
    (hy : N[i]? = some y := by rfl) (hyl : locB sc y = true := by rfl) (ok : blkC N sc scope own = true := by rfl) (hs : ∀ x, foldedSetIterable iter X.env x = pure x := by intro _; rfl) : DS G X (.Assign [.Name y py] (.ListComp elt [⟨tg, iter, ifs, 0⟩] scope pos) spos) (sAs (evLc ei t ec ee (own.map (·.2))) (gNm i)) :=
  ds_setLc c own i hi hg ht he ((sp_env c.e0 _ _ _).trans hsw) hy hyl ok hs
end
theorem bt_len : bootBuiltins "len" = some (.builtin "len") := by kernel_rfl
theorem bt_abs : bootBuiltins "abs" = some (.builtin "abs") := by kernel_rfl
theorem bt_all : bootBuiltins "all" = some (.builtin "all") := by kernel_rfl
theorem bt_divmod : bootBuiltins "divmod" = some (.builtin "divmod") := by kernel_rfl
theorem bt_repr : bootBuiltins "repr" = some (.builtin "repr") := by kernel_rfl
theorem bt_int : bootBuiltins "int" = some (.type "int") := by kernel_rfl
theorem bt_tuple : bootBuiltins "tuple" = some (.type "tuple") := by kernel_rfl
theorem bt_list : bootBuiltins "list" = some (.type "list") := by kernel_rfl
theorem bt_bool : bootBuiltins "bool" = some (.type "bool") := by kernel_rfl
theorem bt_str : bootBuiltins "str" = some (.type "str") := by kernel_rfl
end PyI

set_option Elab.async false
set_option linter.all false
set_option maxRecDepth 100000
set_option maxHeartbeats 4000000
namespace PyI
open PySem

/-! ### the mirror, step by step -/
section
variable {ρ ρ1 : Sls} {μ μ1 μ2 μ' : Mem} {ea eb ec er : Ev} {a b c : Bool} {d x y : D} {s t rest : Es}
theorem k_not (h : ea ρ μ = .ok (.bl b) μ1) : evNot ea ρ μ = .ok (.bl (!b)) μ1 := by simp [evNot, h, Out.bind]
theorem k_and (h : ea ρ μ = .ok (.bl a) μ) (h2 : a = true → eb ρ μ = .ok (.bl b) μ) : evAnd ea eb ρ μ = .ok (.bl (a && b)) μ := by
  cases a with
  | true => simp [evAnd, h, Out.bind, h2 rfl]
  | false => simp [evAnd, h, Out.bind]
theorem k_or (h : ea ρ μ = .ok (.bl a) μ) (h2 : a = false → eb ρ μ = .ok (.bl b) μ) : evOr ea eb ρ μ = .ok (.bl (a || b)) μ := by
  cases a with
  | false => simp [evOr, h, Out.bind, h2 rfl]
  | true => simp [evOr, h, Out.bind]
theorem k_op {f : Mem → D → D → Option D} (h1 : ea ρ μ = .ok x μ1) (h2 : eb ρ μ1 = .ok y μ2) (h3 : f μ2 x y = some d) : evOp f ea eb ρ μ = .ok d μ2 := by simp [evOp, h1, h2, h3, Out.bind]
theorem k_iteT (h : ec ρ μ = .ok (.bl true) μ1) (h1 : ea ρ μ1 = .ok d μ') : evIte ec ea eb ρ μ = .ok d μ' := by simp [evIte, h, Out.bind, h1]
theorem k_iteF (h : ec ρ μ = .ok (.bl false) μ1) (h1 : eb ρ μ1 = .ok d μ') : evIte ec ea eb ρ μ = .ok d μ' := by simp [evIte, h, Out.bind, h1]
/-- the statements return d -/
def Ret (s : Es) (ρ : Sls) (μ : Mem) (d : D) (μ' : Mem) : Prop := ∃ ρ', s ρ μ = .ok (.rt d, ρ') μ'
theorem r_fin {N : List Str} {ds : List D} (h : Ret s (stS N ds) μ d μ') : finF N s ds μ = .ok d μ' := by
  obtain ⟨ρ', h⟩ := h
  simp [finF, h]
theorem r_ret (h : ea ρ μ = .ok d μ') : Ret (sRt ea) ρ μ d μ' := ⟨ρ, by simp [sRt, h, Out.bind]⟩
theorem r_seq (h : s ρ μ = .ok (.nx, ρ1) μ1) (h2 : Ret t ρ1 μ1 d μ') : Ret (sSq s t) ρ μ d μ' := by
  obtain ⟨ρ', h2⟩ := h2
  exact ⟨ρ', by simp [sSq, h, Out.bind, h2]⟩
theorem r_seqR (h : Ret s ρ μ d μ') : Ret (sSq s t) ρ μ d μ' := by
  obtain ⟨ρ', h⟩ := h
  exact ⟨ρ', by simp [sSq, h, Out.bind]⟩
theorem r_if (h : ec ρ μ = .ok (.bl c) μ1) (h1 : c = true → Ret s ρ μ1 d μ') (h2 : c = false → Ret t ρ μ1 d μ') : Ret (sIf ec s t) ρ μ d μ' := by
  cases c with
  | true => obtain ⟨ρ', h1⟩ := h1 rfl; exact ⟨ρ', by simp [sIf, h, Out.bind, h1]⟩
  | false => obtain ⟨ρ', h2⟩ := h2 rfl; exact ⟨ρ', by simp [sIf, h, Out.bind, h2]⟩
/-- if c: return .. -/
theorem r_guard (h : ec ρ μ = .ok (.bl c) μ1) (h1 : c = true → Ret (sRt er) ρ μ1 d μ') (h2 : c = false → Ret rest ρ μ1 d μ') : Ret (sSq (sIf ec (sRt er) sNx) rest) ρ μ d μ' := by
  cases c with
  | true =>
    obtain ⟨ρ', h1⟩ := h1 rfl
    exact ⟨ρ', by simp [sSq, sIf, h, Out.bind, h1]⟩
  | false =>
    obtain ⟨ρ', h2⟩ := h2 rfl
    exact ⟨ρ', by simp [sSq, sIf, sNx, h, Out.bind, h2]⟩
theorem n_as {i : Nat} (h : ea ρ μ = .ok d μ') : sAs ea (gNm i) ρ μ = .ok (.nx, ρ.set i (.v d)) μ' := by simp [sAs, gNm, h, Out.bind]
theorem n_ifT (h : ec ρ μ = .ok (.bl true) μ1) : sIf ec s t ρ μ = s ρ μ1 := by simp [sIf, h, Out.bind]
theorem n_ifF (h : ec ρ μ = .ok (.bl false) μ1) : sIf ec s t ρ μ = t ρ μ1 := by simp [sIf, h, Out.bind]
theorem n_sq (h : s ρ μ = .ok (.nx, ρ1) μ1) : sSq s t ρ μ = t ρ1 μ1 := by simp [sSq, h, Out.bind]
end

/-! ### comprehensions -/
theorem lcL_map {ee : Ev} {vs : List Nat} {ρ : Sls} {μ : Mem} {i : Nat} {f : D → D} : ∀ {ds : List D}, (∀ d ∈ ds, ee ((wipeS ρ vs).set i (.v d)) μ = .ok (f d) μ) → lcL (gNm i) (evC (.bl true)) ee vs ρ ds μ = .ok (ds.map f) μ
  | [], _ => rfl
  | d :: ds, h => by
    have h1 := h d (List.mem_cons_self ..)
    have h2 := lcL_map (ee := ee) (vs := vs) (ρ := ρ) (μ := μ) (i := i) (f := f) (ds := ds) fun d hd => h d (List.mem_cons_of_mem _ hd)
    simp [lcL, gNm, evC, noX, Out.bind, h1, h2]
theorem lcL_filter {ec ee : Ev} {vs : List Nat} {ρ : Sls} {μ : Mem} {i : Nat} {p : D → Bool} : ∀ {ds : List D}, (∀ d ∈ ds, ec ((wipeS ρ vs).set i (.v d)) μ = .ok (.bl (p d)) μ ∧ ee ((wipeS ρ vs).set i (.v d)) μ = .ok d μ) → lcL (gNm i) ec ee vs ρ ds μ = .ok (ds.filter p) μ
  | [], _ => rfl
  | d :: ds, h => by
    obtain ⟨h1, h1'⟩ := h d (List.mem_cons_self ..)
    have h2 := lcL_filter (ec := ec) (ee := ee) (vs := vs) (ρ := ρ) (μ := μ) (i := i) (p := p) (ds := ds) fun d hd => h d (List.mem_cons_of_mem _ hd)
    cases q : p d <;> simp [lcL, gNm, noX, Out.bind, h1, h1', h2, q]
/-- a comprehension that changes the cells: an invariant of the cells, a property of each item -/
theorem lcL_inv {ee : Ev} {vs : List Nat} {ρ : Sls} {i : Nat} {P : Mem → Prop} {R : D → D → Prop} : ∀ {ds : List D} {μ : Mem}, P μ → (∀ d ∈ ds, ∀ μ, P μ → ∃ y μ', ee ((wipeS ρ vs).set i (.v d)) μ = .ok y μ' ∧ P μ' ∧ R d y) → ∃ ys μ', lcL (gNm i) (evC (.bl true)) ee vs ρ ds μ = .ok ys μ' ∧ P μ' ∧ Paired R ds ys
  | [], μ, h, _ => ⟨[], μ, rfl, h, .nil⟩
  | d :: ds, μ, h, k => by
    obtain ⟨y, μ1, h1, p1, r1⟩ := k d (List.mem_cons_self ..) μ h
    obtain ⟨ys, μ2, h2, p2, r2⟩ := lcL_inv (ee := ee) (vs := vs) (ρ := ρ) (i := i) p1 fun d hd => k d (List.mem_cons_of_mem _ hd)
    exact ⟨y :: ys, μ2, by simp [lcL, gNm, evC, noX, Out.bind, h1, h2], p2, .cons r1 r2⟩

/-! ### loops -/
/-- a loop that runs through: an invariant of slots and cells, by the items left -/
theorem forL_inv {t : Tg} {b : Es} {P : List D → Sls → Mem → Prop} : ∀ {ds : List D} {ρ : Sls} {μ : Mem}, P ds ρ μ → (∀ d ds ρ μ, P (d :: ds) ρ μ → ∃ ρ1 μ1 ρ2 μ2, t d ρ μ = .ok ρ1 μ1 ∧ b ρ1 μ1 = .ok (.nx, ρ2) μ2 ∧ P ds ρ2 μ2) → ∃ ρ' μ', forL t b ds ρ μ = .ok (.nx, ρ') μ' ∧ P [] ρ' μ'
  | [], ρ, μ, h, _ => ⟨ρ, μ, rfl, h⟩
  | d :: ds, ρ, μ, h, k => by
    obtain ⟨ρ1, μ1, ρ2, μ2, h1, h2, h3⟩ := k d ds ρ μ h
    obtain ⟨ρ', μ', h4, h5⟩ := forL_inv h3 k
    exact ⟨ρ', μ', by simp [forL, h1, h2, Out.bind, h4], h5⟩
end PyI

set_option Elab.async false
set_option linter.all false
set_option maxRecDepth 100000
set_option maxHeartbeats 4000000
namespace PyI
open PySem

/-! ### what comes, by an invariant P of the cells -/
variable {P : Mem → Prop}
def Gv (P : Mem → Prop) (ev : Ev) (ρ : Sls) (R : D → Prop) : Prop := ∀ μ, P μ → ∃ d μ', ev ρ μ = .ok d μ' ∧ P μ' ∧ R d
def GvL (P : Mem → Prop) (ev : EvL) (ρ : Sls) (R : List D → Prop) : Prop := ∀ μ, P μ → ∃ d μ', ev ρ μ = .ok d μ' ∧ P μ' ∧ R d
def Nx (P : Mem → Prop) (s : Es) (ρ : Sls) (R : Sls → Prop) : Prop := ∀ μ, P μ → ∃ ρ' μ', s ρ μ = .ok (.nx, ρ') μ' ∧ P μ' ∧ R ρ'
def Rt (P : Mem → Prop) (s : Es) (ρ : Sls) (R : D → Prop) : Prop := ∀ μ, P μ → ∃ d ρ' μ', s ρ μ = .ok (.rt d, ρ') μ' ∧ P μ' ∧ R d
def GvF (P : Mem → Prop) (fn : Fun) (ds : List D) (R : D → Prop) : Prop := ∀ μ, P μ → ∃ d μ', fn ds μ = .ok d μ' ∧ P μ' ∧ R d
section
variable {ρ : Sls} {ea eb ec : Ev} {el ek : EvL} {R R1 : D → Prop} {S : List D → Prop} {T : Sls → Prop} {s t : Es} {i j : Nat}
theorem Gv.imp (h : Gv P ea ρ R1) (k : ∀ d, R1 d → R d) : Gv P ea ρ R := fun μ p => let ⟨d, μ', e, p', r⟩ := h μ p; ⟨d, μ', e, p', k d r⟩
theorem GvF.imp {fn : Fun} {ds : List D} (h : GvF P fn ds R1) (k : ∀ d, R1 d → R d) : GvF P fn ds R := fun μ p => let ⟨d, μ', e, p', r⟩ := h μ p; ⟨d, μ', e, p', k d r⟩
theorem g_pure {d : D} (h : ∀ μ, P μ → ea ρ μ = .ok d μ) (r : R d) : Gv P ea ρ R := fun μ p => ⟨d, μ, h μ p, p, r⟩
theorem g_c {d : D} (r : R d) : Gv P (evC d) ρ R := g_pure (fun _ _ => rfl) r
theorem g_v {d : D} (h : ρ[i]? = some (.v d)) (r : R d) : Gv P (evV i) ρ R := g_pure (fun μ _ => by simp [evV, h]) r
theorem gl_nil {S : List D → Prop} (r : S []) : GvL P evNil ρ S := fun μ p => ⟨[], μ, rfl, p, r⟩
theorem gl_cons (h : Gv P ea ρ R1) (k : ∀ d, R1 d → GvL P el ρ fun ds => S (d :: ds)) : GvL P (evCons ea el) ρ S := fun μ p => by
  obtain ⟨d, μ1, e1, p1, r1⟩ := h μ p
  obtain ⟨ds, μ2, e2, p2, r2⟩ := k d r1 μ1 p1
  exact ⟨d :: ds, μ2, by simp [evCons, e1, e2, Out.bind], p2, r2⟩
theorem g_op {f : Mem → D → D → Option D} (h : Gv P ea ρ R1) (k : ∀ x, R1 x → Gv P eb ρ fun y => ∃ d, (∀ μ, P μ → f μ x y = some d) ∧ R d) : Gv P (evOp f ea eb) ρ R := fun μ p => by
  obtain ⟨x, μ1, e1, p1, r1⟩ := h μ p
  obtain ⟨y, μ2, e2, p2, d, q, r⟩ := k x r1 μ1 p1
  exact ⟨d, μ2, by simp [evOp, e1, e2, q μ2 p2, Out.bind], p2, r⟩
theorem g_lst (h : GvL P el ρ fun ds => ds.length ≤ sizeLine ∧ R (.lst ds)) : Gv P (evLst el) ρ R := fun μ p => by
  obtain ⟨ds, μ1, e1, p1, hz, r⟩ := h μ p
  exact ⟨_, μ1, by simp [evLst, e1, hz, Out.bind], p1, r⟩
theorem g_tup (h : GvL P el ρ fun ds => ds.length ≤ sizeLine ∧ R (.tup ds)) : Gv P (evTup el) ρ R := fun μ p => by
  obtain ⟨ds, μ1, e1, p1, hz, r⟩ := h μ p
  exact ⟨_, μ1, by simp [evTup, e1, hz, Out.bind], p1, r⟩
theorem g_call {fn : Fun} {np nk : Nat} {pm : List (Option Nat)} (h : GvL P el ρ fun ds => GvL P ek ρ fun es => ds.length = np ∧ es.length = nk ∧ GvF P fn (pick .non pm (ds ++ es)) R) : Gv P (evCall fn np nk pm el ek) ρ R := fun μ p => by
  obtain ⟨ds, μ1, e1, p1, h1⟩ := h μ p
  obtain ⟨es, μ2, e2, p2, l1, l2, h2⟩ := h1 μ1 p1
  obtain ⟨d, μ3, e3, p3, r⟩ := h2 μ2 p2
  exact ⟨d, μ3, by simp [evCall, e1, e2, l1, l2, e3, Out.bind], p3, r⟩
theorem g_bi {f : Mem → List D → Option D} (h : GvL P el ρ fun ds => ∃ d, (∀ μ, P μ → f μ ds = some d) ∧ R d) : Gv P (evBi f el) ρ R := fun μ p => by
  obtain ⟨ds, μ1, e1, p1, d, q, r⟩ := h μ p
  exact ⟨d, μ1, by simp [evBi, e1, q μ1 p1, Out.bind], p1, r⟩
theorem g_ite (h : Gv P ec ρ fun c => ∃ b, c = .bl b ∧ (b = true → Gv P ea ρ R) ∧ (b = false → Gv P eb ρ R)) : Gv P (evIte ec ea eb) ρ R := fun μ p => by
  obtain ⟨c, μ1, e1, p1, b, rfl, h1, h2⟩ := h μ p
  cases b with
  | true => obtain ⟨d, μ2, e2, p2, r⟩ := h1 rfl μ1 p1; exact ⟨d, μ2, by simp [evIte, e1, e2, Out.bind], p2, r⟩
  | false => obtain ⟨d, μ2, e2, p2, r⟩ := h2 rfl μ1 p1; exact ⟨d, μ2, by simp [evIte, e1, e2, Out.bind], p2, r⟩
theorem g_not (h : Gv P ea ρ fun c => ∃ b, c = .bl b ∧ R (.bl (!b))) : Gv P (evNot ea) ρ R := fun μ p => by
  obtain ⟨c, μ1, e1, p1, b, rfl, r⟩ := h μ p
  exact ⟨_, μ1, by simp [evNot, e1, Out.bind], p1, r⟩
/-- [e for x in ds] -/
theorem g_lc {ei : EvL} {vs : List Nat} {ee : Ev} (h : GvL P ei ρ fun ds => ds.length ≤ sizeLine ∧ (∀ d ∈ ds, Gv P ee ((wipeS ρ vs).set i (.v d)) R1) ∧ ∀ ys, ys.length = ds.length → (∀ y ∈ ys, R1 y) → R (.lst ys)) : Gv P (evLc ei (gNm i) (evC (.bl true)) ee vs) ρ R := fun μ p => by
  obtain ⟨ds, μ1, e1, p1, hz, h1, h2⟩ := h μ p
  obtain ⟨ys, μ2, e2, p2, r2⟩ := lcL_inv (ee := ee) (vs := vs) (ρ := ρ) (i := i) (P := P) (R := fun _ y => R1 y) p1 fun d hd μ pm => h1 d hd μ pm
  refine ⟨.lst ys, μ2, by simp [evLc, e1, hz, e2, Out.bind], p2, h2 ys (Paired.length r2).symm fun y hy => ?_⟩
  obtain ⟨a, _, r⟩ := paired_mem (paired_flip r2) hy
  exact r
theorem gl_sqT (h : Gv P ea ρ fun v => ∃ ds, v = .tup ds ∧ S ds) : GvL P (evSqT ea) ρ S := fun μ p => by
  obtain ⟨v, μ1, e1, p1, ds, rfl, r⟩ := h μ p
  exact ⟨ds, μ1, by simp [evSqT, e1, Out.bind], p1, r⟩
theorem gl_sqL (h : Gv P ea ρ fun v => ∃ ds, (v = .lst ds ∨ v = .scr ds) ∧ S ds) : GvL P (evSqL ea) ρ S := fun μ p => by
  obtain ⟨v, μ1, e1, p1, ds, hv, r⟩ := h μ p
  rcases hv with rfl | rfl
  · exact ⟨ds, μ1, by simp [evSqL, e1, Out.bind], p1, r⟩
  · exact ⟨ds, μ1, by simp [evSqL, e1, Out.bind], p1, r⟩
theorem gl_r1 {n : Nat} (h : Gv P ea ρ fun v => v = .int n ∧ n < 2 ^ 62 ∧ S (rngD 0 n)) : GvL P (evR1 (evCons ea evNil)) ρ S := fun μ p => by
  obtain ⟨v, μ1, e1, p1, rfl, hn, r⟩ := h μ p
  have a1 : -(2 ^ 62) ≤ (n : Int) := by omega
  have a2 : (n : Int) < 2 ^ 62 := by omega
  refine ⟨rngD 0 n, μ1, ?_, p1, r⟩
  simp only [evR1, evCons, evNil, e1, Out.bind]
  rw [if_pos ⟨a1, a2⟩]
  simp
/-! statements -/
theorem x_nx (r : T ρ) : Nx P sNx ρ T := fun μ p => ⟨ρ, μ, rfl, p, r⟩
theorem x_as (h : Gv P ea ρ fun d => T (ρ.set i (.v d))) : Nx P (sAs ea (gNm i)) ρ T := fun μ p => by
  obtain ⟨d, μ1, e1, p1, r⟩ := h μ p
  exact ⟨_, μ1, n_as e1, p1, r⟩
theorem x_ls2 (h : Gv P ea ρ fun d => ∃ x y, d = .lst [x, y] ∧ T ((ρ.set i (.v x)).set j (.v y))) : Nx P (sAs ea (gLs 2 (gsCons (gNm i) (gsCons (gNm j) gsNil)))) ρ T := fun μ p => by
  obtain ⟨d, μ1, e1, p1, x, y, rfl, r⟩ := h μ p
  exact ⟨_, μ1, by simp [sAs, e1, gLs, gsCons, gNm, gsNil, Out.bind], p1, r⟩
theorem x_tp2 (h : Gv P ea ρ fun d => ∃ x y, d = .tup [x, y] ∧ T ((ρ.set i (.v x)).set j (.v y))) : Nx P (sAs ea (gTp 2 (gsCons (gNm i) (gsCons (gNm j) gsNil)))) ρ T := fun μ p => by
  obtain ⟨d, μ1, e1, p1, x, y, rfl, r⟩ := h μ p
  exact ⟨_, μ1, by simp [sAs, e1, gTp, gsCons, gNm, gsNil, Out.bind], p1, r⟩
theorem x_p2 (h : GvL P el ρ fun ds => ∃ x y, ds = [x, y] ∧ T ((ρ.set i (.v x)).set j (.v y))) : Nx P (sP2 i j el) ρ T := fun μ p => by
  obtain ⟨d, μ1, e1, p1, x, y, rfl, r⟩ := h μ p
  exact ⟨_, μ1, by simp [sP2, e1, Out.bind], p1, r⟩
theorem x_sq (h : Nx P s ρ fun ρ1 => Nx P t ρ1 T) : Nx P (sSq s t) ρ T := fun μ p => by
  obtain ⟨ρ1, μ1, e1, p1, h1⟩ := h μ p
  obtain ⟨ρ2, μ2, e2, p2, r⟩ := h1 μ1 p1
  exact ⟨ρ2, μ2, by simp [sSq, e1, e2, Out.bind], p2, r⟩
theorem x_if (h : Gv P ec ρ fun c => ∃ b, c = .bl b ∧ (b = true → Nx P s ρ T) ∧ (b = false → Nx P t ρ T)) : Nx P (sIf ec s t) ρ T := fun μ p => by
  obtain ⟨c, μ1, e1, p1, b, rfl, h1, h2⟩ := h μ p
  cases b with
  | true => obtain ⟨ρ', μ2, e2, p2, r⟩ := h1 rfl μ1 p1; exact ⟨ρ', μ2, by simp [sIf, e1, e2, Out.bind], p2, r⟩
  | false => obtain ⟨ρ', μ2, e2, p2, r⟩ := h2 rfl μ1 p1; exact ⟨ρ', μ2, by simp [sIf, e1, e2, Out.bind], p2, r⟩
theorem x_fz (h : Nx P s (frz i ρ) T) : Nx P (sFz i s) ρ T := h
theorem x_ow (h : GvL P el ρ fun ds => ds.length ≤ sizeLine ∧ T (ρ.set i (.ol ds))) : Nx P (sOw i el) ρ T := fun μ p => by
  obtain ⟨ds, μ1, e1, p1, hz, r⟩ := h μ p
  exact ⟨_, μ1, by simp [sOw, e1, hz, Out.bind], p1, r⟩
theorem x_ap {xs : List D} (hi : ρ[i]? = some (.ol xs)) (hz : xs.length < sizeLine) (h : Gv P ea ρ fun d => T (ρ.set i (.ol (xs ++ [d])))) : Nx P (sAp i ea) ρ T := fun μ p => by
  obtain ⟨d, μ1, e1, p1, r⟩ := h μ p
  exact ⟨_, μ1, by simp [sAp, hi, e1, hz, Out.bind], p1, r⟩
/-- a loop that runs through: an invariant of the slots -/
theorem x_for {ei : EvL} {I : List D → Sls → Prop} (h : GvL P ei ρ fun ds => I ds ρ) (k : ∀ d ds ρ, I (d :: ds) ρ → Nx P s (ρ.set i (.v d)) (I ds)) (r : ∀ ρ, I [] ρ → T ρ) : Nx P (sFor ei (gNm i) s) ρ T := fun μ p => by
  obtain ⟨ds, μ1, e1, p1, h1⟩ := h μ p
  obtain ⟨ρ', μ', e2, p2, i2⟩ := forL_inv (t := gNm i) (b := s) (P := fun ds ρ μ => I ds ρ ∧ P μ) (ds := ds) (ρ := ρ) (μ := μ1) ⟨h1, p1⟩ fun d ds ρ μ ⟨hi, pm⟩ => by
    obtain ⟨ρ2, μ2, e, p2, i2⟩ := k d ds ρ hi μ pm
    exact ⟨_, μ, ρ2, μ2, rfl, e, i2, p2⟩
  exact ⟨ρ', μ', by simp [sFor, e1, e2, Out.bind], i2, r ρ' p2⟩
theorem t_sq (h : Nx P s ρ fun ρ1 => Rt P t ρ1 R) : Rt P (sSq s t) ρ R := fun μ p => by
  obtain ⟨ρ1, μ1, e1, p1, h1⟩ := h μ p
  obtain ⟨d, ρ2, μ2, e2, p2, r⟩ := h1 μ1 p1
  exact ⟨d, ρ2, μ2, by simp [sSq, e1, e2, Out.bind], p2, r⟩
theorem t_rt (h : Gv P ea ρ R) : Rt P (sRt ea) ρ R := fun μ p => by
  obtain ⟨d, μ1, e1, p1, r⟩ := h μ p
  exact ⟨d, ρ, μ1, by simp [sRt, e1, Out.bind], p1, r⟩
theorem f_of {N : List Str} {ds : List D} (h : Rt P s (stS N ds) R) : GvF P (finF N s) ds R := fun μ p => by
  obtain ⟨d, ρ', μ', e, p', r⟩ := h μ p
  exact ⟨d, μ', by simp [finF, e], p', r⟩
/-- if c: return .. that is not taken -/
theorem x_pass {er : Ev} (h : Gv P ec ρ fun c => c = .bl false ∧ T ρ) : Nx P (sIf ec (sRt er) sNx) ρ T := x_if (h.imp fun c ⟨e, r⟩ => ⟨false, e, (fun z => by cases z), fun _ => x_nx r⟩)
end
end PyI

set_option Elab.async false
set_option linter.all false
set_option maxRecDepth 100000
set_option maxHeartbeats 4000000
namespace PyI
open PySem PySem.Spec PyProof.Rows L2

/-! ### instances: fields, methods, making -/
def insAt (μ : Mem) (c : Nat) (d : D) : Option (Nat × List (Str × D)) := match d with
  | .cell l => (match μ[l]? with
    | some (.ins c' fs) => if c' = c then some (l, fs) else none
    | _ => none)
  | _ => none
theorem insAt_eq {μ : Mem} {c l : Nat} {d : D} {fs : List (Str × D)} (h : insAt μ c d = some (l, fs)) : d = .cell l ∧ μ[l]? = some (.ins c fs) := by
  unfold insAt at h
  split at h
  · split at h
    · next e =>
      split at h
      · next q => cases h; subst q; exact ⟨rfl, e⟩
      · cases h
    · cases h
  · cases h
def putD (f : Str) (d : D) : List (Str × D) → List (Str × D)
  | [] => [(f, d)]
  | (g, x) :: r => if g = f then (g, d) :: r else (g, x) :: putD f d r
section
variable {G : GC} {E : Ent} {F F' : Hp} {ι ι' : List Addr} {μ μ' : Mem} {ρ : Sls} {σ : L2.St} {H H' : Hp}
abbrev FsR (G : GC) (F : Hp) (ι : List Addr) : List (Str × D) → List (Str × V) → Prop := Paired fun p q => p.1 = q.1 ∧ Is G F ι p.2 q.2
theorem FsR.look {f : Str} {fs : List (Str × D)} {vs : List (Str × V)} (h : FsR G F ι fs vs) : ∀ {d : D}, fs.lookup f = some d → ∃ v, vs.lookup f = some v ∧ Is G F ι d v := by
  unfold FsR at h
  induction h with
  | nil => intro d e; cases e
  | @cons p q ps qs r t ih =>
    intro d e
    obtain ⟨x, d0⟩ := p
    obtain ⟨y, v0⟩ := q
    obtain ⟨rfl, r'⟩ := (show x = y ∧ Is G F ι d0 v0 from r)
    rw [List.lookup_cons] at e ⊢
    cases z : f == x with
    | true => rw [z] at e; cases e; exact ⟨v0, rfl, r'⟩
    | false => rw [z] at e; exact ih e
theorem FsR.none {f : Str} {fs : List (Str × D)} {vs : List (Str × V)} (h : FsR G F ι fs vs) : fs.lookup f = none → vs.lookup f = none := by
  unfold FsR at h
  induction h with
  | nil => intro _; rfl
  | @cons p q ps qs r t ih =>
    intro e
    obtain ⟨x, d0⟩ := p
    obtain ⟨y, v0⟩ := q
    obtain ⟨rfl, r'⟩ := (show x = y ∧ Is G F ι d0 v0 from r)
    rw [List.lookup_cons] at e ⊢
    cases z : f == x with
    | true => rw [z] at e; cases e
    | false => rw [z] at e; exact ih e
theorem FsR.put {f : Str} {fs : List (Str × D)} {vs : List (Str × V)} (h : FsR G F ι fs vs) {d : D} {v : V} (r : Is G F ι d v) : FsR G F ι (putD f d fs) (putF f v vs) := by
  unfold FsR at h ⊢
  induction h with
  | nil => exact .cons ⟨rfl, r⟩ .nil
  | @cons p q ps qs r0 t ih =>
    obtain ⟨x, d0⟩ := p
    obtain ⟨y, v0⟩ := q
    obtain ⟨rfl, r1⟩ := (show x = y ∧ Is G F ι d0 v0 from r0)
    unfold putD putF
    by_cases z : x = f
    · rw [if_pos z, if_pos z]; exact .cons ⟨rfl, r⟩ t
    · rw [if_neg z, if_neg z]; exact .cons ⟨rfl, r1⟩ ih
/-- a cell's instance -/
theorem Stt.cellI {c l : Nat} {fs : List (Str × D)} {v : V} (S : Stt G E F ι μ ρ σ H) (h : IsV G F ι ρ σ (.cell l) v) (e : μ[l]? = some (.ins c fs)) : ∃ a dx vs, v = .ref a ∧ ι[l]? = some a ∧ H a = some (.ins (G.ca c) dx vs) ∧ FsR G F ι fs vs := by
  cases h.data (by intro xs z; cases z) with
  | cell hl =>
    obtain ⟨a, e1, r⟩ := paired_get S.rep.cell e
    rw [hl] at e1
    cases e1
    obtain ⟨dx, vs, h1, h2⟩ := r
    exact ⟨_, dx, vs, rfl, hl, h1, h2⟩
end
section
variable {G : GC} {n : Nat} {N : List Str} {sc : Scope} {X : Cx} {qc : Bool} {k k1 : Bool} {pos apos p : Pos}
/-- o.f -/
def evFld (c : Nat) (f : Str) (ea : Ev) : Ev := fun ρ μ => (ea ρ μ).bind fun d μ1 => match insAt μ1 c d with
  | some (_, fs) => (match fs.lookup f with
    | some d' => .ok d' μ1
    | none => .bad)
  | none => .bad
theorem de_fld (c : Cxt G n N sc X qc) (i : Nat) {f : Str} {o : Expr} {ea : Ev} (C : Cls G.K (G.ca i)) (nA : NoAttr G.K (G.ca i) f) (he : DE G X k1 o ea) (hb : attributeBase o f X.env (eval o X.env) = eval o X.env := by rfl) : DE G X true (.Attribute o f pos) (evFld i f ea) :=
  ⟨fun E W tk => PE.imp (pe_fld (he.run E W tk) hb) fun σ H Q h => by
    obtain ⟨F, ι, μ, ρ, S, o⟩ := h
    refine tE_bind S o fun F1 ι1 μ1 H1 d v S1 g1 i1 _ o1 => ?_
    split at o1
    · next l fs e =>
      obtain ⟨rfl, e'⟩ := insAt_eq e
      split at o1
      · next d' ef =>
        obtain ⟨a, dx, vs, rfl, hl, hH, r⟩ := S1.cellI i1.v e'
        obtain ⟨w, e2, iw⟩ := r.look ef
        exact ⟨a, _, dx, vs, w, rfl, hH, by rw [c.eK]; exact C, by rw [c.eK]; exact nA, e2, o1.val S1 iw⟩
      · exact o1.elim
    · exact o1.elim⟩
/-- o.f = .. -/
def gFl (c : Nat) (f : Str) (eo : Ev) : Tg := fun d ρ μ => (eo ρ μ).bind fun o μ1 => match insAt μ1 c o with
  | some (l, fs) => if fs.length < 1000 then .ok ρ (μ1.set l (.ins c (putD f d fs))) else .bad
  | none => .bad
theorem dg_fl (c : Cxt G n N sc X qc) (i : Nat) {f : Str} {o : Expr} {eo : Ev} (C : Cls G.K (G.ca i)) (nA : NoAttr G.K (G.ca i) f) (ho : DE G X k1 o eo) : DG G X (.Attribute o f pos) (gFl i f eo) :=
  ⟨fun E W tk => ⟨fun pins s σ H v u Q I r h => by
    obtain ⟨F, ι, μ, ρ, d, S, iv, o⟩ := h
    rw [arm_assign_Attribute]
    let Q1 : VK := fun x H1 => ∃ a dx fs, x = .ref a ∧ H1 a = some (.ins (G.ca i) dx fs) ∧ fs.length < 1000 ∧ Q σ (upd H1 a (.ins (G.ca i) dx (putF f v fs)))
    have t : tE G E k1 W eo σ H Q1 := tE_bindG S o fun F1 ι1 μ1 H1 d1 v1 S1 g1 i1 o1 => by
      split at o1
      · next l fs e =>
        obtain ⟨rfl, e'⟩ := insAt_eq e
        split at o1
        · next hz =>
          obtain ⟨a, dx, vs, rfl, hl, hH, rr⟩ := S1.cellI i1.v e'
          refine ⟨a, dx, vs, rfl, hH, by rw [← Paired.length rr]; exact hz, ?_⟩
          exact o1 F1 ι1 σ _ (S1.write hl ⟨dx, _, upd_same, rr.put (iv.grow g1)⟩) (Grow.refl _ _)
        · exact o1.elim
      · exact o1.elim
    refine wpAny_bind (wpAny_holding (thn ((ho.run E W tk).run pins s σ H Q1 I t) fun ov s1 ⟨x, H1, I1, r1, a, dx, fs, ex, hH, hz, q⟩ => ?_))
    subst ex
    obtain rfl : ov = Value.ref a := r1
    refine wpAny_bind (wpAny_standAt (wpAny_bind (wpAny_holding ?_)))
    exact setattr_ok I1 hH (by rw [c.eK]; exact C) (by rw [c.eK]; exact nA) hz r fun s3 I3 => wpAny_release ⟨σ, _, I3, q⟩⟩⟩
/-- a def of a class's text -/
structure FnM (G : GC) (k : Nat) (i : Nat) (x q : Str) (st : Stmt) (dvs : List V) (ps : List Str) (fn : Fun) : Prop where
  ex : ∃ fd, FunD G.K x q (defArgs st) (defBody st) (defScope st) dvs [] (G.fa i) fd ∧ FnG G k (G.fa i) fd ps fn
/-- o.m(e, ..) -/
def evMeth (c : Nat) (m : Str) (fn : Fun) (np : Nat) (pm : List (Option Nat)) (eo : Ev) (ea : EvL) : Ev := fun ρ μ => (eo ρ μ).bind fun o μ1 => match insAt μ1 c o with
  | some (l, fs) => (match fs.lookup m with
    | some _ => .bad
    | none => (ea ρ μ1).bind fun ds μ2 => if ds.length = np then fn (pick .non pm (o :: ds)) μ2 else .bad)
  | none => .bad
abbrev BndM (G : GC) (i : Nat) (x q : Str) (st : Stmt) (dvs : List V) (ps : List Str) (np : Nat) (pm : List (Option Nat)) : Prop := ∀ fd, FunD G.K x q (defArgs st) (defBody st) (defScope st) dvs [] (G.fa i) fd → BndD G.K fd ps np [] pm
/-- the method's call behind the receiver -/
theorem meth_core (c : Cxt G n N sc X) {E : Ent} {W : WX} (tk : Takes X W) {j i ci : Nat} {x q m : Str} {st : Stmt} {dvs : List V} {ps : List Str} {fn : Fun} {np : Nat} {pm : List (Option Nat)} {o : Expr} {args : List Expr} {eo : Ev} {ea : EvL} {pl : Sem Bool}
    (F : FnM G j i x q st dvs ps fn) (hb : BndM G i x q st dvs ps (np + 1) pm) (C : Cls G.K (G.ca ci)) (M : Meth G.K (G.ca ci) m (G.fa i)) (ho : DE G X k1 o eo) (ha : DA G X true args ea) (hj : j ≤ n)
    (hcall : ∀ (f : Addr) (a : Addr) (Q : Value → Shared → Prop) (s : Shared), PySem.W.keepIn X.K (.ref f) = true → wpAny (model X.prog X.w) X.A (spliced (backTo pos (starEach args X.env))) (fun us s1 => X.K.In s1.heap ∧ wpAny (model X.prog X.w) X.A (call (.ref f) ([.ref a] ++ us)) Q X.xe s1) X.xe s →
      wpAny (model X.prog X.w) X.A (callWith pos (.ref f) [.ref a] (backTo pos (starEach args X.env)) (backToKw pos (keywordEach [] X.env))) Q X.xe s)
    (ht : eval (.Call (.Attribute o m apos) args [] pos) X.env = (do
      let ov ← eval o X.env
      standAt apos.atName
      let (f, first) ← holding [ov] (getMethod ov m pl)
      callWith pos f first (backTo pos (starEach args X.env)) (backToKw pos (keywordEach [] X.env))))
    {pins : List (Addr × Obj)} {s : Shared} {σ : L2.St} {H : Hp} {Q : VK} (I : L2.Inv X pins σ H s) (h : tE G E true W (evMeth ci m fn np pm eo ea) σ H Q) :
    wpAny (model X.prog X.w) X.A (eval (.Call (.Attribute o m apos) args [] pos) X.env) (EP X pins σ Q) X.xe s := by
  obtain ⟨fd, FD, FG⟩ := F.ex
  obtain ⟨F0, ι, μ, ρ, S, o⟩ := h
  let Q1 : VK := fun x H1 => ∃ F1 ι1 μ1 l fs a dx vs, x = .ref a ∧ Stt G E F1 ι1 μ1 ρ σ H1 ∧ ι1[l]? = some a ∧ H1 a = some (.ins (G.ca ci) dx vs) ∧ vs.lookup m = none ∧
    OutE G E true F1 ι1 ρ σ W Q ((ea ρ μ1).bind fun ds μ2 => if ds.length = np then fn (pick .non pm (.cell l :: ds)) μ2 else .bad) ∧ fs = ([] : List (Str × D))
  have t1 : tE G E k1 W eo σ H Q1 := tE_bind S o fun F1 ι1 μ1 H1 d v S1 g1 i1 _ o1 => by
    split at o1
    · next l fs e =>
      obtain ⟨rfl, e'⟩ := insAt_eq e
      split at o1
      · exact o1.elim
      · next el =>
        obtain ⟨a, dx, vs, rfl, hl, hH, rr⟩ := S1.cellI i1.v e'
        exact ⟨F1, ι1, μ1, l, [], a, dx, vs, rfl, S1, hl, hH, rr.none el, o1, rfl⟩
    · exact o1.elim
  refine PySem.W.methodCall_KW (pl := pl) (thn ((ho.run E W tk).run pins s σ H Q1 I t1) fun u s1 ⟨x, H1, I1, rx, F1, ι1, μ1, l, _, a, dx, vs, ex, S1, hl, hH, hlk, o1, _⟩ => ?_) ht
  subst ex
  obtain rfl : u = Value.ref a := rx
  refine getmeth_ok I1 hH (by rw [c.eK]; exact C) (by rw [c.eK]; exact M) hlk ?_
  let Q2 : List V → Hp → Prop := fun vs H2 => SpD G ps.length fn (pick .non pm (.ref a :: vs)) H2 Q (WE W σ) ∧ vs.length = np
  have t2 : tL G E true W ea σ H1 Q2 := tL_bind S1 o1 fun F2 ι2 μ2 H2 ds ws S2 g2 i2 o2 => by
    split at o2
    · next hz =>
      refine ⟨spD_of S2 (is_pick pm (.cons ((Is.cell hl).grow g2) i2.all)) ?_ o2, i2.all.length.symm.trans hz⟩
      unfold pick
      rw [List.length_map]
      exact (hb fd FD).1
    · exact o2.elim
  refine hcall _ _ _ _ (by rw [c.eK]; exact M.kp) (thn ((ha.run E W tk).run pos pins s1 σ H1 Q2 I1 t2) fun us s2 ⟨ws, H2, I2, r, q2, hz⟩ => ⟨I2.kIn, ?_⟩)
  have hk := I2.kIn
  rw [c.eK] at hk
  have r2 : Vals (V.ref a :: ws) (Value.ref a :: us) := .cons rfl r
  have hbb := (hb fd FD).2 s2 (.ref a :: us) [] hk (by rw [List.length_cons, ← r.length, hz]) rfl
  rw [List.append_nil] at hbb
  exact run_fnG c FG hj tk hbb I2 (vals_pick pm r2) q2
theorem de_meth (c : Cxt G n N sc X) {j i : Nat} (ci : Nat) {x q m : Str} {st : Stmt} {dvs : List V} {ps : List Str} {fn : Fun} {np : Nat} {pm : List (Option Nat)} {o e : Expr} {es : List Expr} {eo : Ev} {ea : EvL} {pl : Sem Bool}
    (F : FnM G j i x q st dvs ps fn) (hb : BndM G i x q st dvs ps (np + 1) pm) (C : Cls G.K (G.ca ci)) (M : Meth G.K (G.ca ci) m (G.fa i)) (ho : DE G X k1 o eo) (ha : DA G X true (e :: es) ea) (hj : j ≤ n := by decide)
    (hst : starEach (e :: es) X.env = (false, eval e X.env) :: starEach es X.env := by rfl) (hpl : (backTo pos (starEach es X.env)).any (·.1) = false := by rfl)
    (ht : eval (.Call (.Attribute o m apos) (e :: es) [] pos) X.env = (do
      let ov ← eval o X.env
      standAt apos.atName
      let (f, first) ← holding [ov] (getMethod ov m pl)
      callWith pos f first (backTo pos (starEach (e :: es) X.env)) (backToKw pos (keywordEach [] X.env))) := by rfl) : DE G X true (.Call (.Attribute o m apos) (e :: es) [] pos) (evMeth ci m fn np pm eo ea) :=
  ⟨fun E W tk => ⟨fun pins s σ H Q I h => meth_core c tk F hb C M ho ha hj (fun f a Q s hk h => PySem.W.callWith_K (first := [.ref a]) (h₀ := X.base) I.ok.mod.kin hk h hst hpl) ht I h⟩⟩
theorem de_meth0 (c : Cxt G n N sc X) {j i : Nat} (ci : Nat) {x q m : Str} {st : Stmt} {dvs : List V} {ps : List Str} {fn : Fun} {pm : List (Option Nat)} {o : Expr} {eo : Ev} {pl : Sem Bool}
    (F : FnM G j i x q st dvs ps fn) (hb : BndM G i x q st dvs ps 1 pm) (C : Cls G.K (G.ca ci)) (M : Meth G.K (G.ca ci) m (G.fa i)) (ho : DE G X k1 o eo) (hj : j ≤ n := by decide)
    (ht : eval (.Call (.Attribute o m apos) [] [] pos) X.env = (do
      let ov ← eval o X.env
      standAt apos.atName
      let (f, first) ← holding [ov] (getMethod ov m pl)
      callWith pos f first (backTo pos (starEach [] X.env)) (backToKw pos (keywordEach [] X.env))) := by rfl) : DE G X true (.Call (.Attribute o m apos) [] [] pos) (evMeth ci m fn 0 pm eo evNil) :=
  ⟨fun E W tk => ⟨fun pins s σ H Q I h => by
  obtain ⟨fd, FD, FG⟩ := F.ex
  obtain ⟨F0, ι, μ, ρ, S, o⟩ := h
  let Q1 : VK := fun x H1 => ∃ a dx vs, x = .ref a ∧ H1 a = some (.ins (G.ca ci) dx vs) ∧ vs.lookup m = none ∧ SpD G ps.length fn (pick .non pm [.ref a]) H1 Q (WE W σ)
  have t1 : tE G E k1 W eo σ H Q1 := tE_bind S o fun F1 ι1 μ1 H1 d v S1 g1 i1 _ o1 => by
    split at o1
    · next l fs e =>
      obtain ⟨rfl, e'⟩ := insAt_eq e
      split at o1
      · exact o1.elim
      · next el =>
        obtain ⟨a, dx, vs, rfl, hl, hH, rr⟩ := S1.cellI i1.v e'
        have o2 : OutE G E true F1 ι1 ρ σ W Q (fn (pick .non pm [.cell l]) μ1) := o1
        refine ⟨a, dx, vs, rfl, hH, rr.none el, spD_of S1 (is_pick pm (.cons (.cell hl) .nil)) ?_ o2⟩
        unfold pick
        rw [List.length_map]
        exact (hb fd FD).1
    · exact o1.elim
  refine PySem.W.methodCall_KW (pl := pl) (thn ((ho.run E W tk).run pins s σ H Q1 I t1) fun u s1 ⟨x, H1, I1, rx, a, dx, vs, ex, hH, hlk, q⟩ => ?_) ht
  subst ex
  obtain rfl : u = Value.ref a := rx
  refine getmeth_ok I1 hH (by rw [c.eK]; exact C) (by rw [c.eK]; exact M) hlk ?_
  have hk := I1.kIn
  have hk' := hk
  rw [c.eK] at hk
  have r2 : Vals [V.ref a] [Value.ref a] := .cons rfl .nil
  have hbb := (hb fd FD).2 s1 [.ref a] [] hk rfl rfl
  exact PySem.W.callWith_K0 (first := [.ref a]) hk' (by rw [c.eK]; exact M.kp) (run_fnG c FG hj tk hbb I1 (vals_pick pm r2) q)⟩⟩
/-- what is wanted of a class that is made: its __init__ -/
def evMake (ci : Nat) (fn : Fun) (np : Nat) (pm : List (Option Nat)) (ea : EvL) : Ev := fun ρ μ => (ea ρ μ).bind fun ds μ1 => if ds.length = np then
    (fn (pick .non pm (.cell μ1.length :: ds)) (μ1 ++ [.ins ci []])).bind fun d μ2 => (match d with
      | .non => .ok (.cell μ1.length) μ2
      | _ => .bad)
  else .bad
theorem de_make (c : Cxt G n N sc X) {j i : Nat} (ci : Nat) {x q nm : Str} {st : Stmt} {dvs : List V} {ps : List Str} {fn : Fun} {np : Nat} {pm : List (Option Nat)} {e : Expr} {es : List Expr} {ea : EvL}
    (F : FnM G j i x q st dvs ps fn) (hb : BndM G i x q st dvs ps (np + 1) pm) (M : Mk G.K (G.ca ci) (G.fa i)) (hm : G.mg nm = some (.ref (G.ca ci))) (ha : DA G X true (e :: es) ea) (hj : j + 1 ≤ n := by decide) (hg : gloB sc nm = true := by rfl)
    (hdb : (nm == ("__debug__" : Str)) = false := by decide) (he : starEach (e :: es) X.env = (false, eval e X.env) :: starEach es X.env := by rfl) (hpl : (backTo pos (starEach es X.env)).any (·.1) = false := by rfl) :
    DE G X true (.Call (.Name nm p) (e :: es) [] pos) (evMake ci fn np pm ea) := by
  refine ⟨fun E W tk => ⟨fun pins s σ H Q I h => ?_⟩⟩
  obtain ⟨fd, FD, FG⟩ := F.ex
  obtain ⟨F0, ι, μ, ρ, S, o⟩ := h
  refine wpAny_Call_Name_kw (ld_glob I (c.gl hg) (by rw [c.emg]; exact hm) ?_ hdb)
  let Q2 : List V → Hp → Prop := fun vs H1 => vs.length = np ∧ ∀ x dx, H1 x = none → H1 dx = none → dx ≠ x →
    SpD G ps.length fn (pick .non pm (.ref x :: vs)) (upd (upd H1 dx (.own x)) x (.ins (G.ca ci) dx [])) (fun v H2 => v = .non ∧ Q (.ref x) H2) (WE W σ)
  have t2 : tL G E true W ea σ H Q2 := tL_bind S o fun F1 ι1 μ1 H1 ds ws S1 g1 i1 o1 => by
    split at o1
    · next hz =>
      refine ⟨i1.all.length.symm.trans hz, fun x dx hx hdx ne => ?_⟩
      have S2 := S1.lay (o := .own x) hdx
      have gr2 := S1.layGrow (o := .own x) hdx
      have hx2 : upd H1 dx (.own x) x = none := by rw [upd_ne (Ne.symm ne)]; exact hx
      have S3 := S2.layC (o := .ins (G.ca ci) dx []) (c := .ins ci []) hx2 ⟨dx, [], upd_same, .nil⟩
      have el : ι1.length = μ1.length := (Paired.length S1.rep.cell).symm
      have hl : (ι1 ++ [x])[μ1.length]? = some x := by rw [← el]; simp
      have gr3 : Grow F1 ι1 (upd F1 dx (.own x)) (ι1 ++ [x]) := gr2.trans ⟨fun _ _ h => h, List.prefix_append _ _⟩
      refine spD_of S3 (is_pick pm (.cons (.cell hl) (i1.all.grow gr3))) ?_ ?_
      · unfold pick
        rw [List.length_map]
        exact (hb fd FD).1
      · have o2 := OutE.grow gr3 o1
        cases q2 : fn (pick .non pm (.cell μ1.length :: ds)) (μ1 ++ [.ins ci []]) with
        | ok d μ2 =>
          rw [q2] at o2
          intro F4 ι4 H4 v S4 g4 i4
          cases d with
          | non =>
            have o3 : OutE G E true (upd F1 dx (.own x)) (ι1 ++ [x]) ρ σ W Q (.ok (.cell μ1.length) μ2) := o2
            cases (show Is G F4 ι4 .non v from i4)
            exact ⟨rfl, o3 F4 ι4 H4 _ S4 g4 (.of (.cell (prefix_get g4.c hl)))⟩
          | _ => exact (show False from o2).elim
        | exc c' es' m' => rw [q2] at o2; exact o2
        | bad => rw [q2] at o2; exact o2
    · exact o1.elim
  refine PySem.W.callWith_K (h₀ := X.base) I.ok.mod.kin (by rw [c.eK]; exact M.kp) (thn ((ha.run E W tk).run pos pins s σ H Q2 I t2) fun us s1 ⟨vs, H1, I1, r, hz, q⟩ => ⟨I1.kIn, ?_⟩) he hpl
  have hq := q (s1.heap.objs.size + 1) s1.heap.objs.size (I1.hok.fresh (Nat.le_succ _)) (I1.hok.fresh (Nat.le_refl _)) (Nat.ne_of_lt (Nat.lt_succ_self _))
  have I2 := Inv.made (C := G.ca ci) I1
  have r2 : Vals (V.ref (s1.heap.objs.size + 1) :: vs) (Value.ref (s1.heap.objs.size + 1) :: us) := .cons rfl r
  have e0 := I2.env0
  rw [c.eP, c.ew, c.eK, c.emg, c.eb] at e0
  have hk := I2.kIn
  rw [c.eK] at hk
  have hbb := (hb fd FD).2 _ (Value.ref (s1.heap.objs.size + 1) :: us) [] hk (by rw [List.length_cons, ← r.length, hz]) rfl
  rw [List.append_nil] at hbb
  have hcode := FG.run _ X.stack _ _ ⟨Value.ref (s1.heap.objs.size + 1) :: us, []⟩ _ _ _ (WE W σ) ((c.room.mono hj).make (G.ca ci) us []) (fun z => by
    have hgu := c.gua (Nat.le_trans z (Nat.le_trans (Nat.le_succ _) hj))
    rw [show (X.A.under (.builtin "type.__call__" ⟨.ref (G.ca ci) :: us, []⟩)).guards = pushGuards (Code.guards (.builtin "type.__call__" ⟨.ref (G.ca ci) :: us, []⟩)) X.A.guards from rfl, hgu]
    have hgg : ("type.__call__" ∈ guardIds) = False := by decide
    simp [Code.guards, Code.isGuard, pushGuards, hgg]) (e0.make (G.ca ci) us []) hbb (vals_pick pm r2) hq
  rw [← c.eP, ← c.ew] at hcode
  refine wpAny_call (make_map (f := G.fa i) I1.kIn (by rw [c.eK]; exact M.makes) (by rw [c.eK]; exact M.init) (by rw [c.eK]; exact beq_iff_eq.mp M.fn) (codeAny_mono hcode fun r s' hq' => ?_))
  cases r with
  | error e => exact passAt tk σ pins _ _ e s' I2 hq'
  | ok fl =>
    cases fl with
    | ret u =>
      obtain ⟨v, H', I3, rv, ev, q3⟩ := I2.after hq'
      subst ev
      exact ⟨rv, ⟨V.ref (s1.heap.objs.size + 1), H', I3, rfl, q3⟩⟩
    | next => exact False.elim hq'
    | brk => exact False.elim hq'
    | cont => exact False.elim hq'
end
end PyI

set_option Elab.async false
set_option linter.all false
set_option maxRecDepth 100000
set_option maxHeartbeats 4000000
namespace PyI
open PySem PySem.Spec PyProof.Rows L2

/-! ### dicts: keys None, ints, texts -/
def nkV : Option Key → V
  | none => .non
  | some k => kV k
def keyD : D → Option (Option Key)
  | .non => some none
  | .int i => some (some (.inl i))
  | .str x => some (some (.inr x))
  | _ => none
theorem nkV_is {P : Program} {w : World} : ∀ {k : Option Key} {u : Value}, RelV (nkV k) u → (L2.noneKind P w).is k u = true
  | none, u, r => by obtain rfl : u = Value.none := r; rfl
  | some k, u, r => by
    show keyIs k u = true
    exact kV_is (P := P) (w := w) (k := k) r
section
variable {α : Type}
def valG (kvs : List (Option Key × α)) (k : Option Key) : Option α := (kvs.find? fun kv => decide (kv.1 = k)).map (·.2)
def putG (kvs : List (Option Key × α)) (k : Option Key) (v : α) : List (Option Key × α) :=
  if (kvs.any fun kv => decide (kv.1 = k)) = true then kvs.map (fun kv => if kv.1 = k then (kv.1, v) else kv) else kvs ++ [(k, v)]
def mergeG (kvs more : List (Option Key × α)) : List (Option Key × α) := more.foldl (fun acc kv => putG acc kv.1 kv.2) kvs
end
section
variable {G : GC} {E : Ent} {F F' : Hp} {ι ι' : List Addr} {μ μ' : Mem} {ρ : Sls} {σ : L2.St} {H H' : Hp}
theorem keyD_nkV {d : D} {v : V} {k : Option Key} (h : Is G F ι d v) (e : keyD d = some k) : v = nkV k := by
  cases h <;> simp only [keyD] at e <;> cases e <;> rfl
abbrev DsR (G : GC) (F : Hp) (ι : List Addr) : List (Option Key × D) → List (Option Key × V) → Prop := Paired fun p q => p.1 = q.1 ∧ Is G F ι p.2 q.2
theorem DsR.val {kvs : List (Option Key × D)} {vs : List (Option Key × V)} (h : DsR G F ι kvs vs) {k : Option Key} : ∀ {d : D}, valG kvs k = some d → ∃ v, valV vs k = some v ∧ Is G F ι d v := by
  unfold DsR at h
  induction h with
  | nil => intro d e; cases e
  | @cons p q ps qs r t ih =>
    intro d e
    by_cases z : p.1 = k
    · have : valG (p :: ps) k = some p.2 := by simp [valG, List.find?_cons, z]
      rw [this] at e; cases e
      exact ⟨q.2, valV_pos (r.1.symm.trans z), r.2⟩
    · have : valG (p :: ps) k = valG ps k := by simp [valG, List.find?_cons, z]
      rw [this] at e
      rw [valV_neg (fun y => z (r.1.trans y))]
      exact ih e
theorem DsR.any {kvs : List (Option Key × D)} {vs : List (Option Key × V)} (h : DsR G F ι kvs vs) (k : Option Key) : (kvs.any fun kv => decide (kv.1 = k)) = vs.any fun kv => decide (kv.1 = k) := by
  unfold DsR at h
  induction h with
  | nil => rfl
  | cons r t ih => rw [List.any_cons, List.any_cons, ih, r.1]
theorem DsR.put {kvs : List (Option Key × D)} {vs : List (Option Key × V)} (h : DsR G F ι kvs vs) {k : Option Key} {d : D} {v : V} (r : Is G F ι d v) : DsR G F ι (putG kvs k d) (putK vs k v) := by
  have e := h.any k
  unfold putG putK
  rw [e]
  split
  · next zz =>
    unfold DsR at h ⊢
    clear e zz
    induction h with
    | nil => exact .nil
    | @cons p q ps qs r0 t ih =>
      rw [List.map_cons, List.map_cons]
      refine .cons ?_ ih
      by_cases z : p.1 = k
      · rw [if_pos z, if_pos (r0.1.symm.trans z)]; exact ⟨r0.1, r⟩
      · rw [if_neg z, if_neg (fun y => z (r0.1.trans y))]; exact r0
  · exact paired_append h (.cons ⟨rfl, r⟩ .nil)
theorem DsR.grow (g : Grow F ι F' ι') {kvs : List (Option Key × D)} {vs : List (Option Key × V)} (h : DsR G F ι kvs vs) : DsR G F' ι' kvs vs := paired_imp h fun _ _ r => ⟨r.1, r.2.grow g⟩
theorem DsR.merge {more : List (Option Key × D)} {ws : List (Option Key × V)} (h : DsR G F ι more ws) : ∀ {kvs : List (Option Key × D)} {vs : List (Option Key × V)}, DsR G F ι kvs vs → DsR G F ι (mergeG kvs more) (ws.foldl (fun acc kv => putK acc kv.1 kv.2) vs) := by
  unfold DsR at h
  induction h with
  | nil => intro kvs vs q; exact q
  | @cons p q ps qs r t ih =>
    intro kvs vs q0
    refine ih ?_
    have := q0.put (k := p.1) r.2
    show DsR G F ι (putG _ p.1 p.2) (putK _ q.1 q.2)
    rw [← r.1]
    exact this
def dicAt (μ : Mem) (d : D) : Option (Nat × List (Option Key × D)) := match d with
  | .cell l => (match μ[l]? with
    | some (.dic kvs) => some (l, kvs)
    | _ => none)
  | _ => none
theorem dicAt_eq {μ : Mem} {l : Nat} {d : D} {kvs : List (Option Key × D)} (h : dicAt μ d = some (l, kvs)) : d = .cell l ∧ μ[l]? = some (.dic kvs) := by
  unfold dicAt at h
  split at h
  · split at h
    · next e => cases h; exact ⟨rfl, e⟩
    · cases h
  · cases h
theorem Stt.cellD {l : Nat} {kvs : List (Option Key × D)} {v : V} (S : Stt G E F ι μ ρ σ H) (h : IsV G F ι ρ σ (.cell l) v) (e : μ[l]? = some (.dic kvs)) : ∃ a vs, v = .ref a ∧ ι[l]? = some a ∧ H a = some (DicO G.P G.w a vs) ∧ DsR G F ι kvs vs := by
  cases h.data (by intro xs z; cases z) with
  | cell hl =>
    obtain ⟨a, e1, r⟩ := paired_get S.rep.cell e
    rw [hl] at e1
    cases e1
    obtain ⟨vs, h1, h2⟩ := r
    exact ⟨_, vs, rfl, hl, h1, h2⟩
end
section
variable {X : Cx} {pins : List (Addr × Obj)} {σ : L2.St} {H : Hp} {s : Shared} {a : Addr} {vs : List (Option Key × V)} {k : Option Key} {v : V} {u r : Value} {A : Around} {E : Value → Shared → Prop}
theorem dic_of (I : L2.Inv X pins σ H s) (e : H a = some (DicO X.prog X.w a vs)) : vs.length ≤ sizeLine ∧ (a == sysModules) = false ∧ ∃ us, KV vs us ∧ s.heap.DictOf (L2.noneKind X.prog X.w) a us := (I.hok a _ e).1
theorem dic_ok {P : Program} {w : World} {H' : Hp} {h' : Heap} (z : vs.length ≤ sizeLine) (hd : (a == sysModules) = false) {us : List (Option Key × Value)} (rel : KV vs us) (dd : h'.DictOf (L2.noneKind P w) a us) : ObjOk P w H' h' a (DicO P w a vs) :=
  ⟨⟨z, hd, us, rel, dd⟩, let ⟨q, _, _, hq, _⟩ := dd; ⟨q, hq⟩, fun h1 h2 ⟨z1, z2, us1, r1, d1⟩ hk => ⟨z1, z2, us1, r1, let ⟨o, es, ep, ho, rr⟩ := d1; ⟨o, es, ep, hk o ho, rr⟩⟩⟩
theorem dic_get {Q : Value → Shared → Prop} (I : L2.Inv X pins σ H s) (e : H a = some (DicO X.prog X.w a vs)) (ry : RelV (nkV k) u) (l : valV vs k = some v) (h : ∀ w' s', L2.Inv X pins σ H s' → RelV v w' → Q w' s') :
    wpAny (model X.prog X.w) A (getItem (.ref a) u) Q E s := by
  obtain ⟨z, hd, us, rel, dd⟩ := dic_of I e
  obtain ⟨w', hw, rw'⟩ := RelO.some_of (v := v) (o := valueAt us k) (by rw [← l]; exact rel.val k)
  exact wpAny_getItem_of (nkV_is ry) dd.mapOf hw (h w' _ (I.tok _) rw')
theorem dic_set {Q : Unit → Shared → Prop} (I : L2.Inv X pins σ H s) (e : H a = some (DicO X.prog X.w a vs)) (ry : RelV (nkV k) u) (rv : RelV v r) (hz : vs.length < sizeLine) (h : ∀ s', L2.Inv X pins σ (upd H a (DicO X.prog X.w a (putK vs k v))) s' → Q () s') :
    wpAny (model X.prog X.w) A (setItem (.ref a) u r) Q E s := by
  obtain ⟨z, hd, us, rel, dd⟩ := dic_of I e
  have hz2 : us.length ≤ sizeLine := by rw [← rel.length]; exact z
  have hl : (putK vs k v).length ≤ sizeLine := by have := length_putK vs k v; omega
  refine wpAny_setItem_pairs (hsz := hz2) (nkV_is ry) dd fun h' dd' hs => h _ ?_
  have he : ∃ q, h'.get? a = some q := let ⟨q, _, _, hq, _⟩ := dd'; ⟨q, hq⟩
  exact d_write I (by rw [e]; exact True.intro) hs he (dic_ok hl hd (rel.put k rv) dd')
end
section
variable {G : GC} {n : Nat} {N : List Str} {sc : Scope} {X : Cx} {qc : Bool} {k k1 k2 : Bool} {pos : Pos}
/-- d[k] -/
def evDGet (ed ek : Ev) : Ev := fun ρ μ => (ed ρ μ).bind fun o μ1 => (ek ρ μ1).bind fun i μ2 => match dicAt μ2 o, keyD i with
  | some (_, kvs), some k => (match valG kvs k with
    | some d => .ok d μ2
    | none => .bad)
  | _, _ => .bad
theorem de_dget (c : Cxt G n N sc X qc) {o i : Expr} {eo ei : Ev} (ho : DE G X k1 o eo) (hi : DE G X true i ei) (hs : NoSl i) : DE G X true (.Subscript o i pos) (evDGet eo ei) :=
  ⟨fun E W tk => ⟨fun pins s σ H Q I h => by
    obtain ⟨F, ι, μ, ρ, S, o⟩ := h
    let Q1 : V → Hp → VK := fun x H1 y H2 => ∃ a vs k v, x = .ref a ∧ H2 a = some (DicO X.prog X.w a vs) ∧ y = nkV k ∧ valV vs k = some v ∧ Q v H2
    have t1 : tE G E k1 W eo σ H fun x H1 => tE G E true W ei σ H1 (Q1 x H1) := tE_bind S o fun F1 ι1 μ1 H1 d v S1 g1 i1 _ o1 => tE_bind S1 o1 fun F2 ι2 μ2 H2 d2 v2 S2 g2 i2 _ o2 => by
      split at o2
      · next l kvs kk e ek =>
        obtain ⟨rfl, e'⟩ := dicAt_eq e
        split at o2
        · next dd ed =>
          obtain ⟨a, vs, rfl, hl, hH, rr⟩ := S2.cellD (i1.v.grow g2) e'
          obtain ⟨w, e2, iw⟩ := rr.val ed
          exact ⟨a, vs, kk, w, rfl, by rw [c.eP, c.ew]; exact hH, keyD_nkV i2 ek, e2, o2.val S2 iw⟩
        · exact o2.elim
      · exact o2.elim
    refine subD_of PySem.F.slot_dict_getitem.lookup hs (thn ((ho.run E W tk).run pins s σ H _ I t1) fun u s1 ⟨x, H1, I1, rx, q1⟩ => thn ((hi.run E W tk).run pins s1 σ H1 _ I1 q1) fun iv s2 ⟨y, H2, I2, ry, a, vs, kk, v, ex, hH, ey, l, q2⟩ => ?_)
    subst ex ey
    obtain rfl : u = Value.ref a := rx
    obtain ⟨_, _, us, _, dd⟩ := dic_of I2 hH
    exact ⟨dd.typeIs, dic_get I2 hH ry l fun w' s3 I3 rw' => ⟨v, H2, I3, rw', q2⟩⟩⟩⟩
/-- d[k] = .. -/
def gDp (eo ei : Ev) : Tg := fun d ρ μ => (eo ρ μ).bind fun o μ1 => (ei ρ μ1).bind fun i μ2 => match dicAt μ2 o, keyD i with
  | some (l, kvs), some k => if kvs.length < sizeLine then .ok ρ (μ2.set l (.dic (putG kvs k d))) else .bad
  | _, _ => .bad
def rSetN (X : Cx) : TSet := fun o i v H Q => ∃ a vs k, o = .ref a ∧ H a = some (DicO X.prog X.w a vs) ∧ i = nkV k ∧ vs.length < sizeLine ∧ Q (upd H a (DicO X.prog X.w a (putK vs k v)))
theorem set_dicN : PSet X (rSetN X) := by
  intro pins s σ H o i v ov iv u Q I ro ri rv h
  obtain ⟨a, vs, kk, eo, e, ei, hz, q⟩ := h
  subst eo ei
  cases (show ov = Value.ref a from ro)
  exact dic_set I e ri rv hz fun s' I' => ⟨_, I', q⟩
theorem dg_dp (c : Cxt G n N sc X qc) {o i : Expr} {eo ei : Ev} (ho : DE G X k1 o eo) (hi : DE G X true i ei) (ha : ∀ v, assign (.Subscript o i pos) X.env v = (do
      let ov ← holding [v] (eval o X.env)
      let iv ← holding [v, ov] (eval i X.env)
      standAt pos
      holding [v, ov, iv] (setItem ov iv v)
      release [v, ov, iv] []) := by intro _; rfl) : DG G X (.Subscript o i pos) (gDp eo ei) :=
  ⟨fun E W tk => PG.imp (pg_sub (ho.run E W tk) (hi.run E W tk) set_dicN ha) fun v σ H Q h => by
    obtain ⟨F, ι, μ, ρ, d, S, iv, o⟩ := h
    refine tE_bindG S o fun F1 ι1 μ1 H1 d1 v1 S1 g1 i1 o1 => ?_
    refine tE_bindG S1 o1 fun F2 ι2 μ2 H2 d2 v2 S2 g2 i2 o2 => ?_
    split at o2
    · next l kvs kk e ek =>
      obtain ⟨rfl, e'⟩ := dicAt_eq e
      split at o2
      · next hz =>
        obtain ⟨a, vs, rfl, hl, hH, rr⟩ := S2.cellD (i1.v.grow g2) e'
        refine ⟨a, vs, kk, rfl, by rw [c.eP, c.ew]; exact hH, keyD_nkV i2 ek, by rw [← Paired.length rr]; exact hz, ?_⟩
        rw [c.eP, c.ew]
        exact o2 F2 ι2 σ _ (S2.write hl ⟨_, upd_same, rr.put ((iv.grow g1).grow g2)⟩) (Grow.refl _ _)
      · exact o2.elim
    · exact o2.elim⟩
end
end PyI

set_option Elab.async false
set_option linter.all false
set_option maxRecDepth 100000
set_option maxHeartbeats 4000000
namespace PyI
open PySem PySem.Spec PyProof.Rows L2
section
variable {G : GC} {n : Nat} {N : List Str} {sc : Scope} {X : Cx} {qc : Bool} {k k1 k2 : Bool} {pos : Pos}
/-- *e among arguments, in a display -/
def evStar (ea : Ev) (er : EvL) : EvL := fun ρ μ => (ea ρ μ).bind fun d μ1 => match seqOf μ1 d with
  | some (_, xs) => (er ρ μ1).bind fun ds μ2 => .ok (xs ++ ds) μ2
  | none => .bad
theorem da_star (c : Cxt G n N sc X qc) {e : Expr} {es : List Expr} {p : Pos} {ea : Ev} {er : EvL} (ha : DE G X k1 e ea) (hr : DA G X true es er) (hs : starEach (.Starred e p :: es) X.env = (true, eval e X.env) :: starEach es X.env := by rfl) : DA G X true (.Starred e p :: es) (evStar ea er) :=
  ⟨fun E W tk => PA.imp (StX.pa_star (ha.run E W tk) (hr.run E W tk) hs) fun σ H Q h => by
    obtain ⟨F, ι, μ, ρ, S, o⟩ := h
    refine ⟨F, ι, μ, ρ, S, ?_⟩
    simp only [evStar] at o
    cases q : ea ρ μ with
    | ok d μ1 =>
      rw [q] at o
      intro F1 ι1 H1 v S1 g1 i1
      have o : OutL G E true F ι ρ σ W Q (match seqOf μ1 d with | some (_, xs) => (er ρ μ1).bind fun ds μ2 => .ok (xs ++ ds) μ2 | none => .bad) := o
      cases q3 : seqOf μ1 d with
      | none => rw [q3] at o; exact o.elim
      | some bx =>
        obtain ⟨b, xs⟩ := bx
        rw [q3] at o
        obtain ⟨a, vs, rfl, h1, h2, h3⟩ := seqOf_rep S1 i1.v q3
        refine ⟨a, vs, rfl, ?_, F1, ι1, μ1, ρ, S1, ?_⟩
        · rw [c.eK]
          cases b with
          | true => exact .inl (h1 rfl)
          | false => exact .inr (h2 rfl)
        · have o : OutL G E true F ι ρ σ W Q ((er ρ μ1).bind fun ds μ2 => .ok (xs ++ ds) μ2) := o
          cases q2 : er ρ μ1 with
          | ok ds μ2 =>
            rw [q2] at o
            exact fun F2 ι2 H2 vs2 S2 g2 i2 => o F2 ι2 H2 (vs ++ vs2) S2 (g1.trans g2) ((h3.grow g2).append i2.all).ks
          | exc c' ds m => rw [q2] at o; exact fun F2 ι2 H2 cls xd S2 g2 i => o F2 ι2 H2 cls xd S2 (g1.trans g2) i
          | bad => rw [q2] at o; exact o
    | exc c' ds m => rw [q] at o; exact o
    | bad => rw [q] at o; exact o⟩
end
end PyI
namespace PyI.Ext
open PySem PySem.Spec PySem.AutoSeq1
/-- a tuple as what a list is extended by, whatever stands beside its items -/
theorem list_extend_tup (l : Addr) (items : Array Value) (n : Nat) (b : Addr) (items2 : Array Value) (n2 : Nat) (dc : Option Addr) (sl : Array (Option Value)) (hs0 : ¬(!items.isEmpty && Builtin.List.listTooLong (items.size + items2.size)) = true) (hs1 : items.size ≤ sizeLine) (hs2 : items.size + items2.size ≤ sizeLine + 1) :
    Meets (Builtin.«list.extend» ⟨[.ref l, .ref b], []⟩) (fun _ R s => s.heap.get? l = some { cls := .type "list", dict := none, data := .seq items n, slots := #[] } ∧ s.heap.get? b = some { cls := .type "tuple", dict := dc, data := .seq items2 n2, slots := sl } ∧ R (.ok (.ret Value.none)) { s with heap := s.heap.update l (Obj.mapSeq fun x => x ++ items2), toks := s.toks }) :=
  .of_wp fun prog w A R s h => by
    obtain ⟨hp, g, d, tk, os⟩ := s; obtain ⟨hl, hb, h⟩ := h; have f1 := idx_int; have f2 := sub_tuple_tuple; have f3 := sub_list_list; have f4 := sub_tuple_list; have f5 := sub_list_tuple;
    have hz' : (items ++ items2).size ≤ sizeLine + 1 := by rw [Array.size_append]; exact hs2
    wp_walk using (wpAny_updateSeq hl rfl (hz := hs1) (_hz' := hz')), wpAny_loadPart' hl, wpAny_loadPart' hb; exact ⟨_, rfl, h⟩

theorem list_extend_lst (l : Addr) (items : Array Value) (n : Nat) (b : Addr) (items2 : Array Value) (n2 : Nat) (dc : Option Addr) (sl : Array (Option Value)) (hs0 : ¬(!items.isEmpty && Builtin.List.listTooLong (items.size + items2.size)) = true) (hs1 : items.size ≤ sizeLine) (hs2 : items.size + items2.size ≤ sizeLine + 1) :
    Meets (Builtin.«list.extend» ⟨[.ref l, .ref b], []⟩) (fun _ R s => s.heap.get? l = some { cls := .type "list", dict := none, data := .seq items n, slots := #[] } ∧ s.heap.get? b = some { cls := .type "list", dict := dc, data := .seq items2 n2, slots := sl } ∧ R (.ok (.ret Value.none)) { s with heap := s.heap.update l (Obj.mapSeq fun x => x ++ items2), toks := s.toks }) :=
  .of_wp fun prog w A R s h => by
    obtain ⟨hp, g, d, tk, os⟩ := s; obtain ⟨hl, hb, h⟩ := h; have f1 := idx_int; have f2 := sub_tuple_tuple; have f3 := sub_list_list; have f4 := sub_tuple_list; have f5 := sub_list_tuple;
    have hz' : (items ++ items2).size ≤ sizeLine + 1 := by rw [Array.size_append]; exact hs2
    wp_walk using (wpAny_updateSeq hl rfl (hz := hs1) (_hz' := hz')), wpAny_loadPart' hl, wpAny_loadPart' hb; exact ⟨_, rfl, h⟩
end PyI.Ext
namespace PyI
open PySem PySem.Spec PyProof.Rows L2
section
variable {G : GC} {n : Nat} {N : List Str} {sc : Scope} {X : Cx} {qc : Bool} {k k1 k2 : Bool} {pos : Pos}
def rExtA (K : PySem.W.Frag) : V → List V → Hp → VK → Prop := fun x vs H Q => ∃ l b xs zs, x = .ref l ∧ vs = [.ref b] ∧ H l = some (.lst xs) ∧ (SqT K H b zs ∨ SqL K H b zs) ∧ xs.length + zs.length ≤ sizeLine ∧ Q .non (upd H l (.lst (xs ++ zs)))
theorem mt_extA : MtM X "list.extend" (rExtA X.K) := by
  intro pins s σ H x vs v us Q I rx rv h
  obtain ⟨l, b, xs, zs, rfl, rfl, hH, hB, hz, q⟩ := h
  cases rx
  obtain ⟨u, rfl, ru⟩ := rv.one
  cases ru
  obtain ⟨z, its, n, r, hl, e⟩ := I.lstM hH
  have fin : ∀ (its2 : List Value), Vals zs its2 → (∃ (ob : Obj) (n2 : Nat), s.heap.get? b = some ob ∧ (ob.cls = .type "tuple" ∨ ob.cls = .type "list") ∧ ob.data = .seq its2.toArray n2) → wpAny (model X.prog X.w) X.A (call (.builtin "list.extend") [.ref l, .ref b]) (EP X pins σ Q) X.xe s := by
    rintro its2 r2 ⟨⟨cl, dc, dt, sl⟩, n2, e2, hc, hd⟩
    have hl2 := r2.length
    have hsz : its.toArray.size + its2.toArray.size ≤ sizeLine := by rw [List.size_toArray, List.size_toArray]; omega
    have hlong : ¬ (!its.toArray.isEmpty && Builtin.List.listTooLong (its.toArray.size + its2.toArray.size)) = true := by
      rw [notLongL hsz, Bool.and_false]
      exact Bool.false_ne_true
    have go : EP X pins σ Q Value.none { s with heap := s.heap.update l (Obj.mapSeq fun x => x ++ its2.toArray), toks := s.toks } :=
      ⟨.non, _, I.lset (its' := its ++ its2) hH e (by simp) (r.append r2) (by rw [List.length_append]; omega), rfl, q⟩
    simp only at hc hd
    subst hd
    rcases hc with rfl | rfl
    · exact call_meets F.slot_list_extend ⟨_, e, rfl⟩ F.entry_list_extend (F.args_list_extend_2 _ _)
        (Ext.list_extend_tup l its.toArray n b its2.toArray n2 dc sl hlong (by rw [List.size_toArray]; omega) (by omega)) ⟨e, e2, go⟩
    · exact call_meets F.slot_list_extend ⟨_, e, rfl⟩ F.entry_list_extend (F.args_list_extend_2 _ _)
        (Ext.list_extend_lst l its.toArray n b its2.toArray n2 dc sl hlong (by rw [List.size_toArray]; omega) (by omega)) ⟨e, e2, go⟩
  rcases hB with hB | hB
  · obtain ⟨its2, r2, ⟨o, ho, hc, n2, hd⟩, _⟩ := I.tuple hB
    exact fin its2 r2 ⟨o, n2, ho, .inl hc, hd⟩
  · obtain ⟨its2, r2, pl, _⟩ := I.list hB
    obtain ⟨o, n2, ho, hc, _, hd⟩ := pl
    exact fin its2 r2 ⟨o, n2, ho, .inr hc, hd⟩
/-- own list x: x.extend(e) -/
def sExt (i : Nat) (ea : Ev) : Es := fun ρ μ => match ρ[i]? with
  | some (.ol xs) => (ea ρ μ).bind fun d μ1 => (match seqOf μ1 d with
    | some (_, ds) => if xs.length + ds.length ≤ sizeLine then .ok (.nx, ρ.set i (.ol (xs ++ ds))) μ1 else .bad
    | none => .bad)
  | _ => .bad
theorem ds_ext (c : Cxt G n N sc X qc) (i : Nat) {x : Str} {e : Expr} {ea : Ev} {p apos cpos : Pos} (he : DE G X true e ea) (hi : N[i]? = some x := by rfl) (hv : visB sc x = true := by rfl) (hd : (x == ("__debug__" : Str)) = false := by decide) (hcd : (x == ("__classdict__" : Str)) = false := by decide)
    (hbase : attributeBase (.Name x p) "extend" X.env (eval (.Name x p) X.env) = eval (.Name x p) X.env := by rfl)
    (hfew : ((backTo cpos (starEach [e] X.env)).all (fun x => !x.1) && (backToKw cpos (keywordEach [] X.env)).all (fun x => x.1.isSome)
      && decide ([e].length + ([] : List Keyword).length + (if ([] : List Keyword).isEmpty then 0 else 1) < 30)) = true := by rfl)
    (hline : (apos.endLine == cpos.line) = true := by rfl) (hs : starEach [e] X.env = (false, eval e X.env) :: starEach [] X.env := by rfl)
    (hsw : swapsWith (.Call (.Attribute (.Name x p) "extend" apos) [e] [] cpos) none pos.line X.env = pure false := by rfl) :
    DS G X (.Expr (.Call (.Attribute (.Name x p) "extend" apos) [e] [] cpos) pos) (sExt i ea) :=
  ⟨fun E W hw tk hp => PS.imp (ps_expr (pe_bm PySem.F.plainAttrs_list PySem.F.slot_list_extend PySem.F.type_list_extend mt_extA (pe_var (by rw [c.eN]; exact hi) (c.vis hv) hd hcd) (pa_cons (he.run E W tk) pa_nil hs) hbase hfew hline hs) hsw) fun Dn σ H h => by
    obtain ⟨F, ι, μ, ρ, S, o⟩ := h
    unfold sExt at o
    split at o
    · next xs key =>
      obtain ⟨a, vs, h1, h2, _⟩ := S.own i xs key
      refine ⟨.ref a, h1, .inl ⟨rfl, vs, .inl (.inl h2)⟩, ?_⟩
      show tE G E true W ea σ H _
      refine tE_bindS S o fun F' ι' μ' H' d v S' g iv o' => ?_
      obtain ⟨a', ws, g1, g2, g3, _⟩ := S'.own i xs key
      rw [h1] at g1
      cases g1
      split at o'
      · next bb ds eq =>
        split at o'
        · next hz =>
          obtain ⟨b, us, rfl, k1, k2, k3⟩ := seqOf_rep S' (IsK.v (k := true) iv) eq
          refine ⟨a, b, ws, us, rfl, rfl, g2, ?_, by rw [← g3.length, ← k3.length]; exact hz, o' F' ι' _ _ (S'.writeO hw key h1 (g3.append k3)) (Grow.refl _ _)⟩
          rw [c.eK]
          cases bb with
          | true => exact .inl (k1 rfl)
          | false => exact .inr (k2 rfl)
        · exact o'.elim
      · exact o'.elim
    · exact o.elim⟩
end
end PyI

set_option Elab.async false
set_option linter.all false
set_option maxRecDepth 100000
set_option maxHeartbeats 4000000
namespace PyI
open PySem PySem.Spec PyProof.Rows L2

/-! ### dict displays -/
def mergeN (kvs more : List (Option Key × V)) : List (Option Key × V) := more.foldl (fun acc kv => putK acc kv.1 kv.2) kvs
theorem KVN_merge : ∀ {more : List (Option Key × V)} {rs : List (Option Key × Value)} {kvs : List (Option Key × V)} {vs : List (Option Key × Value)}, KV more rs → KV kvs vs → KV (mergeN kvs more) (merged vs rs) := by
  intro more rs kvs vs r
  unfold KV at r
  induction r generalizing kvs vs with
  | nil => intro q; exact q
  | @cons p q ps qs h t ih =>
    intro r0
    have e : KV (putK kvs p.1 p.2) (stored vs q.1 q.2) := by
      have := r0.put p.1 h.2
      rw [← h.1]; exact this
    exact ih e
theorem length_mergeN : ∀ (more kvs : List (Option Key × V)), (mergeN kvs more).length ≤ kvs.length + more.length
  | [], kvs => by show kvs.length ≤ kvs.length + 0; omega
  | p :: r, kvs => by
    have h1 := length_mergeN r (putK kvs p.1 p.2)
    have h2 := length_putK kvs p.1 p.2
    show (mergeN (putK kvs p.1 p.2) r).length ≤ _
    rw [List.length_cons]; omega
theorem carriesN {P : Program} {w : World} : ∀ {kvs : List (Option Key × V)} {ws : List (Value × Value)}, VV (kvs.map fun kv => (nkV kv.1, kv.2)) ws → ∃ rs, Carries (L2.noneKind P w) ws rs ∧ KV kvs rs
  | [], _, r => by rw [List.map_nil] at r; cases r; exact ⟨[], True.intro, .nil⟩
  | p :: kvs, _, r => by
    rw [List.map_cons] at r
    cases r with
    | @cons a b as bs h t =>
      obtain ⟨rs, c, q⟩ := carriesN (P := P) (w := w) t
      obtain ⟨b1, b2⟩ := b
      exact ⟨(p.1, b2) :: rs, ⟨nkV_is h.1, rfl, c⟩, .cons ⟨rfl, h.2⟩ q⟩
theorem dicN_empty {P : Program} {w : World} {H : Hp} (h : Heap) (hb : sysModules < h.objs.size) : ObjOk P w H (h.push { cls := .type "dict", data := .dict #[] }) h.objs.size (DicO P w h.objs.size []) :=
  dic_ok (Nat.zero_le _) (beq_eq_false_iff_ne.mpr (Ne.symm (Nat.ne_of_lt hb))) .nil (Heap.DictOf.new h)
def tDispN (P : Program) (w : World) (trs : List (TE × TE)) : TE := fun σ H Q => ∀ p, H p = none → tPairs trs σ (upd H p (DicO P w p [])) fun ps H2 => H2 p = some (DicO P w p []) ∧ ∃ kvs : List (Option Key × V), ps = kvs.map (fun kv => (nkV kv.1, kv.2)) ∧ kvs.length ≤ 15 ∧ Q (.ref p) (upd H2 p (DicO P w p (mergeN [] kvs)))
theorem pe_dispN {X : Cx} {pos : Pos} {keys : List (Option Expr)} {values : List Expr} {trs : List (TE × TE)} (h : PPs X pos keys values trs) (hall : keys.all (·.isSome) = true) (hl : keys.length = values.length) (h0 : keys ≠ [])
    (h15 : keys.length ≤ 15) : PE X (.Dict keys values pos) (tDispN X.prog X.w trs) := by
  refine ⟨fun pins s σ H Q I q => ?_⟩
  have hn := I.hok.fresh (Nat.le_refl s.heap.objs.size)
  have I1 := I.laid (a := s.heap.objs.size) (o := DicO X.prog X.w s.heap.objs.size []) (h' := s.heap.push { cls := .type "dict", data := .dict #[] }) (t' := s.toks) (fun _ _ q => Heap.get?_push_of_some _ q) (Nat.le_refl _) (dicN_empty s.heap I.big)
  refine wpAny_Dict_walk (knd := L2.noneKind X.prog X.w) hall hl h0 h15 (thn (h.run pins _ σ _ _ I1 (q _ hn)) fun ws s2 ⟨ps, H2, I2, rel, e, kvs, ep, lk, q2⟩ => ?_)
  subst ep
  obtain ⟨rs, c, rk⟩ := carriesN (P := X.prog) (w := X.w) rel
  obtain ⟨z, hd, vs0, r0, dd⟩ := dic_of I2 e
  cases r0
  refine ⟨rs, c, dd, fun h' dd' hs => ⟨.ref s.heap.objs.size, _, ?_, rfl, q2⟩⟩
  have hz : (mergeN [] kvs).length ≤ sizeLine := by
    have h1 := length_mergeN kvs []
    rw [List.length_nil] at h1
    rw [sizeLine_eq]; omega
  have he : ∃ q, h'.get? s.heap.objs.size = some q := let ⟨q, _, _, hq, _⟩ := dd'; ⟨q, hq⟩
  exact d_write I2 (by rw [e]; exact True.intro) hs he (dic_ok hz hd (KVN_merge rk .nil) dd')
def evPs : List (Ev × Ev) → Sls → Mem → Out (List (D × D))
  | [], _, μ => .ok [] μ
  | (a, b) :: r, ρ, μ => (a ρ μ).bind fun x μ1 => (b ρ μ1).bind fun y μ2 => (evPs r ρ μ2).bind fun ps μ3 => .ok ((x, y) :: ps) μ3
def keysD : List (D × D) → Option (List (Option Key × D))
  | [] => some []
  | (x, y) :: r => match keyD x, keysD r with
    | some k, some ks => some ((k, y) :: ks)
    | _, _ => none
/-- {k: v, ..} -/
def evDisp (evs : List (Ev × Ev)) : Ev := fun ρ μ => (evPs evs ρ (μ ++ [.dic []])).bind fun ps μ1 => match keysD ps, μ1[μ.length]? with
  | some kvs, some (.dic []) => if kvs.length ≤ 15 then .ok (.cell μ.length) (μ1.set μ.length (.dic (mergeG [] kvs))) else .bad
  | _, _ => .bad
structure DPs (G : GC) (X : Cx) (pos : Pos) (keys : List (Option Expr)) (values : List Expr) (evs : List (Ev × Ev)) : Prop where
  run : ∀ (E : Ent) (W : WX), Takes X W → PPs X pos keys values (evs.map fun p => (tE G E true W p.1, tE G E true W p.2))
section
variable {G : GC} {n : Nat} {N : List Str} {sc : Scope} {X : Cx} {qc : Bool} {k k1 k2 : Bool} {pos : Pos}
theorem dps_nil : DPs G X pos [] [] [] := ⟨fun E W tk => pps_nil⟩
theorem dps_cons {a b : Expr} {ks : List (Option Expr)} {vs : List Expr} {ea eb : Ev} {evs : List (Ev × Ev)} (ha : DE G X true a ea) (hb : DE G X true b eb) (hr : DPs G X pos ks vs evs) : DPs G X pos (some a :: ks) (b :: vs) ((ea, eb) :: evs) :=
  ⟨fun E W tk => pps_cons (ha.run E W tk) (hb.run E W tk) (hr.run E W tk)⟩
abbrev IsPs (G : GC) (F : Hp) (ι : List Addr) : List (D × D) → List (V × V) → Prop := Paired fun p q => Is G F ι p.1 q.1 ∧ Is G F ι p.2 q.2
theorem tPs_bind {E : Ent} {W : WX} {Q : VK} {ρ : Sls} {σ : L2.St} : ∀ (evs : List (Ev × Ev)) {F : Hp} {ι : List Addr} {μ : Mem} {H : Hp} {c : List (D × D) → Mem → Out D} {Q' : List (V × V) → Hp → Prop}, Stt G E F ι μ ρ σ H → OutE G E k F ι ρ σ W Q ((evPs evs ρ μ).bind c) →
    (∀ F' ι' μ' H' ds vs, Stt G E F' ι' μ' ρ σ H' → Grow F ι F' ι' → IsPs G F' ι' ds vs → OutE G E k F' ι' ρ σ W Q (c ds μ') → Q' vs H') → tPairs (evs.map fun p => (tE G E true W p.1, tE G E true W p.2)) σ H Q'
  | [], F, ι, μ, H, c, Q', S, o, next => next F ι μ H [] [] S (Grow.refl _ _) .nil o
  | (a, b) :: r, F, ι, μ, H, c, Q', S, o, next => by
    have o1 : OutE G E k F ι ρ σ W Q ((a ρ μ).bind fun x μ1 => (b ρ μ1).bind fun y μ2 => (evPs r ρ μ2).bind fun ps μ3 => c ((x, y) :: ps) μ3) := by
      have e : ((evPs ((a, b) :: r) ρ μ).bind c) = ((a ρ μ).bind fun x μ1 => (b ρ μ1).bind fun y μ2 => (evPs r ρ μ2).bind fun ps μ3 => c ((x, y) :: ps) μ3) := by
        show (((a ρ μ).bind fun x μ1 => (b ρ μ1).bind fun y μ2 => (evPs r ρ μ2).bind fun ps μ3 => .ok ((x, y) :: ps) μ3).bind c) = _
        cases a ρ μ with
        | ok x μ1 =>
          show (((b ρ μ1).bind fun y μ2 => (evPs r ρ μ2).bind fun ps μ3 => .ok ((x, y) :: ps) μ3).bind c) = ((b ρ μ1).bind fun y μ2 => (evPs r ρ μ2).bind fun ps μ3 => c ((x, y) :: ps) μ3)
          cases b ρ μ1 with
          | ok y μ2 =>
            show (((evPs r ρ μ2).bind fun ps μ3 => .ok ((x, y) :: ps) μ3).bind c) = ((evPs r ρ μ2).bind fun ps μ3 => c ((x, y) :: ps) μ3)
            cases evPs r ρ μ2 <;> rfl
          | _ => rfl
        | _ => rfl
      rw [← e]; exact o
    show tE G E true W a σ H fun x H1 => tE G E true W b σ H1 fun y H2 => tPairs (r.map fun p => (tE G E true W p.1, tE G E true W p.2)) σ H2 fun ps H3 => Q' ((x, y) :: ps) H3
    refine tE_bind S o1 fun F1 ι1 μ1 H1 d v S1 g1 i1 _ o2 => tE_bind S1 o2 fun F2 ι2 μ2 H2 d2 v2 S2 g2 i2 _ o3 => ?_
    exact tPs_bind r S2 o3 fun F3 ι3 μ3 H3 ds vs S3 g3 i3 o4 => next F3 ι3 μ3 H3 ((d, d2) :: ds) ((v, v2) :: vs) S3 ((g1.trans g2).trans g3) (.cons ⟨(show Is G F1 ι1 d v from i1).grow (g2.trans g3), (show Is G F2 ι2 d2 v2 from i2).grow g3⟩ i3) o4
theorem keysD_rep {F : Hp} {ι : List Addr} : ∀ {ps : List (D × D)} {vs : List (V × V)} {kvs : List (Option Key × D)}, IsPs G F ι ps vs → keysD ps = some kvs → ∃ ws : List (Option Key × V), vs = ws.map (fun kv => (nkV kv.1, kv.2)) ∧ DsR G F ι kvs ws
  | [], _, _, h, e => by cases h; cases e; exact ⟨[], rfl, .nil⟩
  | (x, y) :: r, _, _, h, e => by
    cases h with
    | @cons a b as bs h t =>
      obtain ⟨b1, b2⟩ := b
      simp only [keysD] at e
      split at e
      · next k ks ek er =>
        cases e
        obtain ⟨ws, h1, h2⟩ := keysD_rep t er
        have q := keyD_nkV h.1 ek
        exact ⟨(k, b2) :: ws, by rw [h1, List.map_cons]; exact congrArg (· :: _) (by rw [show b1 = nkV k from q]), .cons ⟨rfl, h.2⟩ h2⟩
      · cases e
theorem de_disp (c : Cxt G n N sc X qc) {keys : List (Option Expr)} {values : List Expr} {evs : List (Ev × Ev)} (h : DPs G X pos keys values evs) (hall : keys.all (·.isSome) = true := by rfl) (hl : keys.length = values.length := by rfl) (h0 : keys ≠ [] := by exact fun z => nomatch z)
    (h15 : keys.length ≤ 15 := by decide) : DE G X true (.Dict keys values pos) (evDisp evs) :=
  ⟨fun E W tk => PE.imp (pe_dispN (h.run E W tk) hall hl h0 h15) fun σ H Q h => by
    obtain ⟨F, ι, μ, ρ, S, o⟩ := h
    intro p hp
    rw [c.eP, c.ew]
    have el : ι.length = μ.length := (Paired.length S.rep.cell).symm
    have S1 := S.layC (o := DicO G.P G.w p []) (c := .dic []) hp ⟨[], upd_same, .nil⟩
    have g1 : Grow F ι F (ι ++ [p]) := ⟨fun _ _ h => h, List.prefix_append _ _⟩
    have hlp : (ι ++ [p])[μ.length]? = some p := by rw [← el]; simp
    refine tPs_bind evs S1 (OutE.grow g1 o) fun F2 ι2 μ2 H2 ds vs S2 g2 i2 o2 => ?_
    split at o2
    · next kvs eq1 eq2 =>
      split at o2
      · next hz =>
        have hl2 := prefix_get g2.c hlp
        obtain ⟨a, ws, ea, hl3, hH, rr⟩ := S2.cellD (v := .ref p) (.inl (.cell hl2)) eq2
        cases ea
        cases rr
        obtain ⟨ws, e1, e2⟩ := keysD_rep i2 eq1
        refine ⟨hH, ws, e1, by rw [← Paired.length e2]; exact hz, ?_⟩
        exact o2 F2 ι2 _ _ (S2.write hl2 ⟨_, upd_same, e2.merge .nil⟩) (Grow.refl _ _) (.of (.cell hl2))
      · exact o2.elim
    · exact o2.elim⟩
end
end PyI

set_option Elab.async false
set_option linter.all false
set_option maxRecDepth 100000
set_option maxHeartbeats 4000000
namespace PyI.En
open PySem PySem.Spec
open Sem (wp)
/-! ### enumerate(tuple) -/
theorem meets_enumerate_newT {v : Value} {o : Obj} {H : Heap → Prop} (B : Begins v o H) :
    Meets (Builtin.«enumerate.__new__» ⟨[.type "enumerate", v], []⟩) (fun _ R s => H s.heap ∧
      R (.ok (.ret (.ref (s.heap.push o).objs.size))) { s with heap := (s.heap.push o).push { cls := .type "enumerate", data := .fields #[.none, .bool false, .ref s.heap.objs.size, rawInt 0, .none, .none] } }) :=
  .of_wp fun prog w A R s h => by
    obtain ⟨hp, g, d, tk, os⟩ := s; obtain ⟨h1, h⟩ := h
    have hsub := sub_enumerate
    have q1 : ∀ {A' : Around} {E : Value → Shared → Prop} {Q : Value → Shared → Prop}, Q (.ref hp.objs.size) ⟨hp.push o, g, d, tk, os⟩ → wpAny (model prog w) A' (pyIter v) Q E ⟨hp, g, d, tk, os⟩ :=
      fun q => B.iter prog w _ _ ⟨hp, g, d, tk, os⟩ _ h1 q
    wp_walk using q1
    refine wpAny_stack_any fun st => wpAny_pure ?_
    split
    · rename_i c _ _ _ _ _
      cases (c == Value.type "enumerate")
      · wp_walk using q1
        exact ⟨_, rfl, h⟩
      · wp_walk using q1
        exact ⟨_, rfl, h⟩
    · wp_walk using q1
      exact ⟨_, rfl, h⟩
theorem enum_beginsT {prog : Program} {w : World} {A : Around} {E : Value → Shared → Prop} {s : Shared} {v : Value} {o : Obj} {H : Heap → Prop} {Q : Value → Shared → Prop} (B : Begins v o H) (h1 : H s.heap)
    (h : ∀ h', IsEnum h' (s.heap.objs.size + 1) s.heap.objs.size 0 .none → h'.get? s.heap.objs.size = some o → h'.objs.size = s.heap.objs.size + 2 →
      (∀ b o, s.heap.get? b = some o → h'.get? b = some o) → Q (.ref (s.heap.objs.size + 1)) { s with heap := h' }) :
    wpAny (model prog w) A (call (.type "enumerate") [v]) Q E s := by
  refine callType_new F.called_enumerate (by decide) (F.typeCall_enumerate_1 _) (F.newCall_enumerate_1 _) (fun obj => F.args_object_init_2 obj _) F.entry_enumerate_new
    (meets_enumerate_newT B) ⟨h1, ?_⟩
  have hz : (s.heap.push o).objs.size = s.heap.objs.size + 1 := Heap.size_push ..
  show _ ∧ _
  rw [hz]
  have he : IsEnum ((s.heap.push o).push { cls := .type "enumerate", data := .fields #[.none, .bool false, .ref s.heap.objs.size, rawInt 0, .none, .none] }) (s.heap.objs.size + 1) s.heap.objs.size 0 .none := by
    have := Heap.get?_push_size (s.heap.push o) (o := { cls := .type "enumerate", data := .fields #[.none, .bool false, .ref s.heap.objs.size, rawInt 0, .none, .none] }) rfl
    rw [hz] at this; exact this
  refine ⟨⟨_, he, rfl⟩, h _ he (Heap.get?_push_of_some _ (Heap.get?_push_size _ B.free)) (by rw [Heap.size_push, hz]) fun b o x => Heap.get?_push_of_some _ (Heap.get?_push_of_some _ x)⟩
theorem enum_endT {prog : Program} {w : World} {A : Around} {E : Value → Shared → Prop} {s : Shared} {e it l : Addr} {i : Nat} {items : Array Value} {old : Value} {Q : Option Value → Shared → Prop} (hh : A.handled = none)
    (he : IsEnum s.heap e it i old) (hit : s.heap.IsTupleIter it l i) (hl : s.heap.IsTuple l items) (hx : items[i]? = none)
    (hQ : ∀ h', Heap.ExtBut it s.heap h' → Q none { s with heap := h' }) : wpAny (model prog w) A (pyNext (.ref e)) Q E s := by
  have hT : s.TypeIs (.ref e) "enumerate" := ⟨_, he, rfl⟩
  unfold pyNext
  refine wpAny_bind (wpAny_attempt (wpAny_callSpecial?_slot (name := Str.ofString "__next__") hT F.slot_enumerate_next
    (wpAny_call_entry F.slot_enumerate_next hT F.entry_enumerate_next ?_ (F.args_enumerate_next_1 _))))
  show wpAny _ _ (field (.ref e) 2 >>= _) _ _ _
  refine wpAny_bind (wpAny_field he rfl (x := .ref it) rfl ?_)
  refine wpAny_bind (wpAny_nextOf_tuple_end hh hit hl hx fun h' x he' hx' => ?_)
  obtain ⟨o, ho, hc⟩ := hx'
  refine wpAny_bind (wpAny_isInstance (T := "StopIteration") (b := true) ⟨o, ho, hc⟩ isSubtype_stop ?_)
  exact wpAny_pure (hQ _ he')
end PyI.En
namespace PyI
open PySem PySem.Spec PyProof.Rows L2
/-- the tuple at a, each item in a new pair -/
def IteT (K : PySem.W.Frag) (a : Addr) : It :=
  ⟨fun i H => ∃ (xs : List V) (x : V), SqT K H a xs ∧ xs[i]? = some x, fun i H v H' => ∃ T x, v = .ref T ∧ H T = none ∧ H' = upd H T (.tup [.int (i : Nat), x]) ∧ ∀ xs, SqT K H a xs → xs[i]? = some x, fun i H => ∃ xs : List V, SqT K H a xs ∧ xs.length ≤ i⟩
theorem turn_enumT {P : Program} {w : World} {K : PySem.W.Frag} {elts : List Expr} {kk : Nat} {tpos : Pos} (a e it : Addr) :
    Turn P w K (.Tuple elts kk tpos) (IteT K a) [e, it] e (fun i h => (∃ old, IsEnum h e it ((i : Nat) : Int) old) ∧ h.IsTupleIter it a i ∧ e ≠ it) where
  mem := by simp
  obj := fun i h st b hb => by
    obtain ⟨⟨old, he⟩, ⟨o, ho, hc, hd⟩, _⟩ := st
    have e' : b = e ∨ b = it := by simpa using hb
    rcases e' with z | z
    · rw [z]; exact ⟨_, he, fun v q => nomatch q⟩
    · rw [z]; exact ⟨o, ho, fun v q => by rw [hd] at q; cases q⟩
  keep := fun i h h' st k => let ⟨⟨old, he⟩, hi, hne⟩ := st; ⟨⟨old, k e (by simp) _ he⟩, hi.at fun o q => k it (by simp) o q, hne⟩
  item := by
    intro X hP hw hK hc i pins s σ H E I hf st hg
    subst hP hw hK
    obtain ⟨⟨old, he⟩, hit, hne⟩ := st
    obtain ⟨xs, x, hq, hx⟩ := hg
    obtain ⟨its, rv, p, hz⟩ := I.tuple hq
    obtain ⟨u, hu, ru⟩ := rv.get hx
    have hel : e < s.heap.objs.size := Heap.lt_size he
    have hil : it < s.heap.objs.size := by obtain ⟨_, q, _⟩ := hit; exact Heap.lt_size q
    have hae : a ≠ e := fun z => by
      obtain ⟨o, ho, hcc, _⟩ := p
      rw [z, show s.heap.get? e = _ from he] at ho
      cases ho
      exact absurd hcc (by intro q; injection q with q; exact absurd q (by decide))
    have hai : a ≠ it := fun z => by
      obtain ⟨o, ho, hcc, _⟩ := p
      obtain ⟨o', ho', hcc', _⟩ := hit
      rw [z, ho'] at ho
      cases ho
      rw [hcc'] at hcc
      exact absurd hcc (by intro q; injection q with q; exact absurd q (by decide))
    have hlt : i < its.toArray.size := by
      have := (List.getElem?_eq_some_iff.mp hu).1
      simpa using this
    refine wpAny_pyNext_enum_itemD (Draws.tuple (show X.A.in1.handled = none from I.ok.hd hc) it a hai its.toArray) he ⟨hit, p⟩ hlt hne (by simp [hne, Ne.symm hae]) fun x' h' tk hP ho ⟨hit', _⟩ hT hsz hk => ?_
    have ex : x' = u := by
      have : its[i]? = some x' := by simpa using hP
      rw [hu] at this; exact (Option.some.inj this).symm
    subst ex
    refine ⟨_, rfl, wpAny_letOwnedTupleGo_enum (s := { s with heap := h', toks := tk + 1 }) ho fun h'' he' sb => ?_⟩
    have hT2 : h''.get? s.heap.objs.size = some { cls := .type "tuple", data := .seq #[.int i tk, x'] } := (sb.2 _ (Nat.ne_of_gt hel)).trans hT
    have new : ObjOk X.prog X.w (upd H s.heap.objs.size (.tup [.int (i : Nat), x])) h'' s.heap.objs.size (.tup [.int (i : Nat), x]) :=
      ⟨by show 2 ≤ sizeLine; decide, [.int i tk, x'], .cons ⟨_, rfl⟩ (.cons ru .nil), ⟨_, hT2, rfl, _, rfl⟩⟩
    have I1 : L2.Inv X pins σ (upd H s.heap.objs.size (.tup [.int (i : Nat), x])) { s with heap := h'', toks := tk + 1 } :=
      I.turnedNew (ch := [e, it]) (fun b ob hb q => (sb.2 b (fun z => hb (by simp [z]))).trans (hk b ob (fun z => hb (by simp [z])) (fun z => hb (by simp [z])) q)) hf (Nat.le_refl _) new
    refine ⟨.ref s.heap.objs.size, _, I1, rfl, ⟨_, x, rfl, I.hok.fresh (Nat.le_refl _), rfl, fun ys hy => by rw [I.tuple_inj hy hq]; exact hx⟩, ⟨⟨x', ?_⟩, hit'.at fun o q => (sb.2 it (Ne.symm hne)).trans q, hne⟩, fun b hb => ?_⟩
    · have e1 : ((i + 1 : Nat) : Int) = (i : Int) + 1 := by omega
      rw [e1]; exact he'
    · have hb' : b < s.heap.objs.size := by
        have e' : b = e ∨ b = it := by simpa using hb
        rcases e' with z | z
        · rw [z]; exact hel
        · rw [z]; exact hil
      rw [upd_ne (Nat.ne_of_lt hb')]
      exact (hf b hb).1
  done := by
    intro X hP hw hK hc i pins s σ H E I hf st hg
    subst hP hw hK
    obtain ⟨⟨old, he⟩, hit, hne⟩ := st
    obtain ⟨xs, hq, hx⟩ := hg
    obtain ⟨its, rv, p, hz⟩ := I.tuple hq
    obtain ⟨f0, f1, f2, f3, f4, f5⟩ := hf it (by simp)
    have hl := rv.length
    exact En.enum_endT (I.ok.hd hc) he hit p (by simp; omega) fun h' eb => ⟨rfl, I.turned (t' := s.toks) (fun b o hb q => eb b o hb q) f0 f1 f3 f4 f5⟩
  self := fun A i s Q E st h => let ⟨⟨_, he⟩, _⟩ := st; wpAny_pyIter_enum he h
def iEnumT (K : PySem.W.Frag) (ta : TA) : TI := fun σ H R => ta σ H fun vs H1 => ∃ a xs, vs = [.ref a] ∧ SqT K H1 a xs ∧ R (IteT K a) H1
theorem pi_enumT {X : Cx} {e : Expr} {ta : TA} {p pos tpos : Pos} {elts : List Expr} {kk : Nat} (hg : Gl X "enumerate") (hm : X.mg "enumerate" = none) (ha : PA X [e] ta) (hs : starEach [e] X.env = [(false, eval e X.env)] := by rfl) :
    PI X (.Tuple elts kk tpos) (.Call (.Name "enumerate" p) [e] [] pos) (iEnumT X.K ta) := by
  refine ⟨fun pins s σ H R I h => ?_⟩
  refine Call_ (ld_blt I hg hm boot_enumerate (PyProof.Rows.callWith_type1 (thn (ha.run pos pins s σ H _ I h) fun us s1 ⟨vs, H1, I1, r1, q1⟩ => ?_) hs rfl))
  obtain ⟨a, xs, ex, hq, q⟩ := q1
  subst ex
  cases r1 with
  | cons r rr =>
    cases rr
    cases r
    obtain ⟨its, rv, p', hz⟩ := I1.tuple hq
    refine En.enum_beginsT (begins_tuple a its.toArray) (show s1.heap.IsTuple a its.toArray from p') fun h' he hit hsz hk => wpAny_pyIter_enum he ?_
    have I2 : L2.Inv X pins σ H1 { s1 with heap := h' } := I1.kept (t' := s1.toks) hk
    refine ⟨s1.heap.objs.size + 1, [s1.heap.objs.size + 1, s1.heap.objs.size], _, _, H1, rfl, I2, turn_enumT a (s1.heap.objs.size + 1) s1.heap.objs.size, ⟨⟨.none, he⟩, ⟨_, hit, rfl, rfl⟩, Nat.succ_ne_self _⟩, fun b hb => ?_, q⟩
    have e' : b = s1.heap.objs.size + 1 ∨ b = s1.heap.objs.size := by simpa using hb
    have hle : s1.heap.objs.size ≤ b := by
      rcases e' with z | z
      · rw [z]; exact Nat.le_add_right _ _
      · rw [z]; exact Nat.le_refl _
    exact I1.fpOk hle (I1.hok.fresh hle)
/-- the pairs -/
def enuD (ds : List D) : List D := (List.range ds.length).map fun i => .tup [.int (i : Nat), ds.getD i .non]
def evEnuT (ea : Ev) : EvL := fun ρ μ => (ea ρ μ).bind fun d μ1 => match d with
  | .tup ds => .ok (enuD ds) μ1
  | _ => .bad
section
variable {G : GC} {E : Ent} {F F' : Hp} {ι ι' : List Addr} {n : Nat} {N : List Str} {sc : Scope} {X : Cx} {qc : Bool} {pos : Pos}
theorem itF_enumT {a : Addr} {vs : List V} {ds : List D} (hq : SqT G.K F a vs) (hs : IsAll G F ι ds vs) : ItF G E (IteT G.K a) F ι (enuD ds) := by
  intro E2 μ ρ σ H F' ι' i g S
  have hq' : SqT G.K H a vs := SqT.grow S.rep.sub (SqT.grow g.f hq)
  refine ⟨fun hl => ⟨vs, hq', by rw [← hs.length]; simpa [enuD] using hl⟩, fun d hd => ?_⟩
  have hi : i < ds.length := by
    have := (List.getElem?_eq_some_iff.mp hd).1
    simpa [enuD] using this
  have ed : d = .tup [.int (i : Nat), ds[i]] := by
    simp [enuD, List.getElem?_range hi, List.getD_eq_getElem?_getD, List.getElem?_eq_getElem hi] at hd
    exact hd.symm
  obtain ⟨v, ev, iv⟩ := (hs.grow g).get (List.getElem?_eq_getElem hi)
  refine ⟨⟨vs, v, hq', ev⟩, fun x H' ⟨T, y, ex, hT, eH, hy⟩ => ?_⟩
  have := hy vs hq'
  rw [ev] at this
  cases this
  subst ex eH ed
  refine ⟨upd F' T (.tup [.int (i : Nat), v]), S.layGrow hT, S.lay hT, ?_, fun b hb => ?_, fun b hb => ?_, fun b o hb => ?_⟩
  · exact .tup (SqT.of upd_same) (.cons (.int _) (.cons (iv.grow (S.layGrow hT)) .nil))
  · by_cases z : b = T
    · rw [z]; exact hT
    · rw [upd_ne z] at hb; exact hb
  · by_cases z : b = T
    · rw [z]; exact .inr hT
    · rw [upd_ne z] at hb; exact .inl hb
  · rw [upd_ne (fun z => by rw [z, hT] at hb; cases hb)]; exact hb
theorem di_enumT (c : Cxt G n N sc X qc) {a : Expr} {ea : Ev} {p tpos : Pos} {elts : List Expr} {kk : Nat} (hm : G.mg "enumerate" = none) (ha : DE G X true a ea) (hg : gloB sc "enumerate" = true := by rfl) (hs : starEach [a] X.env = [(false, eval a X.env)] := by rfl) :
    DI G X (.Tuple elts kk tpos) (.Call (.Name "enumerate" p) [a] [] pos) (evEnuT ea) := ⟨fun E W tk => PI.imp (pi_enumT (c.gl hg) (by rw [c.emg]; exact hm) (pa_cons (ha.run E W tk) pa_nil hs) hs) fun σ H R h => by
  obtain ⟨F, ι, μ, ρ, S, o⟩ := h
  show tE G E true W ea σ H _
  refine tE_bindI S o fun F1 ι1 μ1 H1 d v S1 g1 i1 o1 => ?_
  split at o1
  · cases (show Is G F1 ι1 _ v from i1) with
    | tup hq hs => exact ⟨_, _, rfl, by rw [c.eK]; exact SqT.grow S1.rep.sub hq, o1 F1 ι1 H1 _ S1 (Grow.refl _ _) (by rw [c.eK]; exact itF_enumT hq hs)⟩
  · exact o1.elim⟩
end
end PyI

set_option Elab.async false
set_option linter.all false
set_option maxRecDepth 100000
set_option maxHeartbeats 4000000
namespace PyI
open PySem PySem.Spec PyProof.Rows L2
/-! ### list.count of a list of bools -/
def rCntB (K : PySem.W.Frag) : V → List V → Hp → VK → Prop := fun x xs H Q => ∃ (p : Addr) (bs : List Bool) (b : Bool), x = .ref p ∧ xs = [.bl b] ∧ SqL K H p (bs.map V.bl) ∧ Q (.int (bs.count b : Nat)) H
def eqb (b : Bool) : Value → Bool
  | .bool a => a == b
  | _ => false
theorem bools_of : ∀ {bs : List Bool} {us : List Value}, Vals (bs.map V.bl) us → us = bs.map Value.bool
  | [], _, h => by rw [List.map_nil] at h; cases h; rfl
  | b :: bs, _, h => by
    rw [List.map_cons] at h
    cases h with
    | cons r t => rw [bools_of t, List.map_cons, show _ = Value.bool b from r]
theorem mt_countB {X : Cx} : MtR X "list.count" (rCntB X.K) := by
  intro pins s σ H x xs v us Q I rx rxs h
  obtain ⟨p, bs, b, rfl, rfl, hs, q⟩ := h
  cases rx
  obtain ⟨u, rfl, ru⟩ := rxs.one
  obtain rfl : u = Value.bool b := ru
  obtain ⟨its, rv, ⟨⟨cls, dd, data, sl⟩, n, ho, hc, hdn, hd⟩, hlen⟩ := I.list hs
  simp only at hc hd
  subst hc hd
  have hi := bools_of rv
  subst hi
  refine call_meets PySem.F.slot_list_count ⟨_, ho, rfl⟩ PySem.F.entry_list_count (PySem.F.args_list_count_2 _ _)
    (SeqAt.list_countAt p (bs.map Value.bool).toArray n dd sl (.bool b) (eqb b)) ⟨ho, fun y hy => ?_, ?_⟩
  · obtain ⟨a, _, rfl⟩ := List.mem_map.mp (show y ∈ bs.map Value.bool by simpa using hy)
    exact SeqAt.EqAt.bool_bool a b
  · have ec : (bs.map Value.bool).toArray.toList.countP (eqb b) = bs.count b := by
      simp only [List.countP_map]
      rfl
    refine ⟨.int (bs.count b : Nat), H, I.tok _, ⟨s.toks, ?_⟩, q⟩
    show Value.int (((bs.map Value.bool).toArray.toList.countP (eqb b) : Nat) : Int) s.toks = Value.int ((bs.count b : Nat) : Int) s.toks
    rw [ec]
def boolsD : List D → Option (List Bool)
  | [] => some []
  | .bl b :: r => (boolsD r).map (b :: ·)
  | _ :: _ => none
theorem boolsD_is {G : GC} {F : Hp} {ι : List Addr} : ∀ {ds : List D} {vs : List V} {bs : List Bool}, IsAll G F ι ds vs → boolsD ds = some bs → vs = bs.map V.bl
  | [], _, _, h, e => by cases h; cases e; rfl
  | d :: r, _, _, h, e => by
    cases h with
    | cons h1 h2 =>
      cases d with
      | bl b =>
        simp only [boolsD] at e
        cases q : boolsD r with
        | none => rw [q] at e; cases e
        | some bs =>
          rw [q] at e
          cases e
          cases h1
          rw [boolsD_is h2 q, List.map_cons]
      | _ => cases e
/-- l.count(b), l a list of bools -/
def evCnt (eo ea : Ev) : Ev := fun ρ μ => (eo ρ μ).bind fun o μ1 => match o with
  | .lst ds => (ea ρ μ1).bind fun d μ2 => (match d, boolsD ds with
    | .bl b, some bs => .ok (.int (bs.count b : Nat)) μ2
    | _, _ => .bad)
  | _ => .bad
section
variable {G : GC} {n : Nat} {N : List Str} {sc : Scope} {X : Cx} {qc : Bool} {k k1 k2 : Bool} {pos : Pos}
theorem de_cnt (c : Cxt G n N sc X qc) {o e : Expr} {eo ea : Ev} {apos cpos : Pos} (ho : DE G X k1 o eo) (he : DE G X true e ea)
    (hbase : attributeBase o "count" X.env (eval o X.env) = eval o X.env := by rfl)
    (hfew : ((backTo cpos (starEach [e] X.env)).all (fun x => !x.1) && (backToKw cpos (keywordEach [] X.env)).all (fun x => x.1.isSome)
      && decide ([e].length + ([] : List Keyword).length + (if ([] : List Keyword).isEmpty then 0 else 1) < 30)) = true := by rfl)
    (hline : (apos.endLine == cpos.line) = true := by rfl) (hs : starEach [e] X.env = (false, eval e X.env) :: starEach [] X.env := by rfl) :
    DE G X true (.Call (.Attribute o "count" apos) [e] [] cpos) (evCnt eo ea) :=
  ⟨fun E W tk => PE.imp (pe_bm PySem.F.plainAttrs_list PySem.F.slot_list_count PySem.F.type_list_count mt_countB (ho.run E W tk) (pa_cons (he.run E W tk) pa_nil hs) hbase hfew hline hs) fun σ H Q h => by
    obtain ⟨F, ι, μ, ρ, S, o⟩ := h
    refine tE_bind S o fun F1 ι1 μ1 H1 d v S1 g1 i1 _ o1 => ?_
    split at o1
    · next ds =>
      obtain ⟨a, vs, rfl, h2, h3⟩ := i1.v.lst S1
      refine ⟨.inl ⟨rfl, vs, .of h2⟩, ?_⟩
      show tE G E true W ea σ H1 _
      refine tE_bind S1 o1 fun F2 ι2 μ2 H2 d2 v2 S2 g2 i2 hev o2 => ?_
      clear hev
      split at o2
      · next b bs eb =>
        obtain ⟨a', vs', e1, h2', h3'⟩ := (i1.v.grow g2).lst S2
        cases e1
        cases (show Is G F2 ι2 _ v2 from i2)
        have ev := boolsD_is h3' eb
        subst ev
        exact ⟨a, bs, b, rfl, rfl, .of h2', o2.val S2 (.int _)⟩
      · exact o2.elim
    · exact o1.elim⟩
end
end PyI

set_option Elab.async false
set_option linter.all false
set_option maxRecDepth 100000
set_option maxHeartbeats 4000000
namespace PyI
open PySem PySem.Spec PyProof.Rows L2
/-! ### l.index(x), l a list of flat things -/
def evIdx (eo ea : Ev) : Ev := fun ρ μ => (eo ρ μ).bind fun o μ1 => match o with
  | .lst ds => (ea ρ μ1).bind fun d μ2 => (match flatV? d, flatVs ds with
    | some v, some vs => (match vs.findIdx? fun z => eqV z v with
      | some j => .ok (.int (j : Nat)) μ2
      | none => .bad)
    | _, _ => .bad)
  | _ => .bad
section
variable {G : GC} {n : Nat} {N : List Str} {sc : Scope} {X : Cx} {qc : Bool} {k k1 k2 : Bool} {pos : Pos}
theorem de_idx (c : Cxt G n N sc X qc) {o e : Expr} {eo ea : Ev} {apos cpos : Pos} (ho : DE G X k1 o eo) (he : DE G X true e ea)
    (hbase : attributeBase o "index" X.env (eval o X.env) = eval o X.env := by rfl)
    (hfew : ((backTo cpos (starEach [e] X.env)).all (fun x => !x.1) && (backToKw cpos (keywordEach [] X.env)).all (fun x => x.1.isSome)
      && decide ([e].length + ([] : List Keyword).length + (if ([] : List Keyword).isEmpty then 0 else 1) < 30)) = true := by rfl)
    (hline : (apos.endLine == cpos.line) = true := by rfl) (hs : starEach [e] X.env = (false, eval e X.env) :: starEach [] X.env := by rfl) :
    DE G X true (.Call (.Attribute o "index" apos) [e] [] cpos) (evIdx eo ea) :=
  ⟨fun E W tk => PE.imp (pe_bm PySem.F.plainAttrs_list PySem.F.slot_list_index PySem.F.type_list_index mt_index (ho.run E W tk) (pa_cons (he.run E W tk) pa_nil hs) hbase hfew hline hs) fun σ H Q h => by
    obtain ⟨F, ι, μ, ρ, S, o⟩ := h
    refine tE_bind S o fun F1 ι1 μ1 H1 d v S1 g1 i1 _ o1 => ?_
    split at o1
    · next ds =>
      obtain ⟨a, vs, rfl, h2, h3⟩ := i1.v.lst S1
      refine ⟨.inl ⟨rfl, vs, .of h2⟩, ?_⟩
      show tE G E true W ea σ H1 _
      refine tE_bind S1 o1 fun F2 ι2 μ2 H2 d2 v2 S2 g2 i2 hev o2 => ?_
      clear hev
      obtain ⟨a', vs', e1, h2', h3'⟩ := (i1.v.grow g2).lst S2
      cases e1
      split at o2
      · next w ws ew ews =>
        split at o2
        · next j ej =>
          obtain ⟨rfl, fw⟩ := flatV_is (show Is G F2 ι2 d2 v2 from i2) ew
          obtain ⟨rfl, fws⟩ := flatVs_is h3' ews
          obtain ⟨hj, hh, hno⟩ := List.findIdx?_eq_some_iff_getElem.mp ej
          refine ⟨a, _, _, j, _, rfl, rfl, .of h2', fw, fws, List.getElem?_eq_getElem hj, hh, fun m z' hm hz => ?_, o2.val S2 (.int _)⟩
          obtain ⟨hm2, rfl⟩ := List.getElem?_eq_some_iff.mp hz
          have := hno m hm
          simpa using this
        · exact o2.elim
      · exact o2.elim
    · exact o1.elim⟩
end
end PyI

set_option Elab.async false
set_option linter.all false
set_option maxRecDepth 100000
set_option maxHeartbeats 4000000
namespace PyI
open PySem PySem.Spec PyProof.Rows L2
/-! ### the call of a local name that holds one of several defs -/
/-- the defs, by number, with what each does with np arguments -/
def HeldD (G : GC) (k np : Nat) (T : Nat → Option Fun) : Prop := ∀ j f, T j = some f → ∃ (fd : FuncData) (ps : List Str) (fn : Fun) (pm : List (Option Nat)), FnG G k (G.fa j) fd ps fn ∧ PySem.W.keepIn G.K (.ref (G.fa j)) = true ∧ BndD G.K fd ps np [] pm ∧ f = fun ds => fn (pick .non pm ds)
def evCallP (i np : Nat) (T : Nat → Option Fun) (ea : EvL) : Ev := fun ρ μ => match ρ[i]? with
  | some (.v (.fn j)) => (match T j with
    | some f => (ea ρ μ).bind fun ds μ1 => if ds.length = np then f ds μ1 else .bad
    | none => .bad)
  | _ => .bad
section
variable {G : GC} {n : Nat} {N : List Str} {sc : Scope} {X : Cx} {qc : Bool} {pos p : Pos}
theorem de_callP (c : Cxt G n N sc X) (i : Nat) {k np : Nat} {x : Str} {T : Nat → Option Fun} {e : Expr} {es : List Expr} {ea : EvL} (h : HeldD G k np T) (ha : DA G X true (e :: es) ea) (hk : k ≤ n := by decide) (hN : N[i]? = some x := by rfl) (hv : visB sc x = true := by rfl)
    (hdb : (x == ("__debug__" : Str)) = false := by decide) (hcd : (x == ("__classdict__" : Str)) = false := by decide)
    (he : starEach (e :: es) X.env = (false, eval e X.env) :: starEach es X.env := by rfl) (hpl : (backTo pos (starEach es X.env)).any (·.1) = false := by rfl) : DE G X true (.Call (.Name x p) (e :: es) [] pos) (evCallP i np T ea) := by
  refine ⟨fun E W tk => ⟨fun pins s σ H Q I h' => ?_⟩⟩
  obtain ⟨F0, ι, μ, ρ, S, o⟩ := h'
  unfold evCallP at o
  split at o
  · next j ej =>
    split at o
    · next f eT =>
      obtain ⟨fd, ps, fn, pm, FG, kp, hb, rfl⟩ := h j f eT
      obtain ⟨v, hs, iv⟩ := S.slot i _ ej
      cases iv
      refine wpAny_Call_Name_kw (thn ((pe_var (pos := p) (by rw [c.eN]; exact hN) (c.vis hv) hdb hcd).run pins s σ H (fun v H1 => v = .ref (G.fa j) ∧ H1 = H) I ⟨.ref (G.fa j), hs, rfl, rfl⟩) fun u s1 ⟨v, H1, I1, r1, q1⟩ => ?_)
      obtain ⟨rfl, rfl⟩ := q1
      cases r1
      let Q2 : List V → Hp → Prop := fun vs H2 => SpD G ps.length fn (pick .non pm vs) H2 Q (WE W σ) ∧ vs.length = np
      have t2 : tL G E true W ea σ H1 Q2 := tL_bind S o fun F2 ι2 μ2 H2 ds ws S2 g2 i2 o2 => by
        split at o2
        · next hz =>
          refine ⟨spD_of S2 (is_pick pm i2.all) ?_ o2, i2.all.length.symm.trans hz⟩
          unfold pick
          rw [List.length_map]
          exact hb.1
        · exact o2.elim
      refine PySem.W.callWith_K (h₀ := X.base) I.ok.mod.kin (by rw [c.eK]; exact kp) (thn ((ha.run E W tk).run pos pins s1 σ H1 Q2 I1 t2) fun us s2 ⟨ws, H2, I2, r, q2, hz⟩ => ⟨I2.kIn, ?_⟩) he hpl
      have hkk := I2.kIn
      rw [c.eK] at hkk
      have hbb := hb.2 s2 us [] hkk (by rw [← r.length, hz]) rfl
      rw [List.append_nil] at hbb
      exact run_fnG c FG hk tk hbb I2 (vals_pick pm r) q2
    · exact o.elim
  · exact o.elim
end
end PyI

set_option Elab.async false
set_option linter.all false
set_option maxRecDepth 100000
set_option maxHeartbeats 4000000
namespace PyI
open PySem PySem.Spec PyProof.Rows L2
/-! ### from a method's body to the method -/
theorem fnM_of {G : GC} {k i : Nat} {x q : Str} {st : Stmt} {N ps : List Str} {es : Es} {fd : FuncData} {dvs : List V} (F : FunD G.K x q (defArgs st) (defBody st) (defScope st) dvs [] (G.fa i) fd) (S : FnScope N ps (defScope st))
    (hb : ∀ X, Cxt G k N (defScope st) X → Bdy X → Lmb G.K (G.fa i) q X → DSs G X (defBody st) es) : FnM G (k + 1) i x q st dvs ps (finF N es) := by
  refine ⟨fd, F, ⟨fun A outer s H args us vs Q E hr hg e0 hbt r sp => ?_⟩⟩
  obtain ⟨oc, od, dV, kV, doc, pm, an, cdv, ct, osl, rfl, lk, hcd, _, _⟩ := F.ex
  obtain ⟨Fz, ι, μ, ds, rp, ia, hl, hq⟩ := sp
  refine LamX.run_ofS lk hcd S hr e0 hbt r (ia.length.symm.trans hl) fun hr' => ?_
  let X := cxOf (L2.CX G.P G.w) G.P G.w G.K G.mg G.base N q (defScope st) (G.fa i) cdv A outer s H E
  have c : Cxt G k N (defScope st) X := ⟨rfl, rfl, rfl, rfl, rfl, rfl, rfl, fun _ => rfl, fun _ => hr', hr'.units, fun z => hg (Nat.le_succ_of_le z), S.nd⟩
  have tk : Takes X (fun cls d _ H' => E cls d H') := takes_of (X := X) rfl rfl rfl (E₁ := fun e' s'' => L2.CX G.P G.w outer H s E e' s'') rfl
  have po : PO X := passes_of (X := X) (K := fun e' s'' => L2.CX G.P G.w outer H s E e' s'') (E₁ := fun e' s'' => L2.CX G.P G.w outer H s E e' s'') rfl
  have lm : Lmb G.K (G.fa i) q X := ⟨by
    obtain ⟨cc, rfl⟩ := He.codeIn_ref hcd
    show Value.ref cc = _
    unfold codeAt
    rw [lk], rfl⟩
  refine ⟨_, (hb X c ⟨rfl, rfl, fun _ => rfl, rfl⟩ lm).run ⟨ι, Fz, nt H, true⟩ _ rfl tk po, Fz, ι, μ, stS N ds, stt_start rp ia, ?_⟩
  unfold finF at hq
  cases qq : es (stS N ds) μ with
  | ok f μ' =>
    rw [qq] at hq
    obtain ⟨f, ρ'⟩ := f
    cases f with
    | nx => exact fun F' ι' σ' H' S' g => hq F' ι' H' .non S'.rep S'.ext .non
    | rt d => exact fun F' ι' H' v r x g iv => hq F' ι' H' v r x iv
    | bk => exact hq.elim
    | ct => exact hq.elim
  | exc cc ds' μ' => rw [qq] at hq; exact fun F' ι' ρ' σ' H' cls xd S' g xv => hq F' ι' H' cls xd S'.rep S'.ext xv
  | bad => rw [qq] at hq; exact hq.elim
end PyI

set_option Elab.async false
set_option linter.all false
set_option maxRecDepth 100000
set_option maxHeartbeats 4000000
namespace PySem.W
open PySem PySem.Spec PySem.Calls PyProof.Rows
section
variable {prog : Program} {w : World} {A : Around} {E : Value → Shared → Prop} {s : Shared} {K : Frag} {x D : Addr} {ox : Obj} {od : Option Obj}
theorem pyi_findObj {C : Addr} {name : Str} {a g : Value} (hc : (clsIn K C).isSome = true) (ha : findIn K (.ref C) name = some (some a)) (hg : specialIn K a "__get__" = some (some g)) (ht : takesIn K a = some true) : findObj K C od name = some (.bind g a) := by
  obtain ⟨cd, hc⟩ := Option.isSome_iff_exists.mp hc
  unfold findObj
  rw [hc, Option.bind_some, ha, Option.bind_some]
  simp [hg, ht]
theorem pyi_classE {Q : Option Value → Shared → Prop} (hga : findIn K (.ref D) "__getattribute__" = some (some (.builtin "BaseException.__getattribute__"))) (hgt : findIn K (.ref D) "__getattr__" = some none) (hsub : subIn K (.ref D) (.type "BaseException") = some true)
    (hdct : hasDictIn K D = true) (ha : findIn K (.ref D) "__class__" = some (some (.builtin "object.__class__")))
    (hn : specialIn K (.builtin "object.__class__") "__get__" = some (some (.builtin "getset_descriptor.__get__"))) (htk : takesIn K (.builtin "object.__class__") = some true) (hm : mroIn K D (.type "object") = some true)
    (X : K.In s.heap) (I : InstAt s.heap x ox D od) (h : Q (some (.ref D)) { s with toks := s.toks + 1 }) : wpAny (model prog w) A (getAttr? (.ref x) "__class__") Q E s := by
  have hf : findObj K D od "__class__" = some (.bind (.builtin "getset_descriptor.__get__") (.builtin "object.__class__")) := pyi_findObj (by obtain ⟨cd, hc, _⟩ := any_some hdct; rw [hc]; rfl) ha hn htk
  obtain ⟨hp, g, d, t, os⟩ := s
  have L0 := I.type (M := model prog w)
  have L1 := looks_findIn (M := model prog w) X hga
  have L2 := looks_findIn (M := model prog w) X hgt
  have L3 := looks_find (M := model prog w) X I hf
  have sub : Looks (model prog w) hp (isInstance (.ref x) (.type "BaseException")) true := L0.andThen (looks_subIn X hsub)
  have hx0 : (false && onTheHeap (Value.builtin "BaseException.__getattribute__")) = false := rfl
  have hx2 : (Value.builtin "BaseException.__getattribute__" == Value.builtin "object.__getattribute__") = false := by decide +kernel
  have hx1 : (onTheHeap (Value.ref D) && Value.builtin "BaseException.__getattribute__" == Value.builtin "object.__getattribute__") = false := by rw [hx2]; rfl
  unfold getAttr? getAttrBy? getAttrBy
  refine wpAny_bind (wpAny_mkText (wpAny_bind (wpAny_attempt (wpAny_holding (wpAny_bind (L0.at (wpAny_bind (L1.at ?_))))))))
  show wpAny _ _ (if (onTheHeap (Value.ref D) && Value.builtin "BaseException.__getattribute__" == Value.builtin "object.__getattribute__") = true then _ else _) _ _ _
  rw [hx1, if_neg Bool.false_ne_true]
  unfold getAttrByItsOwn hookBefore
  refine wpAny_bind ?_
  rw [if_pos (show onTheHeap (Value.ref D) = true from rfl)]
  refine L2.at ?_
  refine wpAny_bind (wpAny_attempt (wpAny_holding ?_))
  unfold callGetattribute
  rw [hx0, if_neg Bool.false_ne_true]
  unfold boundAndCalled
  rw [PySem.F.excAttr_ValueError.ga.bind (.ref x)]
  refine wpAny_bind (wpAny_pure ?_)
  show wpAny _ _ (call (.builtin "BaseException.__getattribute__") [.ref x, .str "__class__" t]) _ _ _
  refine wpAny_call (codeAny_call_builtin PySem.F.excAttr_ValueError.ga.plain PySem.F.entry_bexc_ga ?_)
  refine @check_slot (model prog w) _ _ ⟨hp, g, d, t + 1, os⟩ "BaseException.__getattribute__" "BaseException" "__getattribute__" (.ref x) [.str "__class__" t] [] _ (by decide +kernel) (by decide +kernel) sub (PySem.F.args_bexc_ga (.ref x) (.str "__class__" t)) ?_
  unfold Builtin.«object.__getattribute__»
  refine wpAny_bind (wpAny_of_eq (a := ((Value.ref x : Value), [Value.str "__class__" t])) (by first | rfl | (simp only [slotArgs]; rfl)) ?_)
  refine wpAny_bind (wpAny_pure (wpAny_bind (L0.at (wpAny_bind (L3.at ?_)))))
  show wpAny _ _ (holding [Value.builtin "object.__class__"] (call (.builtin "getset_descriptor.__get__") [.builtin "object.__class__", .ref x, .ref D]) >>= ret) _ _ _
  refine wpAny_bind (wpAny_holding (wpAny_call (class_get (s := ⟨hp, g, d, t + 1, os⟩) (ox := ox) (od := od) X I hm ?_)))
  refine wpAny_pure ?_
  show wpAny _ _ (handedOut (.ref D)) _ _ _
  rw [handedOut_of (v := .ref D) rfl]
  first
    | exact wpAny_pure (wpAny_pure h)
    | exact wpAny_pure h
    | exact wpAny_pure (wpAny_bind (wpAny_pure (wpAny_pure h)))
theorem pyi_kitx (hga : findIn K (.ref D) "__getattribute__" = some (some (.builtin "BaseException.__getattribute__"))) (hgt : findIn K (.ref D) "__getattr__" = some none) (hsub : subIn K (.ref D) (.type "BaseException") = some true) (hdct : hasDictIn K D = true) (ha : findIn K (.ref D) "__class__" = some (some (.builtin "object.__class__")))
    (hn : specialIn K (.builtin "object.__class__") "__get__" = some (some (.builtin "getset_descriptor.__get__"))) (htk : takesIn K (.builtin "object.__class__") = some true) (hm : mroIn K D (.type "object") = some true) :
    KitX K (.ref x) (.ref D) (fun h => ∃ od, InstAt h x ox D od) where
  ty := fun _ _ _ ⟨_, I⟩ => I.type
  it := fun _ _ X _ => by
    obtain ⟨cdD, hcD, _⟩ := any_some hdct
    unfold clsIn at hcD
    split at hcD
    · rename_i c' d' cd' sl' ho
      intro A' Q' E' s' k q
      unfold isType loadHead
      exact wpAny_bind (wpAny_loadPart (k _ _ (X _ _ ho)) (wpAny_pure q))
    · cases hcD
  ne := fun h tp dd its n sl X htp => by
    obtain ⟨cdD, hcD, _⟩ := any_some hdct
    refine Bool.eq_false_iff.mpr fun q => ?_
    have e : D = tp := Value.ref.inj (beq_iff_eq.mp q)
    subst e
    unfold clsIn at hcD
    split at hcD
    · rename_i c' d' cd' sl' ho
      have z := (X _ _ ho).symm.trans htp
      cases z
    · cases hcD
  ca := fun X ⟨_, I⟩ k => pyi_classE hga hgt hsub hdct ha hn htk hm X I k
end
end PySem.W
namespace PyI
open PySem PySem.Spec PyProof.Rows L2
theorem glo_fn {G : GC} {x : Str} {i : Nat} (h : G.mg x = some (.ref (G.fa i))) : GloD G x (.fn i) := ⟨_, .ref (G.fa i), h, rfl, fun _ _ => .fn i⟩

/-! ### an exception that a suite holds -/
/-- the suite's exception: where it stands, its dict, its class -/
structure Ste (G : GC) (X : Cx) (a dd : Addr) (ci : Nat) : Prop where
  ex : ∃ (X0 : Cx) (oe : Obj) (pn : List (Addr × Obj)), X = X0.suite a ((a, oe) :: pn) ∧ Zc (.ref (G.ca ci)) (some dd) oe ∧ ∃ vs, oe.data = .fields vs
/-- the exception classes cs: what each keeps, how isinstance tells them apart -/
structure XCs (G : GC) (CS : Nat) (cs : List (Nat × List Str)) : Prop where
  xf : ∀ p ∈ cs, G.xf p.1 = p.2
  ec : ∀ p ∈ cs, ExcC G.K (G.ca p.1)
  no : ∀ p ∈ cs, ∀ x ∈ p.2, PySem.W.findIn G.K (.ref (G.ca p.1)) x = some none
  ex : ∀ p ∈ cs, PySem.W.exmOne G.K (.ref (G.ca p.1)) (.ref (G.ca CS)) = some true
  ve : ∀ p ∈ cs, PySem.W.kitOne G.K (.ref (G.ca p.1)) (.type "ValueError") = some true
  is : ∀ p ∈ cs, ∀ q ∈ cs, PySem.W.kitOne G.K (.ref (G.ca p.1)) (.ref (G.ca q.1)) = some (decide (p.1 = q.1))
def rIsX (K : PySem.W.Frag) (D dd a : Addr) : List V → Hp → VK → Prop := fun xs H Q => ∃ (c : V) (cv : Value) (b : Bool) (fs : List (Str × V)), xs = [.ref a, c] ∧ (∀ u, RelV c u → u = cv) ∧ PySem.W.kitOne K (.ref D) cv = some b ∧ H dd = some (.xd fs) ∧ Q (.bl b) H
theorem call_isX {X : Cx} {a D dd : Addr} {oe : Obj} {pn : List (Addr × Obj)} (C : ExcC X.K D) (hz : Zc (.ref D) (some dd) oe) (hf : ∃ vs, oe.data = .fields vs) : CallR (X.suite a ((a, oe) :: pn)) (.builtin "isinstance") (rIsX X.K D dd a) := by
  intro pins s σ H xs us Q I r h
  obtain ⟨c, cv, b, fs, rfl, hcv, e, hH, q⟩ := h
  cases r with
  | cons rx rr =>
    cases rr with
    | cons rt rr =>
      cases rr
      cases rx
      have ec := hcv _ rt
      subst ec
      obtain ⟨hget, _⟩ := I.pin (a, oe) (List.mem_append.mpr (.inl List.mem_cons_self))
      obtain ⟨vs, hv⟩ := hf
      obtain ⟨mA, ⟨od, es, ep, hod, _⟩, _⟩ := (show ObjOk X.prog X.w H s.heap dd (.xd fs) from I.hok dd _ hH)
      have J : ∃ od, PySem.W.InstAt s.heap a oe D od := by
        obtain ⟨oc, odi, oda, osl⟩ := oe
        obtain ⟨h1, h2⟩ := hz
        dsimp only at h1 h2 hv
        subst h1 h2 hv
        exact ⟨some od, hget, rfl, rfl, hod⟩
      exact PySem.W.kia_one (PySem.W.pyi_kitx C.hg C.hk C.hs C.hd C.ha C.hn C.ht C.hm) I.kIn J e (fun z => nomatch z) fun tk => ⟨.bl b, H, I.kept (t' := tk) fun _ _ z => z, rfl, q⟩
/-- isinstance(e, C): b -/
def evXI (i : Nat) (a dd : Addr) (c : Nat) (b : Bool) : Ev := fun ρ μ => match ρ[i]? with
  | some (.v (.exn a' dd' c' _)) => if a' = a ∧ dd' = dd ∧ c' = c then .ok (.bl b) μ else .bad
  | _ => .bad
/-- e.x -/
def evXF (i : Nat) (a dd : Addr) (c : Nat) (ns : List Str) (x : Str) : Ev := fun ρ μ => match ρ[i]? with
  | some (.v (.exn a' dd' c' ds)) => if a' = a ∧ dd' = dd ∧ c' = c then (match (ns.zip ds).lookup x with
    | some d => .ok d μ
    | none => .bad) else .bad
  | _ => .bad
section
variable {G : GC} {n : Nat} {N : List Str} {sc : Scope} {X : Cx} {qc : Bool} {k : Bool} {pos p p1 p2 : Pos} {a dd : Addr} {CS ci : Nat} {cs : List (Nat × List Str)}
theorem de_xi_core (c : Cxt G n N sc X qc) (i : Nat) {x y : Str} {cv : V} {cu : Value} {b : Bool} (C : ExcC G.K (G.ca ci)) (S0 : Ste G X a dd ci) (hcls : PE X (.Name y p2) (tC cv)) (hcv : ∀ u, RelV cv u → u = cu) (hk : PySem.W.kitOne G.K (.ref (G.ca ci)) cu = some b)
    (hm : G.mg "isinstance" = none) (hg : gloB sc "isinstance" = true) (hi : N[i]? = some x) (hv : visB sc x = true) (hd : (x == ("__debug__" : Str)) = false) (hcd : (x == ("__classdict__" : Str)) = false) : DE G X true (.Call (.Name "isinstance" p) [.Name x p1, .Name y p2] [] pos) (evXI i a dd ci b) := by
  obtain ⟨X0, oe, pn, rfl, hz, hf⟩ := S0.ex
  refine ⟨fun E W tk => ⟨fun pins s σ H Q I h => ?_⟩⟩
  obtain ⟨F, ι, μ, ρ, S, o⟩ := h
  unfold evXI at o
  split at o
  · next a' dd' c' ds e =>
    split at o
    · next hz' =>
      obtain ⟨rfl, rfl, rfl⟩ := hz'
      obtain ⟨v, e1, iv⟩ := S.slot i _ e
      cases iv with
      | exn h1 h2 h3 =>
        have eK : X0.K = G.K := c.eK
        refine (pe_callB (p := p) (pos := pos) (call_isX (X := X0) (D := G.ca c') (by rw [eK]; exact C) hz hf) (c.gl hg) (by rw [c.emg]; exact hm) boot_isinstance (pa_cons (pe_var (pos := p1) (by rw [c.eN]; exact hi) (c.vis hv) hd hcd) (pa_cons hcls pa_nil))).run pins s σ H Q I
          ⟨_, e1, ?_⟩
        exact ⟨cv, cu, b, _, rfl, hcv, by rw [eK]; exact hk, S.rep.sub _ _ h1, o.val S (.bl _)⟩
    · exact o.elim
  · exact o.elim
theorem de_xi (c : Cxt G n N sc X qc) (i : Nat) (j : Nat) {x y : Str} (hX : XCs G CS cs) {ns ns' : List Str} (hc : (ci, ns) ∈ cs) (hj : (j, ns') ∈ cs) (S0 : Ste G X a dd ci) (hm : G.mg "isinstance" = none) (hmj : G.mg y = some (.ref (G.ca j))) (hg : gloB sc "isinstance" = true := by rfl) (hgj : gloB sc y = true := by rfl)
    (hi : N[i]? = some x := by rfl) (hv : visB sc x = true := by rfl) (hd : (x == ("__debug__" : Str)) = false := by decide) (hcd : (x == ("__classdict__" : Str)) = false := by decide) (hdy : (y == ("__debug__" : Str)) = false := by decide) :
    DE G X true (.Call (.Name "isinstance" p) [.Name x p1, .Name y p2] [] pos) (evXI i a dd ci (decide (ci = j))) :=
  de_xi_core c i (cv := .ref (G.ca j)) (cu := .ref (G.ca j)) (hX.ec _ hc) S0 (pe_glob (v := .ref (G.ca j)) (c.gl hgj) (by rw [c.emg]; exact hmj) rfl hdy) (fun u r => r) (hX.is _ hc _ hj) hm hg hi hv hd hcd
theorem de_xve (c : Cxt G n N sc X qc) (i : Nat) {x : Str} (hX : XCs G CS cs) {ns : List Str} (hc : (ci, ns) ∈ cs) (S0 : Ste G X a dd ci) (hm : G.mg "isinstance" = none) (hmv : G.mg "ValueError" = none) (hg : gloB sc "isinstance" = true := by rfl) (hgv : gloB sc "ValueError" = true := by rfl)
    (hi : N[i]? = some x := by rfl) (hv : visB sc x = true := by rfl) (hd : (x == ("__debug__" : Str)) = false := by decide) (hcd : (x == ("__classdict__" : Str)) = false := by decide) :
    DE G X true (.Call (.Name "isinstance" p) [.Name x p1, .Name "ValueError" p2] [] pos) (evXI i a dd ci true) :=
  de_xi_core c i (cv := .ty "ValueError") (cu := .type "ValueError") (hX.ec _ hc) S0 (pe_bltn (v := .ty "ValueError") (c.gl hgv) (by rw [c.emg]; exact hmv) boot_VE rfl) (fun u r => r) (hX.ve _ hc) hm hg hi hv hd hcd
theorem zip_look {F : Hp} {ι : List Addr} {x : Str} : ∀ {fs : List (Str × V)} {ds : List D} {d : D}, IsAll G F ι ds (fs.map (·.2)) → ((fs.map (·.1)).zip ds).lookup x = some d → ∃ v, fs.lookup x = some v ∧ Is G F ι d v
  | [], _, _, _, e => by simp at e
  | (y, v) :: fs, ds, d, h, e => by
    rw [List.map_cons] at h
    cases h with
    | @cons d0 v0 ds0 vs0 r t =>
      rw [List.map_cons, List.zip_cons_cons, List.lookup_cons] at e
      rw [List.lookup_cons]
      cases z : x == y with
      | true => rw [z] at e; cases e; exact ⟨_, rfl, r⟩
      | false => rw [z] at e; exact zip_look t e
theorem de_xf (c : Cxt G n N sc X qc) (i : Nat) {x f : Str} (hX : XCs G CS cs) {ns : List Str} (hc : (ci, ns) ∈ cs) (hf : f ∈ ns) (S0 : Ste G X a dd ci) (hi : N[i]? = some x := by rfl) (hv : visB sc x = true := by rfl) (hd : (x == ("__debug__" : Str)) = false := by decide) (hcd : (x == ("__classdict__" : Str)) = false := by decide)
    (hb : attributeBase (.Name x p) f X.env (eval (.Name x p) X.env) = eval (.Name x p) X.env := by rfl) : DE G X true (.Attribute (.Name x p) f pos) (evXF i a dd ci ns f) := by
  obtain ⟨X0, oe, pn, rfl, hz, hfs⟩ := S0.ex
  refine ⟨fun E W tk => ⟨fun pins s σ H Q I h => ?_⟩⟩
  obtain ⟨F, ι, μ, ρ, S, o⟩ := h
  unfold evXF at o
  split at o
  · next a' dd' c' ds e =>
    split at o
    · next hz' =>
      obtain ⟨rfl, rfl, rfl⟩ := hz'
      split at o
      · next d ed =>
        obtain ⟨v, e1, iv⟩ := S.slot i _ e
        cases iv with
        | @exn _ _ _ fs _ h1 h2 h3 =>
          have eK : X0.K = G.K := c.eK
          rw [show ns = G.xf c' from (hX.xf _ hc).symm, ← h2] at ed
          obtain ⟨w, el, iw⟩ := zip_look h3 ed
          have C := hX.ec _ hc
          have hb' : attributeBase (.Name x p) f X0.env (eval (.Name x p) X0.env) = eval (.Name x p) X0.env := hb
          refine (pe_xf (X := X0) (C := G.ca c') (pos := pos) ⟨by rw [eK]; exact C.hg, by rw [eK]; exact C.hk, by rw [eK]; exact C.hs, by rw [eK]; exact C.hd⟩ (by rw [eK]; exact hX.no _ hc _ hf) hz hfs (pe_var (pos := p) (by rw [c.eN]; exact hi) (c.vis hv) hd hcd) hb').run pins s σ H Q I
            ⟨_, e1, rfl, rfl, dd', fs, w, rfl, S.rep.sub _ _ h1, el, o.val S iw⟩
      · exact o.elim
    · exact o.elim
  · exact o.elim
end

/-! ### try: act() / except T as e: suite / rest -/
def RX (G : GC) (cs : List (Nat × List Str)) (R : Nat → List D → Option D) (Q : VK) : XK := fun cls d H' => ∃ F ι μ c ns es dres, (c, ns) ∈ cs ∧ Rep G F ι μ H' ∧ ExV G F ι c es cls d H' ∧ R c es = some dres ∧
  ∀ F' ι' H'' v, Rep G F' ι' μ H'' → Ext ⟨ι, F, nt H', true⟩ F' ι' H'' → Is G F' ι' dres v → Q v H''
def TX (G : GC) (told : D) (Q : VK) : Hp → Prop := fun H' => ∃ F ι μ, Rep G F ι μ H' ∧ ∀ F' ι' H'' v, Rep G F' ι' μ H'' → Ext ⟨ι, F, nt H', true⟩ F' ι' H'' → Is G F' ι' told v → Q v H''
def TTx (G : GC) (cs : List (Nat × List Str)) (R : Nat → List D → Option D) (told : D) : (XK → Hp → VK → Prop) → Hp → VK → Prop := fun tl H Q => tl (RX G cs R Q) H fun _ H' => TX G told Q H'
/-- the dict of an exception becomes frozen -/
theorem Rep.frzX {G : GC} {F : Hp} {ι : List Addr} {μ : Mem} {H : Hp} {dd : Addr} {fs : List (Str × V)} (r : Rep G F ι μ H) (h : H dd = some (.xd fs)) : Grow F ι (upd F dd (.xd fs)) ι ∧ Rep G (upd F dd (.xd fs)) ι μ H := by
  have g : Grow F ι (upd F dd (.xd fs)) ι := ⟨fun a o e => by
    by_cases z : a = dd
    · subst z; have := r.sub _ _ e; rw [h] at this; cases this; exact upd_same
    · rw [upd_ne z]; exact e, List.prefix_rfl⟩
  have nI : dd ∉ ι := fun z => by
    obtain ⟨i, hi, e⟩ := List.mem_iff_getElem.mp z
    obtain ⟨c, _, q⟩ := paired_get' r.cell (i := i) (b := dd) (by rw [List.getElem?_eq_getElem hi, e])
    cases c with
    | lst ds => obtain ⟨xs, h1, _⟩ := q; rw [h] at h1; cases h1
    | ins c fs => obtain ⟨dx, vs, h1, _⟩ := q; rw [h] at h1; cases h1
    | dic kvs => obtain ⟨vs, h1, _⟩ := q; rw [h] at h1; cases h1
  refine ⟨g, ⟨fun a o e => ?_, r.nd, fun a ha => ?_, paired_imp r.cell fun c a q => q.keep g rfl, r.tab, fun a o e => ?_⟩⟩
  · by_cases z : a = dd
    · subst z; rw [upd_same] at e; cases e; exact h
    · rw [upd_ne z] at e; exact r.sub _ _ e
  · rw [upd_ne (fun z => nI (by rw [← z]; exact ha))]; exact r.off a ha
  · by_cases z : a = dd
    · subst z; rw [upd_same] at e; cases e; intro ps q; cases q
    · rw [upd_ne z] at e; exact r.ftb _ _ e
/-- slots that are unset -/
theorem stt_un {G : GC} {F : Hp} {ι : List Addr} {μ : Mem} {H : Hp} {m : Nat} {σ : L2.St} (r : Rep G F ι μ H) (hl : σ.length = m) : Stt G ⟨ι, F, nt H, true⟩ F ι μ (List.replicate m .un) σ H where
  rep := r
  len := by simp [hl]
  slot := fun j d e => by have := List.eq_of_mem_replicate (List.mem_of_getElem? e); cases this
  own := fun j xs e => by have := List.eq_of_mem_replicate (List.mem_of_getElem? e); cases this
  dis := fun j k xs ys a e => by have := List.eq_of_mem_replicate (List.mem_of_getElem? e); cases this
  ext := Ext.refl r
theorem gives_x {G : GC} {n : Nat} {N Ng : List Str} {sc sg : Scope} {X : Cx} {nm a xs en q : Str} {g : Addr} {cdg : Value} {b0 : Stmt} {suite rest : List Stmt} {p1 p2 p3 p4 r2 r3 : Pos} {CS : Nat} {cs : List (Nat × List Str)} {R : Nat → List D → Option D} {told : D} {es : Addr → Addr → Nat → Es} {er : Es} (c : Cxt G n N sc X) (ie : Nat)
    (hX : XCs G CS cs) (hNa : Ng[0]? = some a) (nd : Ng.Nodup) (hen : Ng[ie]? = some en) (henl : sg.names.lookup en = some .local) (hxs : gloB sg xs = true) (hmx : G.mg xs = some (.ref (G.ca CS))) (hdx : (xs == ("__debug__" : Str)) = false)
    (hsu : ∀ X' a dd ci ns, (ci, ns) ∈ cs → Cxt G n Ng sg X' false → Ste G X' a dd ci → DSs G X' (b0 :: suite) (es a dd ci))
    (hR : ∀ a dd ci ds d μ, R ci ds = some d → ∃ ρ', es a dd ci ((List.replicate Ng.length .un).set ie (.v (.exn a dd ci ds))) μ = .ok (.rt d, ρ') μ)
    (hre : ∀ X', Cxt G n Ng sg X' false → DSs G X' rest er) (hT : ∀ μ, ∃ ρ', er (List.replicate Ng.length .un) μ = .ok (.rt told, ρ') μ)
    (hsw : ∀ env : Env, swapsWith (.Call (.Name a p1) [] [] p2) none p3.line env = pure false) :
    LamX.GivesTo X Ng nm sg g cdg (.Try [.Expr (.Call (.Name a p1) [] [] p2) p3] [.ExceptHandler (some (.Name xs p4)) (some en) (b0 :: suite) r2] [] [] r3 :: rest) a q (TTx G cs R told) := by
  intro f c' s H Q tl act hc h
  let X1 := (cxOf C8.CX0 X.prog X.w X.K X.mg X.base Ng nm sg g cdg X.A X.stack s H C8.E0).nox
  have glo : ∀ {y : Str}, gloB sg y = true → Gl X1 y := fun {y} hy => by
    show sg.names.lookup y = some .globalImplicit
    unfold gloB at hy
    split at hy
    · assumption
    · cases hy
  have hl0 : 0 < Ng.length := (List.getElem?_eq_some_iff.mp hNa).1
  have hle : ie < Ng.length := (List.getElem?_eq_some_iff.mp hen).1
  have unt : X1.A.units + 64 < cLine := by
    have := c.room.un
    show X.A.units + 3 + 64 < cLine
    omega
  have cR : Cxt G n Ng sg X1 false := ⟨c.eP, c.ew, c.eK, c.emg, c.eb, rfl, rfl, (fun z => nomatch z), (fun z => nomatch z), unt, c.gua, nd⟩
  have cS : ∀ a' pn, Cxt G n Ng sg (X1.suite a' pn) false := fun a' pn => ⟨c.eP, c.ew, c.eK, c.emg, c.eb, rfl, rfl, (fun z => nomatch z), (fun z => nomatch z), unt, c.gua, nd⟩
  have hl1 : (L2.start Ng [V.ref f]).length = Ng.length := by simp [L2.start]; omega
  have pr : PSs X1 rest (fun D σ H => TX G told D.rt H) := ⟨fun pins s' σ H' D I h' => by
    obtain ⟨F, ι, μ, rp, hq⟩ := h'
    have S := stt_un rp (show σ.length = Ng.length from I.len)
    obtain ⟨ρ', ee⟩ := hT μ
    refine ((hre X1 cR).run ⟨ι, F, nt H', true⟩ noW rfl takes_no PassesOwn.never).run pins s' σ H' D I ⟨F, ι, μ, _, S, ?_⟩
    rw [ee]
    exact fun F' ι' H'' v r x g iv => hq F' ι' H'' v r x iv⟩
  refine ⟨_, pss_cons (ps_try_as (X := X1) (i := ie) (c := .ref (G.ca CS)) (Wout := fun _ _ _ _ => False)
      (tb := fun W D σ H => ∃ Ech : XK, (∀ cls d σ' H', Ech cls d H' → σ'.length = Ng.length → W cls d σ' H') ∧ σ[0]? = some (some (.ref f)) ∧ H c' = some (LamX.CodeO c' q) ∧ tl Ech H fun _ H1 => D.nx σ H1)
      (ts := fun a' cls d => fun D σ H => σ[ie]? = some (some (.ref a')) ∧ RX G cs R D.rt cls d H)
      rfl rfl (by exact nd) hen henl ⟨glo hxs, hdx, .inl (by show X.mg xs = _; rw [c.emg]; exact hmx)⟩ LamX.takes0 (fun W pn xe tk _ => ?_) (fun a' oe cls d pn hz hf => ?_)) pr, ?_⟩
  · refine ⟨fun pins s' σ H' D I h' => ?_⟩
    obtain ⟨Ech, hW, h1, h2, h3⟩ := h'
    have hp := act (fun cls d σ H => σ.length = Ng.length → W cls d σ H) pn xe Ech p1 p2 (takes_len tk) (fun cls d σ' H' e l => hW cls d σ' H' e l)
    exact (pss_one (ps_expr (pos := p3) hp (hsw _))).run pins s' σ H' D I ⟨h1, h2, h3⟩
  · refine ⟨fun pins s' σ H' D I h' => ?_⟩
    obtain ⟨hs, F, ι, μ, ci, ns, esd, dres, hmem, rp, xv, hr, hq⟩ := h'
    obtain ⟨hcls, dd, fs, hd, hH, hns, hds⟩ := xv
    subst hcls hd
    obtain ⟨g1, rp1⟩ := rp.frzX hH
    have S1 := stt_un rp1 (show σ.length = Ng.length from I.len)
    have S2 := S1.set (i := ie) (d := .exn a' dd ci esd) (v := .ref a') (.exn upd_same hns (hds.grow g1))
    have eσ : σ.set ie (some (.ref a')) = σ := by
      obtain ⟨hlt, he⟩ := List.getElem?_eq_some_iff.mp hs
      rw [← he, List.set_getElem_self]
    rw [eσ] at S2
    obtain ⟨ρ', ee⟩ := hR a' dd ci esd dres μ hr
    refine ((hsu _ a' dd ci ns hmem (cS _ _) ⟨X1, oe, pn, rfl, hz, hf⟩).run ⟨ι, upd F dd (.xd fs), nt H', true⟩ noW rfl takes_no PassesOwn.never).run pins s' σ H' D I ⟨_, ι, μ, _, S2, ?_⟩
    rw [ee]
    refine fun F' ι' H'' v r x g iv => hq F' ι' H'' v r ⟨g1.trans x.grow, x.keep, x.there, x.newc, fun b o e nx => ?_, x.ntE⟩ iv
    rcases x.newf b o e nx with z | z
    · by_cases hb : b = dd
      · subst hb
        have z : upd F b (.xd fs) b = some o := z
        rw [upd_same] at z
        cases z
        exact absurd rfl (nx _)
      · have z : upd F dd (.xd fs) b = some o := z
        rw [upd_ne hb] at z
        exact .inl z
    · exact .inr z
  · refine ⟨RX G cs R Q, fun cls d σ' H' hE hl => ?_, by simp [L2.start], hc, h⟩
    obtain ⟨F, ι, μ, ci, ns, esd, dres, hmem, rp, xv, hr, hq⟩ := id hE
    have hcls := xv.cls
    subst hcls
    refine ⟨true, by show PySem.W.exmOne X.K _ _ = _; rw [c.eK]; exact hX.ex _ hmem, fun _ a' ha' => ⟨List.getElem?_set_self (by omega), hE⟩, fun z => nomatch z⟩
/-- f(lambda: e) by such a def -/
def evRefX (R : Nat → List D → Option D) (told : D) (ea : Ev) : Ev := fun ρ μ => match ea ρ μ with
  | .ok _ μ' => .ok told μ'
  | .exc c ds μ' => (match R c ds with
    | some d => .ok d μ'
    | none => .bad)
  | .bad => .bad
theorem Stt.frzX {G : GC} {E : Ent} {F : Hp} {ι : List Addr} {μ : Mem} {ρ : Sls} {σ : L2.St} {H : Hp} (S : Stt G E F ι μ ρ σ H) {F' : Hp} {ι' : List Addr} {μ' : Mem} {H' : Hp} (r : Rep G F' ι' μ' H') (x : Ext ⟨ι, F, nt H, true⟩ F' ι' H') : Stt G E F' ι' μ' ρ σ H' := S.call x r
theorem de_refusedx {G : GC} {n : Nat} {N : List Str} {sc : Scope} {X : Cx} {pos lpos p : Pos} (c : Cxt G n N sc X) (fi i : Nat) {k : Nat} {nm a own : Str} {params pg : Arguments} {body : Expr} {scope sg : Scope} {bg : List Stmt} {Ng : List Str} {fd : FuncData} {ea : Ev} {cs : List (Nat × List Str)} {R : Nat → List D → Option D} {told : D} (lm : Lmb G.K (G.fa i) own X) (T : TabD G (G.fa i) X.env.qual)
    (FD : FunD G.K nm nm pg bg sg [] [] (G.fa fi) fd) (hm : G.mg nm = some (.ref (G.fa fi))) (hb : L2.Binds G.K fd [a] []) (Sg : FnScope Ng [a] sg) (hNg : Ng[0]? = some a) (hva : Vis sg a)
    (hG : ∀ cdv, LamX.GivesTo X Ng nm sg (G.fa fi) cdv bg a (X.env.qual ++ "<lambda>") (TTx G cs R told)) (hcs : ∀ ci ds d, R ci ds = some d → ∃ ns, (ci, ns) ∈ cs)
    (hbody : ∀ X', Cxt G k N scope X' → DE G X' true body ea) (hk : k < 100) (hn : k + 2 ≤ n) (L : LamX.lamSB sc scope = true) (hdef : defaultsOf params X.env = ([], []))
    (hbind : ∀ (q : Str) (cl : List (Str × Addr)) (pm cv ctv : Value), bindArgs (PySem.W.kla_fn "<lambda>" q params body scope cl pm cv ctv) ⟨[], []⟩ = pure [])
    (hg : gloB sc nm = true) (hdb : (nm == ("__debug__" : Str)) = false) (hd : (a == ("__debug__" : Str)) = false) (hcd : (a == ("__classdict__" : Str)) = false) :
    DE G X true (.Call (.Name nm p) [.Lambda params body scope lpos] [] pos) (evRefX R told ea) := by
  refine ⟨fun E W tk => ?_⟩
  obtain ⟨P, TB, hmT, hu⟩ := T.ex
  obtain ⟨oc, od, dV, kV, doc, pm, an, cdv, ct, osl, rfl, lk, hcdv, _, _⟩ := FD.ex
  refine PE.imp (LamX.pe_lamcall (T := G.tb) (k := k) (t := fun E1 σ H Q => tE G E true (fun cls d _ H' => E1 cls d H') ea σ H Q) (c.gl hg) (by rw [c.emg]; exact hm) (by rw [c.eK]; exact FD.kp) (by rw [c.eK]; exact lk) (by rw [c.eK]; exact hcdv) (by rw [c.eK]; exact hb) Sg hNg hva
    (hG cdv) (by rw [c.eb, c.emg]; exact TB) lm.code hmT hu (c.room.mono hn) (by rw [c.esc]; exact LamX.lamS_by L) hdef hbind (fun A outer s H E1 f c' r => (hbody _ (c.lam hk r)).run E _ takes_lam) hdb hd hcd) fun σ H Q h => ?_
  obtain ⟨F, ι, μ, ρ, S, o⟩ := h
  refine ⟨S.rep.tab, fun H1 eN T1 => ?_⟩
  refine ⟨F, ι, μ, ρ, S.extN eN T1, ?_⟩
  unfold evRefX at o
  cases q : ea ρ μ with
  | ok d μ' =>
    rw [q] at o
    exact fun F' ι' H' v S' g iv => ⟨F', ι', μ', S'.rep, fun F2 ι2 H2 v2 r x iv2 => o F2 ι2 H2 v2 (S'.call x r) (g.trans x.grow) (.of iv2)⟩
  | bad => rw [q] at o; exact o
  | exc cc ds μ' =>
    rw [q] at o
    have o2 : OutE G E true F ι ρ σ W Q (match R cc ds with | some d => .ok d μ' | none => .bad) := o
    clear o
    cases hr : R cc ds with
    | none => rw [hr] at o2; exact o2.elim
    | some d =>
      rw [hr] at o2
      intro F' ι' H' cls xd S' g xv
      obtain ⟨ns, hns⟩ := hcs cc ds d hr
      exact ⟨F', ι', μ', cc, ns, ds, d, hns, S'.rep, xv, hr, fun F2 ι2 H2 v2 r x iv2 => o2 F2 ι2 H2 v2 (S'.call x r) (g.trans x.grow) (.of iv2)⟩

/-! ### the exception classes by the head -/
def excC8 (K : PySem.W.Frag) (D : Addr) : Bool := decide (PySem.W.findIn K (.ref D) "__getattribute__" = some (some (.builtin "BaseException.__getattribute__"))) && (decide (PySem.W.findIn K (.ref D) "__getattr__" = some none) && (decide (PySem.W.subIn K (.ref D) (.type "BaseException") = some true) && (PySem.W.hasDictIn K D &&
  (decide (PySem.W.findIn K (.ref D) "__class__" = some (some (.builtin "object.__class__"))) && (decide (PySem.W.specialIn K (.builtin "object.__class__") "__get__" = some (some (.builtin "getset_descriptor.__get__"))) && (decide (PySem.W.takesIn K (.builtin "object.__class__") = some true) && decide (PySem.W.mroIn K D (.type "object") = some true)))))))
theorem excC8_ok {K : PySem.W.Frag} {D : Addr} (h : excC8 K D = true) : ExcC K D := by
  unfold excC8 at h
  obtain ⟨h1, h⟩ := He.ba h
  obtain ⟨h2, h⟩ := He.ba h
  obtain ⟨h3, h⟩ := He.ba h
  obtain ⟨h4, h⟩ := He.ba h
  obtain ⟨h5, h⟩ := He.ba h
  obtain ⟨h6, h⟩ := He.ba h
  obtain ⟨h7, h8⟩ := He.ba h
  exact ⟨of_decide_eq_true h1, of_decide_eq_true h2, of_decide_eq_true h3, h4, of_decide_eq_true h5, of_decide_eq_true h6, of_decide_eq_true h7, of_decide_eq_true h8⟩
def xcsB (K : PySem.W.Frag) (cm : Nat → Str) (CS : Nat) (cs : List (Nat × List Str)) : Bool := cs.all fun p => excC8 K (He.ga K (cm p.1)) && (p.2.all (fun x => He.eqO (PySem.W.findIn K (.ref (He.ga K (cm p.1))) x) (some none)) && (decide (PySem.W.exmOne K (.ref (He.ga K (cm p.1))) (.ref (He.ga K (cm CS))) = some true) &&
  (decide (PySem.W.kitOne K (.ref (He.ga K (cm p.1))) (.type "ValueError") = some true) && cs.all fun q => decide (PySem.W.kitOne K (.ref (He.ga K (cm p.1))) (.ref (He.ga K (cm q.1))) = some (decide (p.1 = q.1))))))
theorem xcs_of {G : GC} {cm : Nat → Str} {CS : Nat} {cs : List (Nat × List Str)} (hca : ∀ i, G.ca i = He.ga G.K (cm i)) (hxf : ∀ p ∈ cs, G.xf p.1 = p.2) (h : xcsB G.K cm CS cs = true) : XCs G CS cs := by
  have k : ∀ p ∈ cs, _ := fun p hp => List.all_eq_true.mp h p hp
  refine ⟨hxf, fun p hp => ?_, fun p hp x hx => ?_, fun p hp => ?_, fun p hp => ?_, fun p hp q hq => ?_⟩ <;> (try rw [hca]) <;> (try rw [hca]) <;>
    (obtain ⟨h1, h⟩ := He.ba (k p hp); obtain ⟨h2, h⟩ := He.ba h; obtain ⟨h3, h⟩ := He.ba h; obtain ⟨h4, h5⟩ := He.ba h)
  · exact excC8_ok h1
  · exact He.eqO_ok (List.all_eq_true.mp h2 x hx)
  · exact of_decide_eq_true h3
  · exact of_decide_eq_true h4
  · exact of_decide_eq_true (List.all_eq_true.mp h5 q hq)
end PyI

set_option Elab.async false
set_option linter.all false
set_option maxRecDepth 100000
set_option maxHeartbeats 4000000
namespace PyI
open PySem PySem.Spec PyProof.Rows L2
/-! ### own lists among the parts of a tuple's assignment -/
section
variable {G : GC} {E : Ent} {F F' : Hp} {ι ι' : List Addr} {μ μ' : Mem} {ρ : Sls} {σ : L2.St} {H H' : Hp}
theorem Stt.adopt (S : Stt G E F ι μ ρ σ H) {i : Nat} {p : Addr} {xs : List D} {vs : List V} (hp : H p = some (.lst vs)) (hF : F p = none) (hI : p ∉ ι) (hE : E.H p = none) (h : IsAll G F ι xs vs)
    (hO : ∀ (i : Nat) (xs : List D), ρ[i]? = some (.ol xs) → σ[i]? ≠ some (some (.ref p))) : Stt G E F ι μ (ρ.set i (.ol xs)) (σ.set i (some (.ref p))) H := by
  refine ⟨S.rep, by simpa using S.len, fun j e hj => ?_, fun j e hj => ?_, fun j k ys zs a hj hk ej ek => ?_, S.ext⟩
  · by_cases q : i = j
    · subst q
      by_cases hi : i < ρ.length
      · rw [List.getElem?_set_self hi] at hj; cases hj
      · rw [List.getElem?_eq_none (by simpa using hi)] at hj; cases hj
    · rw [List.getElem?_set_ne q] at hj ⊢
      exact S.slot j e hj
  · by_cases q : i = j
    · subst q
      by_cases hi : i < ρ.length
      · rw [List.getElem?_set_self hi] at hj
        cases hj
        exact ⟨p, vs, by rw [List.getElem?_set_self (by rw [← S.len]; exact hi)], hp, h, hF, hI, fun _ => hE⟩
      · rw [List.getElem?_eq_none (by simpa using hi)] at hj; cases hj
    · rw [List.getElem?_set_ne q] at hj ⊢
      exact S.own j e hj
  · have lt : ∀ {j : Nat} {ys : List D}, (ρ.set i (.ol xs))[j]? = some (.ol ys) → j < ρ.length := fun {j ys} hj => by
      have := (List.getElem?_eq_some_iff.mp hj).1
      simpa using this
    have lj := lt hj
    have lk := lt hk
    by_cases q1 : i = j
    · by_cases q2 : i = k
      · exact q1.symm.trans q2
      · subst q1
        rw [List.getElem?_set_self (by rw [← S.len]; exact lj)] at ej
        cases ej
        rw [List.getElem?_set_ne q2] at hk ek
        exact absurd ek (hO _ _ hk)
    · by_cases q2 : i = k
      · subst q2
        rw [List.getElem?_set_self (by rw [← S.len]; exact lk)] at ek
        cases ek
        rw [List.getElem?_set_ne q1] at hj ej
        exact absurd ej (hO _ _ hj)
      · rw [List.getElem?_set_ne q1] at hj ej
        rw [List.getElem?_set_ne q2] at hk ek
        exact S.dis j k ys zs a hj hk ej ek
end
/-- a, b = [..], e; a's list is its own -/
def sQ2a (i j : Nat) (el : EvL) (eb : Ev) : Es := fun ρ μ => (el ρ μ).bind fun ds μ1 => if ds.length ≤ sizeLine then (eb ρ μ1).bind fun d μ2 => .ok (.nx, (ρ.set i (.ol ds)).set j (.v d)) μ2 else .bad
/-- a, b = e, [..] -/
def sQ2b (i j : Nat) (ea : Ev) (el : EvL) : Es := fun ρ μ => (ea ρ μ).bind fun d μ1 => (el ρ μ1).bind fun ds μ2 => if ds.length ≤ sizeLine then .ok (.nx, (ρ.set i (.v d)).set j (.ol ds)) μ2 else .bad
def sQ3c (i j l : Nat) (ea eb : Ev) (el : EvL) : Es := fun ρ μ => (ea ρ μ).bind fun d μ1 => (eb ρ μ1).bind fun e μ2 => (el ρ μ2).bind fun ds μ3 => if ds.length ≤ sizeLine then .ok (.nx, ((ρ.set i (.v d)).set j (.v e)).set l (.ol ds)) μ3 else .bad
section
variable {G : GC} {n : Nat} {N : List Str} {sc : Scope} {X : Cx} {pos : Pos}
theorem es_q2b (c : Cxt G n N sc X) (i j : Nat) {x y : Str} {a : Expr} {es : List Expr} {ea : Ev} {el : EvL} {px py pt pl : Pos} {kt k2 pt2} (ha : DE G X true a ea) (hl : DA G X true es el) (hi : N[i]? = some x := by rfl) (hj : N[j]? = some y := by rfl) (hij : i ≠ j := by decide)
    (hx : locB sc x = true := by rfl) (hy : locB sc y = true := by rfl) (hw : swappedStores [.Tuple [.Name x px, .Name y py] kt pt] (.Tuple [a, .List es pl] k2 pt2) (env0 sc) = pure (some [x, y]) := by rfl)
    (hs : swapsWithSole [.Tuple [.Name x px, .Name y py] kt pt] (.Tuple [a, .List es pl] k2 pt2) pos.line (env0 sc) = pure false := by rfl)
    (h1 : starEach [a, .List es pl] X.env = (false, eval a X.env) :: starEach [.List es pl] X.env := by rfl) (h2 : starEach [.List es pl] X.env = (false, eval (.List es pl) X.env) :: starEach [] X.env := by rfl) : DS G X (.Assign [.Tuple [.Name x px, .Name y py] kt pt] (.Tuple [a, .List es pl] k2 pt2) pos) (sQ2b i j ea el) :=
  ⟨fun E W hw' tk hp => PS.imp (ps_par c.calm (by rw [c.eN]; exact c.nd) (by rw [c.eN]; exact hi) (by rw [c.eN]; exact hj) hij (c.loc hx) (c.loc hy) (pa_cons (ha.run E W tk) (pa_cons (pe_lst (hl.run E W tk)) pa_nil h2) h1) ((sw_env c.e0 _ _).trans hw) ((ss_env c.e0 _ _ _).trans hs)) fun Dn σ H h => by
    obtain ⟨F, ι, μ, ρ, S, o⟩ := h
    refine tE_bindS S o fun F1 ι1 μ1 H1 d v S1 g1 i1 o1 => ?_
    refine tL_bindS S1 o1 fun F2 ι2 μ2 H2 ds vs S2 g2 i2 o2 => ?_
    split at o2
    · next hz =>
      refine ⟨by rw [← i2.all.length]; exact hz, fun p hp => ⟨v, .ref p, rfl, ?_⟩⟩
      exact o2 F2 ι2 _ _ ((S2.set (i := i) ((show Is G F1 ι1 d v from i1).grow g2)).setO hp i2.all) (Grow.refl _ _)
    · exact o2.elim⟩
theorem es_q3c (c : Cxt G n N sc X) (i j l : Nat) {x y z : Str} {a b : Expr} {es : List Expr} {ea eb : Ev} {el : EvL} {px py pz pt pl : Pos} {kt k2 pt2} (ha : DE G X true a ea) (hb : DE G X true b eb) (hle : DA G X true es el) (hi : N[i]? = some x := by rfl) (hj : N[j]? = some y := by rfl) (hl : N[l]? = some z := by rfl) (hij : i ≠ j := by decide) (hil : i ≠ l := by decide) (hjl : j ≠ l := by decide)
    (hx : locB sc x = true := by rfl) (hy : locB sc y = true := by rfl) (hz' : locB sc z = true := by rfl) (hw : swappedStores [.Tuple [.Name x px, .Name y py, .Name z pz] kt pt] (.Tuple [a, b, .List es pl] k2 pt2) (env0 sc) = pure (some [x, y, z]) := by rfl)
    (hs : swapsWithSole [.Tuple [.Name x px, .Name y py, .Name z pz] kt pt] (.Tuple [a, b, .List es pl] k2 pt2) pos.line (env0 sc) = pure false := by rfl)
    (h1 : starEach [a, b, .List es pl] X.env = (false, eval a X.env) :: starEach [b, .List es pl] X.env := by rfl) (h1' : starEach [b, .List es pl] X.env = (false, eval b X.env) :: starEach [.List es pl] X.env := by rfl) (h2 : starEach [.List es pl] X.env = (false, eval (.List es pl) X.env) :: starEach [] X.env := by rfl) : DS G X (.Assign [.Tuple [.Name x px, .Name y py, .Name z pz] kt pt] (.Tuple [a, b, .List es pl] k2 pt2) pos) (sQ3c i j l ea eb el) :=
  ⟨fun E W hw' tk hp => PS.imp (ps_par3 c.calm (by rw [c.eN]; exact c.nd) (by rw [c.eN]; exact hi) (by rw [c.eN]; exact hj) (by rw [c.eN]; exact hl) hij hil hjl (c.loc hx) (c.loc hy) (c.loc hz') (pa_cons (ha.run E W tk) (pa_cons (hb.run E W tk) (pa_cons (pe_lst (hle.run E W tk)) pa_nil h2) h1') h1) ((sw_env c.e0 _ _).trans hw) ((ss_env c.e0 _ _ _).trans hs)) fun Dn σ H h => by
    obtain ⟨F, ι, μ, ρ, S, o⟩ := h
    refine tE_bindS S o fun F1 ι1 μ1 H1 d v S1 g1 i1 o1 => ?_
    refine tE_bindS S1 o1 fun F2 ι2 μ2 H2 e u S2 g2 i2 o2 => ?_
    refine tL_bindS S2 o2 fun F3 ι3 μ3 H3 ds vs S3 g3 i3 o3 => ?_
    split at o3
    · next hz =>
      refine ⟨by rw [← i3.all.length]; exact hz, fun p hp => ⟨v, u, .ref p, rfl, ?_⟩⟩
      exact o3 F3 ι3 _ _ (((S3.set (i := i) ((show Is G F1 ι1 d v from i1).grow (g2.trans g3))).set (i := j) ((show Is G F2 ι2 e u from i2).grow g3)).setO hp i3.all) (Grow.refl _ _)
    · exact o3.elim⟩
theorem es_q2a (c : Cxt G n N sc X) (i j : Nat) {x y : Str} {b : Expr} {es : List Expr} {eb : Ev} {el : EvL} {px py pt pl : Pos} {kt k2 pt2} (hl : DA G X true es el) (hb : DE G X true b eb) (hi : N[i]? = some x := by rfl) (hj : N[j]? = some y := by rfl) (hij : i ≠ j := by decide)
    (hx : locB sc x = true := by rfl) (hy : locB sc y = true := by rfl) (hw : swappedStores [.Tuple [.Name x px, .Name y py] kt pt] (.Tuple [.List es pl, b] k2 pt2) (env0 sc) = pure (some [x, y]) := by rfl)
    (hs : swapsWithSole [.Tuple [.Name x px, .Name y py] kt pt] (.Tuple [.List es pl, b] k2 pt2) pos.line (env0 sc) = pure false := by rfl)
    (h1 : starEach [.List es pl, b] X.env = (false, eval (.List es pl) X.env) :: starEach [b] X.env := by rfl) (h2 : starEach [b] X.env = (false, eval b X.env) :: starEach [] X.env := by rfl) : DS G X (.Assign [.Tuple [.Name x px, .Name y py] kt pt] (.Tuple [.List es pl, b] k2 pt2) pos) (sQ2a i j el eb) :=
  ⟨fun E W hw' tk hp => PS.imp (ps_par c.calm (by rw [c.eN]; exact c.nd) (by rw [c.eN]; exact hi) (by rw [c.eN]; exact hj) hij (c.loc hx) (c.loc hy) (pa_cons (pe_lst (hl.run E W tk)) (pa_cons (DE.run hb ⟨[], fun _ => none, fun _ => none, false⟩ W tk |> fun _ => (PE.ex (X := X) (e := b) (t := fun (E' : Ent) => tE G E' true W eb) fun E' => hb.run E' W tk)) pa_nil h2) h1) ((sw_env c.e0 _ _).trans hw) ((ss_env c.e0 _ _ _).trans hs)) fun Dn σ H h => by
    obtain ⟨F, ι, μ, ρ, S, o⟩ := h
    refine tL_bindS S o fun F1 ι1 μ1 H1 ds vs S1 g1 i1 o1 => ?_
    split at o1
    · next hz =>
      refine ⟨by rw [← i1.all.length]; exact hz, fun p hp => ?_⟩
      have S2 := S1.laid (o := .lst vs) hp
      have hE : E.H p = none := S1.ext.there p (nt_none hp)
      have nO : ∀ (i : Nat) (xs : List D), ρ[i]? = some (.ol xs) → σ[i]? ≠ some (some (.ref p)) := fun i xs e z => by
        obtain ⟨a, ws, h1, h2, _⟩ := S1.own i xs e
        rw [z] at h1
        cases h1
        rw [hp] at h2; cases h2
      have F1p : F1 p = none := by
        cases q : F1 p with
        | none => rfl
        | some u => have := S1.rep.sub _ _ q; rw [hp] at this; cases this
      have I1p : p ∉ ι1 := fun z => S1.rep.at z hp
      refine ⟨⟨ι1, F1, nt (upd H1 p (.lst vs)), false⟩, F1, ι1, μ1, ρ, S2.here, ?_⟩
      have hpn : nt (upd H1 p (.lst vs)) p = some (.lst vs) := nt_of upd_same fun _ z => nomatch z
      cases q : eb ρ μ1 with
      | bad => rw [q] at o1; exact o1.elim
      | exc cc ds' m =>
        rw [q] at o1
        exact fun F' ι' H' cls xd S' g i => o1 F' ι' ρ σ H' cls xd (S2.call S'.ext S'.rep) g i
      | ok d μ2 =>
        rw [q] at o1
        intro F' ι' H' v S' g iv
        have o1 : OutS G E F1 ι1 W Dn (.ok (.nx, (ρ.set i (.ol ds)).set j (.v d)) μ2) := o1
        have k1 : H' p = some (.lst vs) := S'.ext.keep p _ hpn I1p
        have k2 : F' p = none := by
          cases q : F' p with
          | none => rfl
          | some u =>
            have hu := S'.rep.sub _ _ q
            rw [k1] at hu
            cases hu
            rcases S'.ext.newf p _ q (fun fs z => nomatch z) with z | z
            · rw [show F1 p = some _ from z] at F1p; cases F1p
            · rw [show nt (upd H1 p (.lst vs)) p = none from z] at hpn; cases hpn
        have k3 : p ∉ ι' := fun h => by
          rcases S'.ext.newc p h with z | z
          · exact I1p z
          · rw [show nt (upd H1 p (.lst vs)) p = none from z] at hpn; cases hpn
        have S3 := (S2.call S'.ext S'.rep).adopt (i := i) k1 k2 k3 hE (i1.all.grow g) nO
        exact ⟨.ref p, v, rfl, o1 F' ι' _ H' (S3.set (i := j) iv) g⟩
    · exact o1.elim⟩
end
end PyI

set_option Elab.async false
set_option linter.all false
set_option maxRecDepth 100000
set_option maxHeartbeats 4000000
namespace PyI
open PySem PySem.Spec PyProof.Rows L2
/-! ### methods of a cell's list -/
def lstAt (μ : Mem) (d : D) : Option (Nat × List D) := match d with
  | .cell l => (match μ[l]? with
    | some (.lst xs) => some (l, xs)
    | _ => none)
  | _ => none
theorem lstAt_eq {μ : Mem} {l : Nat} {d : D} {xs : List D} (h : lstAt μ d = some (l, xs)) : d = .cell l ∧ μ[l]? = some (.lst xs) := by
  unfold lstAt at h
  split at h
  · split at h
    · next e => cases h; exact ⟨rfl, e⟩
    · cases h
  · cases h
def evApC (eo ea : Ev) : Ev := fun ρ μ => (eo ρ μ).bind fun o μ1 => match lstAt μ1 o with
  | some _ => (ea ρ μ1).bind fun d μ2 => (match lstAt μ2 o with
    | some (l, xs) => if xs.length < sizeLine then .ok .non (μ2.set l (.lst (xs ++ [d]))) else .bad
    | none => .bad)
  | none => .bad
def evExC (eo ea : Ev) : Ev := fun ρ μ => (eo ρ μ).bind fun o μ1 => match lstAt μ1 o with
  | some _ => (ea ρ μ1).bind fun d μ2 => (match lstAt μ2 o, seqOf μ2 d with
    | some (l, xs), some (_, ds) => if xs.length + ds.length ≤ sizeLine then .ok .non (μ2.set l (.lst (xs ++ ds))) else .bad
    | _, _ => .bad)
  | none => .bad
def evPop (eo : Ev) : Ev := fun ρ μ => (eo ρ μ).bind fun o μ1 => match lstAt μ1 o with
  | some (l, xs) => (match xs[xs.length - 1]? with
    | some d => .ok d (μ1.set l (.lst xs.dropLast))
    | none => .bad)
  | none => .bad
def evPopI (eo ea : Ev) : Ev := fun ρ μ => (eo ρ μ).bind fun o μ1 => match lstAt μ1 o with
  | some _ => (ea ρ μ1).bind fun i μ2 => (match lstAt μ2 o, i with
    | some (l, xs), .int i => if 0 ≤ i ∧ i < 2 ^ 62 then (match xs[i.toNat]? with
      | some d => .ok d (μ2.set l (.lst (xs.eraseIdx i.toNat)))
      | none => .bad) else .bad
    | _, _ => .bad)
  | none => .bad
theorem IsAll.dropLast {G : GC} {F : Hp} {ι : List Addr} {ds : List D} {vs : List V} (h : IsAll G F ι ds vs) : IsAll G F ι ds.dropLast vs.dropLast := by
  rw [List.dropLast_eq_take, List.dropLast_eq_take, h.length]
  exact h.take _
theorem IsAll.eraseIdx {G : GC} {F : Hp} {ι : List Addr} : ∀ {ds : List D} {vs : List V} (n : Nat), IsAll G F ι ds vs → IsAll G F ι (ds.eraseIdx n) (vs.eraseIdx n)
  | _, _, _, .nil => .nil
  | _, _, 0, .cons _ t => t
  | _, _, n + 1, .cons r t => .cons r (t.eraseIdx n)
section
variable {G : GC} {n : Nat} {N : List Str} {sc : Scope} {X : Cx} {qc k1 : Bool} {pos : Pos} {o e : Expr} {eo ea : Ev} {apos cpos : Pos}
theorem de_apC (c : Cxt G n N sc X qc) (ho : DE G X k1 o eo) (he : DE G X true e ea)
    (hbase : attributeBase o "append" X.env (eval o X.env) = eval o X.env := by rfl)
    (hfew : ((backTo cpos (starEach [e] X.env)).all (fun x => !x.1) && (backToKw cpos (keywordEach [] X.env)).all (fun x => x.1.isSome)
      && decide ([e].length + ([] : List Keyword).length + (if ([] : List Keyword).isEmpty then 0 else 1) < 30)) = true := by rfl)
    (hline : (apos.endLine == cpos.line) = true := by rfl) (hs : starEach [e] X.env = (false, eval e X.env) :: starEach [] X.env := by rfl) :
    DE G X true (.Call (.Attribute o "append" apos) [e] [] cpos) (evApC eo ea) :=
  ⟨fun E W tk => PE.imp (pe_bm PySem.F.plainAttrs_list PySem.F.slot_list_append PySem.F.type_list_append mt_append (ho.run E W tk) (pa_cons (he.run E W tk) pa_nil hs) hbase hfew hline hs) fun σ H Q h => by
    obtain ⟨F, ι, μ, ρ, S, o⟩ := h
    refine tE_bind S o fun F1 ι1 μ1 H1 d v S1 g1 i1 _ o1 => ?_
    split at o1
    · next lx e1 =>
      obtain ⟨l, xs⟩ := lx
      obtain ⟨rfl, e1'⟩ := lstAt_eq e1
      obtain ⟨a, vs, rfl, hl, hH, iw⟩ := S1.cellL i1.v e1'
      refine ⟨.inl ⟨rfl, vs, .inl (.inl hH)⟩, ?_⟩
      show tE G E true W ea σ H1 _
      refine tE_bind S1 o1 fun F2 ι2 μ2 H2 d2 v2 S2 g2 i2 _ o2 => ?_
      split at o2
      · next l2 ys e2 =>
        obtain ⟨e3, e2'⟩ := lstAt_eq e2
        cases e3
        obtain ⟨a2, ws, e4, hl2, hH2, iw2⟩ := S2.cellL (i1.v.grow g2) e2'
        cases e4
        split at o2
        · next hz => exact ⟨a, ws, v2, rfl, rfl, hH2, by rw [← iw2.length]; exact hz, o2.val (S2.write hl2 ⟨_, upd_same, iw2.append (.cons (show Is G F2 ι2 d2 v2 from i2) .nil)⟩) .non⟩
        · exact o2.elim
      · exact o2.elim
    · exact o1.elim⟩
theorem de_exC (c : Cxt G n N sc X qc) (ho : DE G X k1 o eo) (he : DE G X true e ea)
    (hbase : attributeBase o "extend" X.env (eval o X.env) = eval o X.env := by rfl)
    (hfew : ((backTo cpos (starEach [e] X.env)).all (fun x => !x.1) && (backToKw cpos (keywordEach [] X.env)).all (fun x => x.1.isSome)
      && decide ([e].length + ([] : List Keyword).length + (if ([] : List Keyword).isEmpty then 0 else 1) < 30)) = true := by rfl)
    (hline : (apos.endLine == cpos.line) = true := by rfl) (hs : starEach [e] X.env = (false, eval e X.env) :: starEach [] X.env := by rfl) :
    DE G X true (.Call (.Attribute o "extend" apos) [e] [] cpos) (evExC eo ea) :=
  ⟨fun E W tk => PE.imp (pe_bm PySem.F.plainAttrs_list PySem.F.slot_list_extend PySem.F.type_list_extend mt_extA (ho.run E W tk) (pa_cons (he.run E W tk) pa_nil hs) hbase hfew hline hs) fun σ H Q h => by
    obtain ⟨F, ι, μ, ρ, S, o⟩ := h
    refine tE_bind S o fun F1 ι1 μ1 H1 d v S1 g1 i1 _ o1 => ?_
    split at o1
    · next lx e1 =>
      obtain ⟨l, xs⟩ := lx
      obtain ⟨rfl, e1'⟩ := lstAt_eq e1
      obtain ⟨a, vs, rfl, hl, hH, iw⟩ := S1.cellL i1.v e1'
      refine ⟨.inl ⟨rfl, vs, .inl (.inl hH)⟩, ?_⟩
      show tE G E true W ea σ H1 _
      refine tE_bind S1 o1 fun F2 ι2 μ2 H2 d2 v2 S2 g2 i2 _ o2 => ?_
      split at o2
      · next l2 ys bb ds e2 eq =>
        obtain ⟨e3, e2'⟩ := lstAt_eq e2
        cases e3
        obtain ⟨a2, ws, e4, hl2, hH2, iw2⟩ := S2.cellL (i1.v.grow g2) e2'
        cases e4
        split at o2
        · next hz =>
          obtain ⟨b, us, rfl, k1, k2, k3⟩ := seqOf_rep S2 (IsK.v (k := true) i2) eq
          refine ⟨a, b, ws, us, rfl, rfl, hH2, ?_, by rw [← iw2.length, ← k3.length]; exact hz, o2.val (S2.write hl2 ⟨_, upd_same, iw2.append k3⟩) .non⟩
          rw [c.eK]
          cases bb with
          | true => exact .inl (k1 rfl)
          | false => exact .inr (k2 rfl)
        · exact o2.elim
      · exact o2.elim
    · exact o1.elim⟩
theorem de_pop (c : Cxt G n N sc X qc) (ho : DE G X k1 o eo) (hbase : attributeBase o "pop" X.env (eval o X.env) = eval o X.env := by rfl) (hline : (apos.endLine == cpos.line) = true := by rfl) :
    DE G X true (.Call (.Attribute o "pop" apos) [] [] cpos) (evPop eo) :=
  ⟨fun E W tk => PE.imp (pe_bm0 PySem.F.plainAttrs_list PySem.F.slot_list_pop PySem.F.type_list_pop mt_pop (ho.run E W tk) hbase hline) fun σ H Q h => by
    obtain ⟨F, ι, μ, ρ, S, o⟩ := h
    refine tE_bind S o fun F1 ι1 μ1 H1 d v S1 g1 i1 _ o1 => ?_
    split at o1
    · next l xs e1 =>
      obtain ⟨rfl, e1'⟩ := lstAt_eq e1
      obtain ⟨a, vs, rfl, hl, hH, iw⟩ := S1.cellL i1.v e1'
      split at o1
      · next d ed =>
        obtain ⟨w, ew, iv⟩ := iw.get ed
        refine ⟨.inl ⟨rfl, vs, .inl (.inl hH)⟩, a, vs, w, rfl, rfl, hH, by rw [← iw.length]; exact ew, ?_⟩
        exact o1.val (S1.write hl ⟨_, upd_same, iw.dropLast⟩) iv
      · exact o1.elim
    · exact o1.elim⟩
theorem de_popI (c : Cxt G n N sc X qc) (ho : DE G X k1 o eo) (he : DE G X true e ea)
    (hbase : attributeBase o "pop" X.env (eval o X.env) = eval o X.env := by rfl)
    (hfew : ((backTo cpos (starEach [e] X.env)).all (fun x => !x.1) && (backToKw cpos (keywordEach [] X.env)).all (fun x => x.1.isSome)
      && decide ([e].length + ([] : List Keyword).length + (if ([] : List Keyword).isEmpty then 0 else 1) < 30)) = true := by rfl)
    (hline : (apos.endLine == cpos.line) = true := by rfl) (hs : starEach [e] X.env = (false, eval e X.env) :: starEach [] X.env := by rfl) :
    DE G X true (.Call (.Attribute o "pop" apos) [e] [] cpos) (evPopI eo ea) :=
  ⟨fun E W tk => PE.imp (pe_bm PySem.F.plainAttrs_list PySem.F.slot_list_pop PySem.F.type_list_pop mt_popAt (ho.run E W tk) (pa_cons (he.run E W tk) pa_nil hs) hbase hfew hline hs) fun σ H Q h => by
    obtain ⟨F, ι, μ, ρ, S, o⟩ := h
    refine tE_bind S o fun F1 ι1 μ1 H1 d v S1 g1 i1 _ o1 => ?_
    split at o1
    · next lx e1 =>
      obtain ⟨l, xs⟩ := lx
      obtain ⟨rfl, e1'⟩ := lstAt_eq e1
      obtain ⟨a, vs, rfl, hl, hH, iw⟩ := S1.cellL i1.v e1'
      refine ⟨.inl ⟨rfl, vs, .inl (.inl hH)⟩, ?_⟩
      show tE G E true W ea σ H1 _
      refine tE_bind S1 o1 fun F2 ι2 μ2 H2 d2 v2 S2 g2 i2 hev o2 => ?_
      clear hev
      split at o2
      · next l2 ys i e2 =>
        obtain ⟨e3, e2'⟩ := lstAt_eq e2
        cases e3
        obtain ⟨a2, ws, e4, hl2, hH2, iw2⟩ := S2.cellL (i1.v.grow g2) e2'
        cases e4
        cases (show Is G F2 ι2 _ v2 from i2)
        split at o2
        · next hz =>
          split at o2
          · next d ed =>
            obtain ⟨w, ew, iv⟩ := iw2.get ed
            have hlt := (List.getElem?_eq_some_iff.mp ew).1
            refine ⟨a, ws, i, i.toNat, w, rfl, rfl, hH2, by omega, by omega, ?_, ew, o2.val (S2.write hl2 ⟨_, upd_same, iw2.eraseIdx _⟩) iv⟩
            unfold seqIndex?
            have a1 : ¬ i < 0 := by omega
            simp only [a1, if_false]
            have a2 : i < ws.length := by omega
            simp [a2, hz.1]
          · exact o2.elim
        · exact o2.elim
      · exact o2.elim
    · exact o1.elim⟩
end
/-- the suite of a try at the front -/
def handB : List Stmt → List Stmt
  | .Try _ [.ExceptHandler _ _ b _] _ _ _ :: _ => b
  | _ => []
theorem de_xnone {G : GC} {n : Nat} {N : List Str} {sc : Scope} {X : Cx} {qc : Bool} {k : Bool} {e : Expr} {ev : Ev} (h : ∀ ρ μ, ev ρ μ = .bad) : DE G X k e ev := ⟨fun E W tk => ⟨fun pins s σ H Q I h' => by
  obtain ⟨F, ι, μ, ρ, S, o⟩ := h'
  rw [h] at o
  exact o.elim⟩⟩
end PyI

set_option Elab.async false
set_option linter.all false
set_option maxRecDepth 100000
set_option maxHeartbeats 4000000
namespace PyI
open PySem
/-! ### plain helps -/
theorem str_inj {a b : String} : (Str.ofString a = Str.ofString b) = (a = b) := by
  refine propext ⟨fun h => ?_, fun h => by rw [h]⟩
  rw [Str.ofString_eq_toList, Str.ofString_eq_toList] at h
  have h2 : (a.toList.map Char.toNat).toArray = (b.toList.map Char.toNat).toArray := by injection h
  have h3 : a.toList.map Char.toNat = b.toList.map Char.toNat := by simpa using h2
  have h4 : ∀ {l m : List Char}, l.map Char.toNat = m.map Char.toNat → l = m := by
    intro l
    induction l with
    | nil => intro m h; cases m with
      | nil => rfl
      | cons c m => simp at h
    | cons c l ih => intro m h; cases m with
      | nil => simp at h
      | cons d m =>
        simp only [List.map_cons, List.cons.injEq] at h
        have : c = d := Char.ext (UInt32.toNat_inj.mp h.1)
        rw [this, ih h.2]
  exact String.toList_inj.mp (h4 h3)
theorem ga0 {α : Type} (μ l : List α) : (μ ++ l)[μ.length]? = l[0]? := by simp [List.getElem?_append_right]
theorem ga1 {α : Type} (μ l : List α) (k : Nat) : (μ ++ l)[μ.length + k]? = l[k]? := by simp [List.getElem?_append_right]
theorem sa0 {α : Type} (μ l : List α) (c : α) : (μ ++ l).set μ.length c = μ ++ l.set 0 c := by simp [List.set_append_right]
theorem sa1 {α : Type} (μ l : List α) (k : Nat) (c : α) : (μ ++ l).set (μ.length + k) c = μ ++ l.set k c := by simp [List.set_append_right]
theorem f_nx {N : List Str} {ds : List D} {s : Es} {ρ' : Sls} {μ μ' : Mem} (h : s (stS N ds) μ = .ok (.nx, ρ') μ') : finF N s ds μ = .ok .non μ' := by simp [finF, h]
theorem nx_seq {s t : Es} {ρ ρ1 ρ2 : Sls} {μ μ1 μ2 : Mem} (h1 : s ρ μ = .ok (.nx, ρ1) μ1) (h2 : t ρ1 μ1 = .ok (.nx, ρ2) μ2) : sSq s t ρ μ = .ok (.nx, ρ2) μ2 := by rw [n_sq h1, h2]
theorem szl {n : Nat} (h : n ≤ 100000) : n ≤ sizeLine := by rw [sizeLine_eq]; omega
/-! enumerate -/
def enuFrom (k : Nat) : List D → List D
  | [] => []
  | d :: r => .tup [.int (k : Nat), d] :: enuFrom (k + 1) r
theorem enu_from (ds : List D) : ∀ k, (List.range ds.length).map (fun i => D.tup [.int ((k + i : Nat) : Int), ds.getD i .non]) = enuFrom k ds := by
  induction ds with
  | nil => intro k; rfl
  | cons d r ih =>
    intro k
    have h : (List.range r.length).map ((fun i : Nat => D.tup [.int ((k + i : Nat) : Int), (d :: r).getD i .non]) ∘ Nat.succ) = enuFrom (k + 1) r := by
      rw [← ih (k + 1)]
      refine List.map_congr_left fun i _ => ?_
      have e : k + i.succ = k + 1 + i := by omega
      simp only [Function.comp, List.getD_cons_succ, e]
    rw [List.length_cons, List.range_succ_eq_map, List.map_cons, List.map_map, h]
    rfl
theorem enuD_from (ds : List D) : enuD ds = enuFrom 0 ds := by
  rw [← enu_from ds 0]
  simp [enuD]
theorem putG_new {kvs : List (Option L2.Key × D)} {k : Option L2.Key} {d : D} (h : (kvs.any fun kv => decide (kv.1 = k)) = false) : putG kvs k d = kvs ++ [(k, d)] := by simp [putG, h]
/-! equality of flat things -/
theorem eqStr (μ : Mem) (a b : Str) : eqD μ (.str a) (.str b) = some (.bl (decide (a = b))) := rfl
theorem neStr (μ : Mem) (a b : Str) : neD μ (.str a) (.str b) = some (.bl (!decide (a = b))) := rfl
theorem eqIS (μ : Mem) (a : Int) (b : Str) (hb : (PyData.str b).canLay0 = true) : eqD μ (.int a) (.str b) = some (.bl false) := by
  have h2 : PyData.strOk b = true := hb
  simp [eqD, eqP, pyOf, toPy, SeqAt.shaped, h2, PyData.canLay0, PyData.depth, PyData.eqv]
theorem lay_end : (PyData.str (Str.ofString "end")).canLay0 = true := by decide +kernel
theorem lay_ever : (PyData.str (Str.ofString "ever")).canLay0 = true := by decide +kernel
/-! an object's fields -/
theorem fld_ok {μ μ' : Mem} {ρ : Sls} {ea : Ev} {c l : Nat} {f : Str} {fs : List (Str × D)} {d : D} (h : ea ρ μ = .ok (.cell l) μ') (h1 : μ'[l]? = some (.ins c fs)) (h2 : fs.lookup f = some d) : evFld c f ea ρ μ = .ok d μ' := by
  simp [evFld, h, Out.bind, insAt, h1, h2]
theorem setF_ok {μ μ1 μ' : Mem} {ρ : Sls} {eo ev : Ev} {c l : Nat} {f : Str} {fs : List (Str × D)} {d : D} (h0 : ev ρ μ = .ok d μ1) (h : eo ρ μ1 = .ok (.cell l) μ') (h1 : μ'[l]? = some (.ins c fs)) (h2 : fs.length < 1000) : sAs ev (gFl c f eo) ρ μ = .ok (.nx, ρ) (μ'.set l (.ins c (putD f d fs))) := by
  simp [sAs, gFl, h0, h, Out.bind, insAt, h1, h2]
/-! what is raised -/
section
variable {N : List Str} {ds es : List D} {s t : Es} {ρ ρ1 : Sls} {μ μ1 μ' : Mem} {c : Nat} {ec ea : Ev} {d : D}
theorem e_fin (h : s (stS N ds) μ = .exc c es μ') : finF N s ds μ = .exc c es μ' := by simp [finF, h]
theorem e_seq (h : s ρ μ = .ok (.nx, ρ1) μ1) (h2 : t ρ1 μ1 = .exc c es μ') : sSq s t ρ μ = .exc c es μ' := by rw [n_sq h, h2]
theorem e_seqR (h : s ρ μ = .exc c es μ') : sSq s t ρ μ = .exc c es μ' := by simp [sSq, h, Out.bind]
theorem n_pass (h : ec ρ μ = .ok (.bl false) μ1) : sIf ec s sNx ρ μ = .ok (.nx, ρ) μ1 := by rw [n_ifF h]; rfl
theorem e_raise (h : ea ρ μ = .ok d μ1) : sRs c ea ρ μ = .exc c [d] μ1 := by simp [sRs, h, Out.bind]
theorem n_ex (h : ea ρ μ = .ok d μ1) : sEx ea ρ μ = .ok (.nx, ρ) μ1 := by simp [sEx, h, Out.bind]
theorem e_ex (h : ea ρ μ = .exc c es μ1) : sEx ea ρ μ = .exc c es μ1 := by simp [sEx, h, Out.bind]
theorem e_rt (h : ea ρ μ = .exc c es μ1) : sRt ea ρ μ = .exc c es μ1 := by simp [sRt, h, Out.bind]
/-! calls -/
variable {fn : Fun} {r : Out D} {x y z : D} {eb ed : Ev} {μ2 μ3 : Mem}
theorem c1 (h : ea ρ μ = .ok x μ1) (h2 : fn [x] μ1 = r) : evCall fn 1 0 [some 0] (evCons ea evNil) evNil ρ μ = r := by subst h2; simp [evCall, evCons, h, evNil, Out.bind, pick]
theorem c2 (h : ea ρ μ = .ok x μ1) (h1 : eb ρ μ1 = .ok y μ2) (h2 : fn [x, y] μ2 = r) : evCall fn 2 0 [some 0, some 1] (evCons ea (evCons eb evNil)) evNil ρ μ = r := by subst h2; simp [evCall, evCons, h, h1, evNil, Out.bind, pick]
theorem c11 (h : ea ρ μ = .ok x μ1) (h1 : eb ρ μ1 = .ok y μ2) (h2 : fn [x, y] μ2 = r) : evCall fn 1 1 [some 0, some 1] (evCons ea evNil) (evCons eb evNil) ρ μ = r := by subst h2; simp [evCall, evCons, h, h1, evNil, Out.bind, pick]
theorem c01 (h : ea ρ μ = .ok x μ1) (h2 : fn [x] μ1 = r) : evCall fn 0 1 [some 0] evNil (evCons ea evNil) ρ μ = r := by subst h2; simp [evCall, evCons, h, evNil, Out.bind, pick]
theorem c3 (h : ea ρ μ = .ok x μ1) (h1 : eb ρ μ1 = .ok y μ2) (h3 : ed ρ μ2 = .ok z μ3) (h2 : fn [x, y, z] μ3 = r) : evCall fn 3 0 [some 0, some 1, some 2] (evCons ea (evCons eb (evCons ed evNil))) evNil ρ μ = r := by subst h2; simp [evCall, evCons, h, h1, h3, evNil, Out.bind, pick]
end
theorem refX {R : Nat → List D → Option D} {told d : D} {ea : Ev} {ρ : Sls} {μ μ' : Mem} {c : Nat} {ds : List D} (h : ea ρ μ = .exc c ds μ') (hr : R c ds = some d) : evRefX R told ea ρ μ = .ok d μ' := by simp [evRefX, h, hr]
theorem refX_ok {R : Nat → List D → Option D} {told d : D} {ea : Ev} {ρ : Sls} {μ μ' : Mem} (h : ea ρ μ = .ok d μ') : evRefX R told ea ρ μ = .ok told μ' := by simp [evRefX, h]
theorem add_T (a b : List D) (h : a.length + b.length ≤ 100000) : addD (.tup a) (.tup b) = some (.tup (a ++ b)) := if_pos (szl h)
theorem add_L (a b : List D) (h : a.length + b.length ≤ 100000) : addD (.lst a) (.lst b) = some (.lst (a ++ b)) := if_pos (szl h)
end PyI

set_option Elab.async false
set_option linter.all false
set_option maxRecDepth 100000
set_option maxHeartbeats 4000000
namespace W74
open PySem PySem.Spec PyProof.Rows L2 PyI
def top (i : Nat) : Stmt := PySem.Challenge.pw_stilltwins_k74_whole_webs_laid.main.body.getD i (.Pass ⟨0, 0, 0, 0⟩)
def mth (i j : Nat) : Stmt := inClass (top i) j
structure Hy (G : GC) : Prop where
  fd__law_pail : ∃ fd, FunD G.K "_law_pail" "_law_pail" (defArgs (top 45)) (defBody (top 45)) (defScope (top 45)) [] [] (G.fa 45) fd
  m__law_pail : G.mg "_law_pail" = some (.ref (G.fa 45))
  fd_is_tuple_of : ∃ fd, FunD G.K "is_tuple_of" "is_tuple_of" (defArgs (top 15)) (defBody (top 15)) (defScope (top 15)) [] [] (G.fa 15) fd
  m_is_tuple_of : G.mg "is_tuple_of" = some (.ref (G.fa 15))
  fd_is_short_tuple : ∃ fd, FunD G.K "is_short_tuple" "is_short_tuple" (defArgs (top 16)) (defBody (top 16)) (defScope (top 16)) [] [] (G.fa 16) fd
  m_is_short_tuple : G.mg "is_short_tuple" = some (.ref (G.fa 16))
  fd_is_end : ∃ fd, FunD G.K "is_end" "is_end" (defArgs (top 26)) (defBody (top 26)) (defScope (top 26)) [] [] (G.fa 26) fd
  m_is_end : G.mg "is_end" = some (.ref (G.fa 26))
  fd_is_whole : ∃ fd, FunD G.K "is_whole" "is_whole" (defArgs (top 12)) (defBody (top 12)) (defScope (top 12)) [] [] (G.fa 12) fd
  m_is_whole : G.mg "is_whole" = some (.ref (G.fa 12))
  fd_is_number : ∃ fd, FunD G.K "is_number" "is_number" (defArgs (top 13)) (defBody (top 13)) (defScope (top 13)) (List.replicate 1 V.non) [] (G.fa 13) fd
  m_is_number : G.mg "is_number" = some (.ref (G.fa 13))
  fd_is_goal : ∃ fd, FunD G.K "is_goal" "is_goal" (defArgs (top 27)) (defBody (top 27)) (defScope (top 27)) [] [] (G.fa 27) fd
  m_is_goal : G.mg "is_goal" = some (.ref (G.fa 27))
  fd_is_way : ∃ fd, FunD G.K "is_way" "is_way" (defArgs (top 28)) (defBody (top 28)) (defScope (top 28)) [] [] (G.fa 28) fd
  m_is_way : G.mg "is_way" = some (.ref (G.fa 28))
  fd_is_node : ∃ fd, FunD G.K "is_node" "is_node" (defArgs (top 29)) (defBody (top 29)) (defScope (top 29)) [] [] (G.fa 29) fd
  m_is_node : G.mg "is_node" = some (.ref (G.fa 29))
  fd_is_web_form : ∃ fd, FunD G.K "is_web_form" "is_web_form" (defArgs (top 30)) (defBody (top 30)) (defScope (top 30)) [] [] (G.fa 30) fd
  m_is_web_form : G.mg "is_web_form" = some (.ref (G.fa 30))
  fd_check_web : ∃ fd, FunD G.K "check_web" "check_web" (defArgs (top 37)) (defBody (top 37)) (defScope (top 37)) [] [] (G.fa 37) fd
  m_check_web : G.mg "check_web" = some (.ref (G.fa 37))
  fd_is_word : ∃ fd, FunD G.K "is_word" "is_word" (defArgs (top 14)) (defBody (top 14)) (defScope (top 14)) [] [] (G.fa 14) fd
  m_is_word : G.mg "is_word" = some (.ref (G.fa 14))
  fd_first_wrong : ∃ fd, FunD G.K "first_wrong" "first_wrong" (defArgs (top 17)) (defBody (top 17)) (defScope (top 17)) [] [] (G.fa 17) fd
  m_first_wrong : G.mg "first_wrong" = some (.ref (G.fa 17))
  fd_wrong_cells : ∃ fd, FunD G.K "wrong_cells" "wrong_cells" (defArgs (top 18)) (defBody (top 18)) (defScope (top 18)) [] [] (G.fa 18) fd
  m_wrong_cells : G.mg "wrong_cells" = some (.ref (G.fa 18))
  fd_check_cells : ∃ fd, FunD G.K "check_cells" "check_cells" (defArgs (top 20)) (defBody (top 20)) (defScope (top 20)) [] [] (G.fa 20) fd
  m_check_cells : G.mg "check_cells" = some (.ref (G.fa 20))
  fd_check_both : ∃ fd, FunD G.K "check_both" "check_both" (defArgs (top 39)) (defBody (top 39)) (defScope (top 39)) [] [] (G.fa 39) fd
  m_check_both : G.mg "check_both" = some (.ref (G.fa 39))
  fd_has_all_cells : ∃ fd, FunD G.K "has_all_cells" "has_all_cells" (defArgs (top 35)) (defBody (top 35)) (defScope (top 35)) [] [] (G.fa 35) fd
  m_has_all_cells : G.mg "has_all_cells" = some (.ref (G.fa 35))
  fd_check_fit : ∃ fd, FunD G.K "check_fit" "check_fit" (defArgs (top 40)) (defBody (top 40)) (defScope (top 40)) [] [] (G.fa 40) fd
  m_check_fit : G.mg "check_fit" = some (.ref (G.fa 40))
  fd_Laying_all_ways : ∃ fd, FunD G.K "all_ways" "Laying.all_ways" (defArgs (mth 34 1)) (defBody (mth 34 1)) (defScope (mth 34 1)) [] [] (G.fa 1681) fd
  fd_Laying___init__ : ∃ fd, FunD G.K "__init__" "Laying.__init__" (defArgs (mth 34 0)) (defBody (mth 34 0)) (defScope (mth 34 0)) [] [] (G.fa 1680) fd
  fd_Laying_size : ∃ fd, FunD G.K "size" "Laying.size" (defArgs (mth 34 4)) (defBody (mth 34 4)) (defScope (mth 34 4)) [] [] (G.fa 1684) fd
  fd_Laying_moved : ∃ fd, FunD G.K "moved" "Laying.moved" (defArgs (mth 34 2)) (defBody (mth 34 2)) (defScope (mth 34 2)) [] [] (G.fa 1682) fd
  fd_Laying_node_rows : ∃ fd, FunD G.K "node_rows" "Laying.node_rows" (defArgs (mth 34 3)) (defBody (mth 34 3)) (defScope (mth 34 3)) [] [] (G.fa 1683) fd
  fd_Laying_laid_image : ∃ fd, FunD G.K "laid_image" "Laying.laid_image" (defArgs (mth 34 5)) (defBody (mth 34 5)) (defScope (mth 34 5)) [] [] (G.fa 1685) fd
  fd_image_with_room : ∃ fd, FunD G.K "image_with_room" "image_with_room" (defArgs (top 41)) (defBody (top 41)) (defScope (top 41)) [] [] (G.fa 41) fd
  m_image_with_room : G.mg "image_with_room" = some (.ref (G.fa 41))
  fd_laid : ∃ fd, FunD G.K "laid" "laid" (defArgs (top 43)) (defBody (top 43)) (defScope (top 43)) [] [] (G.fa 43) fd
  m_laid : G.mg "laid" = some (.ref (G.fa 43))
  fd__law_same : ∃ fd, FunD G.K "_law_same" "_law_same" (defArgs (top 49)) (defBody (top 49)) (defScope (top 49)) [] [] (G.fa 49) fd
  m__law_same : G.mg "_law_same" = some (.ref (G.fa 49))
  fd_laid_size : ∃ fd, FunD G.K "laid_size" "laid_size" (defArgs (top 42)) (defBody (top 42)) (defScope (top 42)) [] [] (G.fa 42) fd
  m_laid_size : G.mg "laid_size" = some (.ref (G.fa 42))
  fd__law_known_right : ∃ fd, FunD G.K "_law_known_right" "_law_known_right" (defArgs (top 54)) (defBody (top 54)) (defScope (top 54)) [] [] (G.fa 54) fd
  m__law_known_right : G.mg "_law_known_right" = some (.ref (G.fa 54))
  fd__law_deal : ∃ fd, FunD G.K "_law_deal" "_law_deal" (defArgs (top 46)) (defBody (top 46)) (defScope (top 46)) [] [] (G.fa 46) fd
  m__law_deal : G.mg "_law_deal" = some (.ref (G.fa 46))
  fd__law_any : ∃ fd, FunD G.K "_law_any" "_law_any" (defArgs (top 47)) (defBody (top 47)) (defScope (top 47)) [] [] (G.fa 47) fd
  m__law_any : G.mg "_law_any" = some (.ref (G.fa 47))
  fd__law_web : ∃ fd, FunD G.K "_law_web" "_law_web" (defArgs (top 51)) (defBody (top 51)) (defScope (top 51)) [] [] (G.fa 51) fd
  m__law_web : G.mg "_law_web" = some (.ref (G.fa 51))
  fd__law_cells : ∃ fd, FunD G.K "_law_cells" "_law_cells" (defArgs (top 52)) (defBody (top 52)) (defScope (top 52)) [] [] (G.fa 52) fd
  m__law_cells : G.mg "_law_cells" = some (.ref (G.fa 52))
  fd__law_laid : ∃ fd, FunD G.K "_law_laid" "_law_laid" (defArgs (top 48)) (defBody (top 48)) (defScope (top 48)) [] [] (G.fa 48) fd
  m__law_laid : G.mg "_law_laid" = some (.ref (G.fa 48))
  fd__law_swapped : ∃ fd, FunD G.K "_law_swapped" "_law_swapped" (defArgs (top 50)) (defBody (top 50)) (defScope (top 50)) [] [] (G.fa 50) fd
  m__law_swapped : G.mg "_law_swapped" = some (.ref (G.fa 50))
  fd__law_refused : ∃ fd, FunD G.K "_law_refused" "_law_refused" (defArgs (top 53)) (defBody (top 53)) (defScope (top 53)) [] [] (G.fa 53) fd
  m__law_refused : G.mg "_law_refused" = some (.ref (G.fa 53))
  fd__law_right : ∃ fd, FunD G.K "_law_right" "_law_right" (defArgs (top 55)) (defBody (top 55)) (defScope (top 55)) [] [] (G.fa 55) fd
  m__law_right : G.mg "_law_right" = some (.ref (G.fa 55))
  fd_law : ∃ fd, FunD G.K "law" "law" (defArgs (top 56)) (defBody (top 56)) (defScope (top 56)) [] [] (G.fa 56) fd
  m_law : G.mg "law" = some (.ref (G.fa 56))
  no_abs : G.mg "abs" = none
  no_all : G.mg "all" = none
  no_bool : G.mg "bool" = none
  no_divmod : G.mg "divmod" = none
  no_enumerate : G.mg "enumerate" = none
  no_int : G.mg "int" = none
  no_isinstance : G.mg "isinstance" = none
  no_len : G.mg "len" = none
  no_list : G.mg "list" = none
  no_range : G.mg "range" = none
  no_repr : G.mg "repr" = none
  no_str : G.mg "str" = none
  no_tuple : G.mg "tuple" = none
  c_END : GloD G "END" (.str "end")
  c_EVER : GloD G "EVER" (.str "ever")
  c_INPUT : GloD G "INPUT" (.int 1022)
  c_LAST : GloD G "LAST" (.int 1023)
  c_LEAST_CELLS : GloD G "LEAST_CELLS" (.int 3)
  c_MOST_CELL : GloD G "MOST_CELL" (.int 999)
  c_MOST_CELLS : GloD G "MOST_CELLS" (.int 1000)
  c_MOST_NODES : GloD G "MOST_NODES" (.int 4000)
  c_OUTPUT : GloD G "OUTPUT" (.int 1023)
  c_ROUND : GloD G "ROUND" (.int 1024)
  c_ROW_CELLS : GloD G "ROW_CELLS" (.int 3)
  cl_Laying : Cls G.K (G.ca 34)
  na_Laying_end_row : NoAttr G.K (G.ca 34) "end_row"
  na_Laying_has_ever : NoAttr G.K (G.ca 34) "has_ever"
  na_Laying_nought : NoAttr G.K (G.ca 34) "nought"
  na_Laying_own_cells : NoAttr G.K (G.ca 34) "own_cells"
  na_Laying_own_start : NoAttr G.K (G.ca 34) "own_start"
  na_Laying_places : NoAttr G.K (G.ca 34) "places"
  na_Laying_web_nodes : NoAttr G.K (G.ca 34) "web_nodes"
  me_Laying_all_ways : Meth G.K (G.ca 34) "all_ways" (G.fa 1681)
  me_Laying_laid_image : Meth G.K (G.ca 34) "laid_image" (G.fa 1685)
  me_Laying_moved : Meth G.K (G.ca 34) "moved" (G.fa 1682)
  me_Laying_node_rows : Meth G.K (G.ca 34) "node_rows" (G.fa 1683)
  me_Laying_size : Meth G.K (G.ca 34) "size" (G.fa 1684)
  mk_Laying : Mk G.K (G.ca 34) (G.fa 1680)
  m_Laying : G.mg "Laying" = some (.ref (G.ca 34))
  s_InvalidWeb : SupC G.P G.K G.mg (G.ca 2) "given"
  x_InvalidWeb : G.xf 2 = [("given" : Str)]
  m_InvalidWeb : G.mg "InvalidWeb" = some (.ref (G.ca 2))
  s_DoesNotFit : SupC G.P G.K G.mg (G.ca 3) "given"
  x_DoesNotFit : G.xf 3 = [("given" : Str)]
  m_DoesNotFit : G.mg "DoesNotFit" = some (.ref (G.ca 3))
  s_TooGreat : SupC G.P G.K G.mg (G.ca 4) "given"
  x_TooGreat : G.xf 4 = [("given" : Str)]
  m_TooGreat : G.mg "TooGreat" = some (.ref (G.ca 4))
  s_InvalidCells : SupC G.P G.K G.mg (G.ca 5) "index"
  x_InvalidCells : G.xf 5 = [("index" : Str)]
  m_InvalidCells : G.mg "InvalidCells" = some (.ref (G.ca 5))
  t__law_right : TabD G (G.fa 55) ((envOfC "_law_right" (defScope (top 55)) 0 0 .none).qual)
  xcs__law_refused : XCs G 1 [(3, ["given"]), (4, ["given"])]
  m_TwinError : G.mg "TwinError" = some (.ref (G.ca 1))
  no_ValueError : G.mg "ValueError" = none
/-! ### _law_refused -/
def N__law_refused : List Str := ["act", "e", "sorts"]
theorem sc__law_refused : FnScope N__law_refused ["act"] (defScope (top 53)) := ⟨rfl, rfl, rfl, by decide +kernel, rfl, by decide +kernel, by decide +kernel⟩
def R__law_refused : Nat → List D → Option D := fun c ds => match c, ds with
  | 3, [d] => some (.lst [.str "fit", d])
  | 4, [d] => some (.lst [.str "great", d])
  | _, _ => none
def told__law_refused : D := .non
def xns__law_refused : Nat → List Str := fun c => match c with
  | 3 => ["given"]
  | 4 => ["given"]
  | _ => []
theorem de_xfd__law_refused_given {G : GC} (h : Hy G) {n : Nat} {X : Cx} {qc : Bool} {a dd : Addr} {ci : Nat} {ns : List Str} {p pos : Pos} (c : Cxt G n N__law_refused (defScope (top 53)) X qc) (i : Nat) (hm : (ci, ns) ∈ ([(3, ["given"]), (4, ["given"])] : List (Nat × List Str))) (S0 : Ste G X a dd ci) (hi : i = 1 := by rfl) : DE G X true (.Attribute (.Name "e" p) "given" pos) (evXF i a dd ci (xns__law_refused ci) "given") := by
  subst hi
  have hm' := hm
  simp only [List.mem_cons, List.not_mem_nil, or_false, Prod.mk.injEq] at hm'
  rcases hm' with ⟨rfl, rfl⟩ | ⟨rfl, rfl⟩
  · exact de_xf c 1 h.xcs__law_refused hm (by decide) S0
  · exact de_xf c 1 h.xcs__law_refused hm (by decide) S0
def es_x__law_refused (a dd : Addr) (ci : Nat) : Es := (sSq (sAs (evLst (evCons (evXI 1 a dd ci (decide (ci = 3))) (evCons (evXI 1 a dd ci (decide (ci = 4))) evNil))) (gNm 2)) (sSq (sIf (evOr (evOp (cmpF .NotEq) (evCnt (evV 2) (evC (.bl true))) (evC (.int 1))) (evNot (evXI 1 a dd ci true))) (sRt (evLst (evCons (evC (.str "odd")) (evCons (evC .non) evNil)))) sNx) (sRt (evLst (evCons (evOp subscD (evLst (evCons (evC (.str "fit")) (evCons (evC (.str "great")) evNil))) (evIdx (evV 2) (evC (.bl true)))) (evCons (evXF 1 a dd ci (xns__law_refused ci) "given") evNil))))))
def er_x__law_refused : Es := (sRt (evC .non))
theorem hsu__law_refused {G : GC} (h : Hy G) {n : Nat} (X : Cx) (a dd : Addr) (ci : Nat) (ns : List Str) (hm : (ci, ns) ∈ ([(3, ["given"]), (4, ["given"])] : List (Nat × List Str))) (c : Cxt G n N__law_refused (defScope (top 53)) X false) (S0 : Ste G X a dd ci) : DSs G X (handB (defBody (top 53))) (es_x__law_refused a dd ci) :=
  (dss_cons (es_set c 2 (de_lst (da_cons (de_xi c 1 3 h.xcs__law_refused hm (List.mem_iff_get.mpr ⟨⟨0, by decide⟩, rfl⟩) S0 h.no_isinstance h.m_DoesNotFit) (da_cons (de_xi c 1 4 h.xcs__law_refused hm (List.mem_iff_get.mpr ⟨⟨1, by decide⟩, rfl⟩) S0 h.no_isinstance h.m_TooGreat) da_nil)))) (dss_cons (ds_if (DW.t (dw_or (dt_cmp c (de_cnt c (de_var c 2) de_bl) de_int) (dw_or1 (dt_not (dt_val (de_xve c 1 h.xcs__law_refused hm S0 h.no_isinstance h.no_ValueError)))))) (dss_one (ds_rt (de_lst (da_cons de_str (da_cons de_non da_nil))))) dss_nil) (dss_one (ds_rt (de_lst (da_cons (de_ix c (de_lst (da_cons de_str (da_cons de_str da_nil))) (de_idx c (de_var c 2) de_bl)) (da_cons (de_xfd__law_refused_given h c 1 hm S0) da_nil)))))))
theorem hre__law_refused {G : GC} (h : Hy G) {n : Nat} (X : Cx) (c : Cxt G n N__law_refused (defScope (top 53)) X false) : DSs G X ((defBody (top 53)).drop 1) er_x__law_refused :=
  (dss_one (ds_rt de_non))
theorem rx__law_refused (a dd : Addr) (ci : Nat) (ds : List D) (d : D) (μ : Mem) (hr : R__law_refused ci ds = some d) : ∃ ρ', es_x__law_refused a dd ci ((List.replicate N__law_refused.length .un).set 1 (.v (.exn a dd ci ds))) μ = .ok (.rt d, ρ') μ := by
  unfold R__law_refused at hr
  split at hr
  all_goals cases hr
  all_goals simp [es_x__law_refused, N__law_refused, xns__law_refused, evXI, evXF, evCnt, evIdx, boolsD, flatV?, flatVs, L2.eqV, sSq, sAs, gNm, evLst, evCons, evNil, sIf, evOr, evAnd, evNot, evIte, evOp, evV, evC, sNx, sRt, Out.bind, sizeLine_eq, cmpF, neD, eqD, eqP, pyOf, toPy, SeqAt.shaped, PyData.canLay0, PyData.depth, PyData.eqv, subscD, seqOf, L2.atI, L2.ixN, List.count, List.countP, List.countP.go, List.findIdx?, List.findIdx?.go, List.lookup]
theorem rc__law_refused (ci : Nat) (ds : List D) (d : D) (hr : R__law_refused ci ds = some d) : ∃ ns, (ci, ns) ∈ ([(3, ["given"]), (4, ["given"])] : List (Nat × List Str)) := by
  unfold R__law_refused at hr
  split at hr
  all_goals cases hr
  all_goals first | exact ⟨_, .head _⟩ | exact ⟨_, .tail _ (.head _)⟩
theorem ref__law_refused {G : GC} (h : Hy G) {n k i : Nat} {N : List Str} {sc scope : Scope} {X : Cx} {own : Str} {params : Arguments} {body : Expr} {ea : Ev} {p lpos pos : Pos} (c : Cxt G n N sc X) (lm : Lmb G.K (G.fa i) own X) (T : TabD G (G.fa i) X.env.qual)
    (hbody : ∀ X', Cxt G k N scope X' → DE G X' true body ea) (hk : k < 100 := by decide) (hn : k + 2 ≤ n := by decide) (L : LamX.lamSB sc scope = true := by rfl) (hdef : defaultsOf params X.env = ([], []) := by rfl)
    (hbind : ∀ (q : Str) (cl : List (Str × Addr)) (pm cv ctv : Value), bindArgs (PySem.W.kla_fn "<lambda>" q params body scope cl pm cv ctv) ⟨[], []⟩ = pure [] := by intros; rfl) (hg : gloB sc "_law_refused" = true := by rfl) :
    DE G X true (.Call (.Name "_law_refused" p) [.Lambda params body scope lpos] [] pos) (evRefX R__law_refused told__law_refused ea) := by
  obtain ⟨fd, FD⟩ := h.fd__law_refused
  exact de_refusedx c 53 i (a := "act") (Ng := N__law_refused) (cs := [(3, ["given"]), (4, ["given"])]) lm T FD h.m__law_refused (FD.bindsN fun _ _ _ _ _ _ us hl => match us, hl with | [_], _ => rfl) sc__law_refused rfl (.inl rfl)
    (fun cdv => gives_x (n := n) (R := R__law_refused) (told := told__law_refused) (es := es_x__law_refused) (er := er_x__law_refused) c 1 h.xcs__law_refused rfl sc__law_refused.nd rfl rfl rfl h.m_TwinError (by decide) (hsu__law_refused h)
      (fun a dd ci ds d μ hr => rx__law_refused a dd ci ds d μ hr)
      (hre__law_refused h) (fun μ => ⟨List.replicate N__law_refused.length .un, by simp [er_x__law_refused, told__law_refused, sRt, evC, evLst, evCons, evNil, Out.bind, sizeLine_eq]⟩) (fun env => rfl))
    (rc__law_refused)
    hbody hk hn L hdef hbind hg (by decide) (by decide) (by decide)
/-! ### _law_pail -/
def N__law_pail : List Str := ["script", "turn", "cell", "mixed", "own"]
/-- cell -/
abbrev lt__law_pail_1 : Tg := (gNm 2)
/-- for cell in script[:12]: -/
abbrev lb__law_pail_1 : Es := (sAs (evOp (fun _ => binF .Mod) (evBi intD (evCons (evOp (fun _ => binF .Add) (evOp (fun _ => binF .Add) (evOp (fun _ => binF .Mult) (evV 3) (evC (.int 64409))) (evOp (fun _ => binF .Mult) (evOp (fun _ => binF .Mod) (evBi intD (evCons (evV 2) evNil)) (evC (.int 2147483423))) (evC (.int 31)))) (evC (.int 13))) evNil)) (evC (.int 2147483423))) (gNm 3))
abbrev es__law_pail : Es := (sSq (sAs (evOp (fun _ => binF .Add) (evC (.int 1400017)) (evOp (fun _ => binF .Mult) (evC (.int 10501)) (evV 1))) (gNm 3)) (sSq (sFor (evSqL (evSlice (evV 0) evNo (evSo (evC (.int 12))))) lt__law_pail_1 lb__law_pail_1) (sSq (sAs (evIte (evOp (cmpF .Lt) (evV 1) (evBi lenD (evCons (evV 0) evNil))) (evBi intD (evCons (evOp subscD (evV 0) (evV 1)) evNil)) (evC (.int 0))) (gNm 4)) (sSq (sAs (evOp (fun _ => binF .Mod) (evBi intD (evCons (evOp (fun _ => binF .Add) (evOp (fun _ => binF .Add) (evOp (fun _ => binF .Mult) (evV 3) (evC (.int 61))) (evOp (fun _ => binF .Mult) (evOp (fun _ => binF .Mod) (evBi intD (evCons (evV 4) evNil)) (evC (.int 2147483423))) (evC (.int 30011)))) (evC (.int 7))) evNil)) (evC (.int 2147483423))) (gNm 3)) (sRt (evLstC (evCons (evIte (evOr (evOp (cmpF .Lt) (evV 4) (evC (.int 0))) (evOp (cmpF .GtE) (evV 4) (evOp (fun _ => binF .Pow) (evC (.int 10)) (evC (.int 15))))) (evBi absD (evCons (evV 4) evNil)) (evC (.int 0))) (evCons (evV 3) (evCons (evC (.int 0)) evNil)))))))))
def F__law_pail : Fun := finF N__law_pail es__law_pail
theorem sc__law_pail : FnScope N__law_pail ["script", "turn"] (defScope (top 45)) := ⟨rfl, rfl, rfl, by decide +kernel, rfl, by decide +kernel, by decide +kernel⟩
theorem body__law_pail {G : GC} (h : Hy G) {X : Cx} (c : Cxt G 0 N__law_pail (defScope (top 45)) X) (B : Bdy X) : DSs G X (defBody (top 45)) es__law_pail :=
  (dss_cons (es_set c 3 (de_op c de_int (de_op c de_int (de_var c 1)))) (dss_cons (ds_for c (di_lst c (de_slice c (de_var c 0) do_no (do_some de_int))) (dg_nm c 2) (dss_one (es_set c 3 (de_op c (de_bt c (call_intD) h.no_int bt_int (da_cons (de_op c (de_op c (de_op c (de_var c 3) de_int) (de_op c (de_op c (de_bt c (call_intD) h.no_int bt_int (da_cons (de_var c 2) da_nil)) de_int) de_int)) de_int) da_nil)) de_int)))) (dss_cons (es_set c 4 (de_ite (dt_cmp c (de_var c 1) (de_bi c (call_lenD c) h.no_len bt_len (da_cons (de_var c 0) da_nil))) (de_bt c (call_intD) h.no_int bt_int (da_cons (de_ix c (de_var c 0) (de_var c 1)) da_nil)) de_int)) (dss_cons (es_set c 3 (de_op c (de_bt c (call_intD) h.no_int bt_int (da_cons (de_op c (de_op c (de_op c (de_var c 3) de_int) (de_op c (de_op c (de_bt c (call_intD) h.no_int bt_int (da_cons (de_var c 4) da_nil)) de_int) de_int)) de_int) da_nil)) de_int)) (dss_one (ds_rt (de_lstC (da_cons (de_ite (DW.t (dw_or (dt_cmp c (de_var c 4) de_int) (dw_or1 (dt_cmp c (de_var c 4) (de_op c de_int de_int))))) (de_bi c (call_absD) h.no_abs bt_abs (da_cons (de_var c 4) da_nil)) de_int) (da_cons (de_var c 3) (da_cons de_int da_nil))))))))))
theorem fn__law_pail {G : GC} (h : Hy G) : FnC G 1 45 "_law_pail" (top 45) [] ["script", "turn"] F__law_pail := by
  obtain ⟨fd, FD⟩ := h.fd__law_pail
  exact fnC_of FD h.m__law_pail sc__law_pail fun X c B lm => body__law_pail h c B
/-! ### is_tuple_of -/
def N_is_tuple_of : List Str := ["value", "many"]
abbrev es_is_tuple_of : Es := (sRt (evAnd (evIsi "tuple" (evV 0)) (evOp (cmpF .Eq) (evBi lenD (evCons (evV 0) evNil)) (evV 1))))
def F_is_tuple_of : Fun := finF N_is_tuple_of es_is_tuple_of
theorem sc_is_tuple_of : FnScope N_is_tuple_of ["value", "many"] (defScope (top 15)) := ⟨rfl, rfl, rfl, by decide +kernel, rfl, by decide +kernel, by decide +kernel⟩
theorem body_is_tuple_of {G : GC} (h : Hy G) {X : Cx} (c : Cxt G 0 N_is_tuple_of (defScope (top 15)) X) (B : Bdy X) : DSs G X (defBody (top 15)) es_is_tuple_of :=
  (dss_one (ds_rt (de_and (de_isi c (T := "tuple") (de_var c 0) h.no_isinstance h.no_tuple (by decide) bt_tuple) (de_one (de_cmp c (de_bi c (call_lenD c) h.no_len bt_len (da_cons (de_var c 0) da_nil)) (de_var c 1))))))
theorem fn_is_tuple_of {G : GC} (h : Hy G) : FnC G 1 15 "is_tuple_of" (top 15) [] ["value", "many"] F_is_tuple_of := by
  obtain ⟨fd, FD⟩ := h.fd_is_tuple_of
  exact fnC_of FD h.m_is_tuple_of sc_is_tuple_of fun X c B lm => body_is_tuple_of h c B
/-! ### is_short_tuple -/
def N_is_short_tuple : List Str := ["value", "low", "most"]
abbrev es_is_short_tuple : Es := (sRt (evAnd (evIsi "tuple" (evV 0)) (evChain (cmpF .LtE) (cmpF .LtE) (evV 1) (evBi lenD (evCons (evV 0) evNil)) (evV 2))))
def F_is_short_tuple : Fun := finF N_is_short_tuple es_is_short_tuple
theorem sc_is_short_tuple : FnScope N_is_short_tuple ["value", "low", "most"] (defScope (top 16)) := ⟨rfl, rfl, rfl, by decide +kernel, rfl, by decide +kernel, by decide +kernel⟩
theorem body_is_short_tuple {G : GC} (h : Hy G) {X : Cx} (c : Cxt G 0 N_is_short_tuple (defScope (top 16)) X) (B : Bdy X) : DSs G X (defBody (top 16)) es_is_short_tuple :=
  (dss_one (ds_rt (de_and (de_isi c (T := "tuple") (de_var c 0) h.no_isinstance h.no_tuple (by decide) bt_tuple) (de_one (de_chain c (de_var c 1) (de_bi c (call_lenD c) h.no_len bt_len (da_cons (de_var c 0) da_nil)) (de_var c 2))))))
theorem fn_is_short_tuple {G : GC} (h : Hy G) : FnC G 1 16 "is_short_tuple" (top 16) [] ["value", "low", "most"] F_is_short_tuple := by
  obtain ⟨fd, FD⟩ := h.fd_is_short_tuple
  exact fnC_of FD h.m_is_short_tuple sc_is_short_tuple fun X c B lm => body_is_short_tuple h c B
/-! ### is_end -/
def N_is_end : List Str := ["value"]
abbrev es_is_end : Es := (sRt (evAnd (evIsi "str" (evV 0)) (evOp (cmpF .In) (evV 0) (evTup (evCons (evC (.str "end")) (evCons (evC (.str "ever")) evNil))))))
def F_is_end : Fun := finF N_is_end es_is_end
theorem sc_is_end : FnScope N_is_end ["value"] (defScope (top 26)) := ⟨rfl, rfl, rfl, by decide +kernel, rfl, by decide +kernel, by decide +kernel⟩
theorem body_is_end {G : GC} (h : Hy G) {X : Cx} (c : Cxt G 0 N_is_end (defScope (top 26)) X) (B : Bdy X) : DSs G X (defBody (top 26)) es_is_end :=
  (dss_one (ds_rt (de_and (de_isi c (T := "str") (de_var c 0) h.no_isinstance h.no_str (by decide) bt_str) (de_one (de_cmp c (de_var c 0) (de_tup (da_cons (de_glo c h.c_END) (da_cons (de_glo c h.c_EVER) da_nil))))))))
theorem fn_is_end {G : GC} (h : Hy G) : FnC G 1 26 "is_end" (top 26) [] ["value"] F_is_end := by
  obtain ⟨fd, FD⟩ := h.fd_is_end
  exact fnC_of FD h.m_is_end sc_is_end fun X c B lm => body_is_end h c B
/-! ### is_whole -/
def N_is_whole : List Str := ["value"]
abbrev es_is_whole : Es := (sRt (evAnd (evIsi "int" (evV 0)) (evNot (evIsi "bool" (evV 0)))))
def F_is_whole : Fun := finF N_is_whole es_is_whole
theorem sc_is_whole : FnScope N_is_whole ["value"] (defScope (top 12)) := ⟨rfl, rfl, rfl, by decide +kernel, rfl, by decide +kernel, by decide +kernel⟩
theorem body_is_whole {G : GC} (h : Hy G) {X : Cx} (c : Cxt G 0 N_is_whole (defScope (top 12)) X) (B : Bdy X) : DSs G X (defBody (top 12)) es_is_whole :=
  (dss_one (ds_rt (de_and (de_isi c (T := "int") (de_var c 0) h.no_isinstance h.no_int (by decide) bt_int) (de_one (de_not (de_isi c (T := "bool") (de_var c 0) h.no_isinstance h.no_bool (by decide) bt_bool))))))
theorem fn_is_whole {G : GC} (h : Hy G) : FnC G 1 12 "is_whole" (top 12) [] ["value"] F_is_whole := by
  obtain ⟨fd, FD⟩ := h.fd_is_whole
  exact fnC_of FD h.m_is_whole sc_is_whole fun X c B lm => body_is_whole h c B
/-! ### is_number -/
def N_is_number : List Str := ["value", "low", "most"]
abbrev es_is_number : Es := (sRt (evAnd (evCall F_is_whole 1 0 [some 0] (evCons (evV 0) evNil) evNil) (evAnd (evOp (cmpF .LtE) (evV 1) (evV 0)) (evOr (evOp (cmpF .Is) (evV 2) (evC .non)) (evOp (cmpF .LtE) (evV 0) (evV 2))))))
def F_is_number : Fun := finF N_is_number es_is_number
theorem sc_is_number : FnScope N_is_number ["value", "low", "most"] (defScope (top 13)) := ⟨rfl, rfl, rfl, by decide +kernel, rfl, by decide +kernel, by decide +kernel⟩
theorem body_is_number {G : GC} (h : Hy G) {X : Cx} (c : Cxt G 1 N_is_number (defScope (top 13)) X) (B : Bdy X) : DSs G X (defBody (top 13)) es_is_number :=
  (dss_one (ds_rt (de_and (de_call c (ks := []) (np := 1) (pm := [some 0]) (fn_is_whole h) (fun fd FD => bnd_n FD rfl fun _ _ _ _ _ _ us ws h1 h2 => match us, ws, h1, h2 with | [_], [], _, _ => rfl) (da_cons (de_var c 0) da_nil) dk_nil) (de_and (de_cmp c (de_var c 1) (de_var c 0)) (de_one (de_or (de_cmp c (de_var c 2) de_non) (de_one (de_cmp c (de_var c 0) (de_var c 2)))))))))
theorem fn_is_number {G : GC} (h : Hy G) : FnC G 2 13 "is_number" (top 13) (List.replicate 1 V.non) ["value", "low", "most"] F_is_number := by
  obtain ⟨fd, FD⟩ := h.fd_is_number
  exact fnC_of FD h.m_is_number sc_is_number fun X c B lm => body_is_number h c B
/-! ### is_goal -/
def N_is_goal : List Str := ["value", "many"]
abbrev es_is_goal : Es := (sRt (evOr (evCall F_is_end 1 0 [some 0] (evCons (evV 0) evNil) evNil) (evCall F_is_number 3 0 [some 0, some 1, some 2] (evCons (evV 0) (evCons (evC (.int 0)) (evCons (evOp (fun _ => binF .Sub) (evV 1) (evC (.int 1))) evNil))) evNil)))
def F_is_goal : Fun := finF N_is_goal es_is_goal
theorem sc_is_goal : FnScope N_is_goal ["value", "many"] (defScope (top 27)) := ⟨rfl, rfl, rfl, by decide +kernel, rfl, by decide +kernel, by decide +kernel⟩
theorem body_is_goal {G : GC} (h : Hy G) {X : Cx} (c : Cxt G 2 N_is_goal (defScope (top 27)) X) (B : Bdy X) : DSs G X (defBody (top 27)) es_is_goal :=
  (dss_one (ds_rt (de_or (de_call c (ks := []) (np := 1) (pm := [some 0]) (fn_is_end h) (fun fd FD => bnd_n FD rfl fun _ _ _ _ _ _ us ws h1 h2 => match us, ws, h1, h2 with | [_], [], _, _ => rfl) (da_cons (de_var c 0) da_nil) dk_nil) (de_one (de_call c (ks := []) (np := 3) (pm := [some 0, some 1, some 2]) (fn_is_number h) (fun fd FD => bnd_d (r := 0) FD rfl fun _ _ _ _ _ _ _ us ws h1 h2 => match us, ws, h1, h2 with | [_, _, _], [], _, _ => ⟨_, rfl, rfl⟩) (da_cons (de_var c 0) (da_cons de_int (da_cons (de_op c (de_var c 1) de_int) da_nil))) dk_nil)))))
theorem fn_is_goal {G : GC} (h : Hy G) : FnC G 3 27 "is_goal" (top 27) [] ["value", "many"] F_is_goal := by
  obtain ⟨fd, FD⟩ := h.fd_is_goal
  exact fnC_of FD h.m_is_goal sc_is_goal fun X c B lm => body_is_goal h c B
/-! ### is_way -/
def N_is_way : List Str := ["value", "many"]
abbrev es_is_way : Es := (sRt (evOr (evOp (cmpF .Is) (evV 0) (evC .non)) (evCall F_is_goal 2 0 [some 0, some 1] (evCons (evV 0) (evCons (evV 1) evNil)) evNil)))
def F_is_way : Fun := finF N_is_way es_is_way
theorem sc_is_way : FnScope N_is_way ["value", "many"] (defScope (top 28)) := ⟨rfl, rfl, rfl, by decide +kernel, rfl, by decide +kernel, by decide +kernel⟩
theorem body_is_way {G : GC} (h : Hy G) {X : Cx} (c : Cxt G 3 N_is_way (defScope (top 28)) X) (B : Bdy X) : DSs G X (defBody (top 28)) es_is_way :=
  (dss_one (ds_rt (de_or (de_cmp c (de_var c 0) de_non) (de_one (de_call c (ks := []) (np := 2) (pm := [some 0, some 1]) (fn_is_goal h) (fun fd FD => bnd_n FD rfl fun _ _ _ _ _ _ us ws h1 h2 => match us, ws, h1, h2 with | [_, _], [], _, _ => rfl) (da_cons (de_var c 0) (da_cons (de_var c 1) da_nil)) dk_nil)))))
theorem fn_is_way {G : GC} (h : Hy G) : FnC G 4 28 "is_way" (top 28) [] ["value", "many"] F_is_way := by
  obtain ⟨fd, FD⟩ := h.fd_is_way
  exact fnC_of FD h.m_is_way sc_is_way fun X c B lm => body_is_way h c B
/-! ### is_node -/
def N_is_node : List Str := ["value", "many", "high", "low", "source", "target"]
abbrev es_is_node : Es := (sSq (sIf (evNot (evCall F_is_tuple_of 2 0 [some 0, some 1] (evCons (evV 0) (evCons (evC (.int 4)) evNil)) evNil)) (sRt (evC (.bl false))) sNx) (sSq (sAs (evV 0) (gTp 4 (gsCons (gNm 4) (gsCons (gNm 5) (gsCons (gNm 3) (gsCons (gNm 2) gsNil)))))) (sSq (sIf (evAnd (evNot (evCall F_is_number 3 0 [some 0, some 1, some 2] (evCons (evV 4) (evCons (evC (.int 0)) (evCons (evC (.int 999)) evNil))) evNil)) (evNot (evCall F_is_number 3 0 [some 0, some 1, some 2] (evCons (evV 4) (evCons (evC (.int 1022)) (evCons (evC (.int 1022)) evNil))) evNil))) (sRt (evC (.bl false))) sNx) (sSq (sIf (evAnd (evNot (evCall F_is_number 3 0 [some 0, some 1, some 2] (evCons (evV 5) (evCons (evC (.int 0)) (evCons (evC (.int 999)) evNil))) evNil)) (evNot (evCall F_is_number 3 0 [some 0, some 1, some 2] (evCons (evV 5) (evCons (evC (.int 1023)) (evCons (evC (.int 1023)) evNil))) evNil))) (sRt (evC (.bl false))) sNx) (sSq (sIf (evOr (evNot (evCall F_is_way 2 0 [some 0, some 1] (evCons (evV 3) (evCons (evV 1) evNil)) evNil)) (evOr (evNot (evCall F_is_way 2 0 [some 0, some 1] (evCons (evV 2) (evCons (evV 1) evNil)) evNil)) (evAnd (evOp (cmpF .Is) (evV 3) (evC .non)) (evOp (cmpF .Is) (evV 2) (evC .non))))) (sRt (evC (.bl false))) sNx) (sRt (evNot (evOr (evAnd (evOp (cmpF .Eq) (evV 5) (evC (.int 1023))) (evOp (cmpF .IsNot) (evV 3) (evC .non))) (evAnd (evOp (cmpF .Eq) (evV 4) (evV 5)) (evOp (cmpF .IsNot) (evV 2) (evC .non)))))))))))
def F_is_node : Fun := finF N_is_node es_is_node
theorem sc_is_node : FnScope N_is_node ["value", "many"] (defScope (top 29)) := ⟨rfl, rfl, rfl, by decide +kernel, rfl, by decide +kernel, by decide +kernel⟩
theorem body_is_node {G : GC} (h : Hy G) {X : Cx} (c : Cxt G 4 N_is_node (defScope (top 29)) X) (B : Bdy X) : DSs G X (defBody (top 29)) es_is_node :=
  (dss_cons (ds_if (dt_not (dt_val (de_call c (ks := []) (np := 2) (pm := [some 0, some 1]) (fn_is_tuple_of h) (fun fd FD => bnd_n FD rfl fun _ _ _ _ _ _ us ws h1 h2 => match us, ws, h1, h2 with | [_, _], [], _, _ => rfl) (da_cons (de_var c 0) (da_cons de_int da_nil)) dk_nil))) (dss_one (ds_rt de_bl)) dss_nil) (dss_cons (es_as c (de_var c 0) (dg_tp c (dgs_cons (dg_nm c 4) (dgs_cons (dg_nm c 5) (dgs_cons (dg_nm c 3) (dgs_cons (dg_nm c 2) dgs_nil)))))) (dss_cons (ds_if (DW.t (dw_and (dt_not (dt_val (de_call c (ks := []) (np := 3) (pm := [some 0, some 1, some 2]) (fn_is_number h) (fun fd FD => bnd_d (r := 0) FD rfl fun _ _ _ _ _ _ _ us ws h1 h2 => match us, ws, h1, h2 with | [_, _, _], [], _, _ => ⟨_, rfl, rfl⟩) (da_cons (de_var c 4) (da_cons de_int (da_cons (de_glo c h.c_MOST_CELL) da_nil))) dk_nil))) (dw_and1 (dt_not (dt_val (de_call c (ks := []) (np := 3) (pm := [some 0, some 1, some 2]) (fn_is_number h) (fun fd FD => bnd_d (r := 0) FD rfl fun _ _ _ _ _ _ _ us ws h1 h2 => match us, ws, h1, h2 with | [_, _, _], [], _, _ => ⟨_, rfl, rfl⟩) (da_cons (de_var c 4) (da_cons (de_glo c h.c_INPUT) (da_cons (de_glo c h.c_INPUT) da_nil))) dk_nil)))))) (dss_one (ds_rt de_bl)) dss_nil) (dss_cons (ds_if (DW.t (dw_and (dt_not (dt_val (de_call c (ks := []) (np := 3) (pm := [some 0, some 1, some 2]) (fn_is_number h) (fun fd FD => bnd_d (r := 0) FD rfl fun _ _ _ _ _ _ _ us ws h1 h2 => match us, ws, h1, h2 with | [_, _, _], [], _, _ => ⟨_, rfl, rfl⟩) (da_cons (de_var c 5) (da_cons de_int (da_cons (de_glo c h.c_MOST_CELL) da_nil))) dk_nil))) (dw_and1 (dt_not (dt_val (de_call c (ks := []) (np := 3) (pm := [some 0, some 1, some 2]) (fn_is_number h) (fun fd FD => bnd_d (r := 0) FD rfl fun _ _ _ _ _ _ _ us ws h1 h2 => match us, ws, h1, h2 with | [_, _, _], [], _, _ => ⟨_, rfl, rfl⟩) (da_cons (de_var c 5) (da_cons (de_glo c h.c_OUTPUT) (da_cons (de_glo c h.c_OUTPUT) da_nil))) dk_nil)))))) (dss_one (ds_rt de_bl)) dss_nil) (dss_cons (ds_if (DW.t (dw_or (dt_not (dt_val (de_call c (ks := []) (np := 2) (pm := [some 0, some 1]) (fn_is_way h) (fun fd FD => bnd_n FD rfl fun _ _ _ _ _ _ us ws h1 h2 => match us, ws, h1, h2 with | [_, _], [], _, _ => rfl) (da_cons (de_var c 3) (da_cons (de_var c 1) da_nil)) dk_nil))) (dw_or (dt_not (dt_val (de_call c (ks := []) (np := 2) (pm := [some 0, some 1]) (fn_is_way h) (fun fd FD => bnd_n FD rfl fun _ _ _ _ _ _ us ws h1 h2 => match us, ws, h1, h2 with | [_, _], [], _, _ => rfl) (da_cons (de_var c 2) (da_cons (de_var c 1) da_nil)) dk_nil))) (dw_or1 (DW.t (dw_and (dt_cmp c (de_var c 3) de_non) (dw_and1 (dt_cmp c (de_var c 2) de_non)))))))) (dss_one (ds_rt de_bl)) dss_nil) (dss_one (ds_rt (de_not (de_or (de_and (de_cmp c (de_var c 5) (de_glo c h.c_OUTPUT)) (de_one (de_cmp c (de_var c 3) de_non))) (de_one (de_and (de_cmp c (de_var c 4) (de_var c 5)) (de_one (de_cmp c (de_var c 2) de_non)))))))))))))
theorem fn_is_node {G : GC} (h : Hy G) : FnC G 5 29 "is_node" (top 29) [] ["value", "many"] F_is_node := by
  obtain ⟨fd, FD⟩ := h.fd_is_node
  exact fnC_of FD h.m_is_node sc_is_node fun X c B lm => body_is_node h c B
/-! ### is_web_form -/
def N_is_web_form : List Str := ["value", "many", "node"]
/-- [is_node(node, many) for node in value[1]] -/
abbrev ce_is_web_form_1 : Ev := (evCall F_is_node 2 0 [some 0, some 1] (evCons (evV 2) (evCons (evV 1) evNil)) evNil)
abbrev es_is_web_form : Es := (sSq (sIf (evOr (evNot (evCall F_is_tuple_of 2 0 [some 0, some 1] (evCons (evV 0) (evCons (evC (.int 2)) evNil)) evNil)) (evNot (evCall F_is_short_tuple 3 0 [some 0, some 1, some 2] (evCons (evOp subscD (evV 0) (evC (.int 1))) (evCons (evC (.int 0)) (evCons (evC (.int 4000)) evNil))) evNil))) (sRt (evC (.bl false))) sNx) (sSq (sAs (evBi lenD (evCons (evOp subscD (evV 0) (evC (.int 1))) evNil)) (gNm 1)) (sRt (evAnd (evCall F_is_goal 2 0 [some 0, some 1] (evCons (evOp subscD (evV 0) (evC (.int 0))) (evCons (evV 1) evNil)) evNil) (evBi allD (evCons (evLc (evSqT (evOp subscD (evV 0) (evC (.int 1)))) (gNm 2) (evC (.bl true)) ce_is_web_form_1 [2]) evNil))))))
def F_is_web_form : Fun := finF N_is_web_form es_is_web_form
theorem sc_is_web_form : FnScope N_is_web_form ["value"] (defScope (top 30)) := ⟨rfl, rfl, rfl, by decide +kernel, rfl, by decide +kernel, by decide +kernel⟩
theorem body_is_web_form {G : GC} (h : Hy G) {X : Cx} (c : Cxt G 5 N_is_web_form (defScope (top 30)) X) (B : Bdy X) : DSs G X (defBody (top 30)) es_is_web_form :=
  (dss_cons (ds_if (DW.t (dw_or (dt_not (dt_val (de_call c (ks := []) (np := 2) (pm := [some 0, some 1]) (fn_is_tuple_of h) (fun fd FD => bnd_n FD rfl fun _ _ _ _ _ _ us ws h1 h2 => match us, ws, h1, h2 with | [_, _], [], _, _ => rfl) (da_cons (de_var c 0) (da_cons de_int da_nil)) dk_nil))) (dw_or1 (dt_not (dt_val (de_call c (ks := []) (np := 3) (pm := [some 0, some 1, some 2]) (fn_is_short_tuple h) (fun fd FD => bnd_n FD rfl fun _ _ _ _ _ _ us ws h1 h2 => match us, ws, h1, h2 with | [_, _, _], [], _, _ => rfl) (da_cons (de_ix c (de_var c 0) de_int) (da_cons de_int (da_cons (de_glo c h.c_MOST_NODES) da_nil))) dk_nil)))))) (dss_one (ds_rt de_bl)) dss_nil) (dss_cons (es_setC c B 1 (de_bi c (call_lenD c) h.no_len bt_len (da_cons (de_ix c (de_var c 0) de_int) da_nil))) (dss_one (ds_rt (de_and (de_call c (ks := []) (np := 2) (pm := [some 0, some 1]) (fn_is_goal h) (fun fd FD => bnd_n FD rfl fun _ _ _ _ _ _ us ws h1 h2 => match us, ws, h1, h2 with | [_, _], [], _, _ => rfl) (da_cons (de_ix c (de_var c 0) de_int) (da_cons (de_var c 1) da_nil)) dk_nil) (de_one (de_bi c (call_allD c) h.no_all bt_all (da_cons (de_lc c [("node", 2)] (di_tup c (de_ix c (de_var c 0) de_int)) (fun X' c' => (dgb_nm c' 2)) (fun X' c' => dts_nil) (fun X' c' => (de_call c' (ks := []) (np := 2) (pm := [some 0, some 1]) (fn_is_node h) (fun fd FD => bnd_n FD rfl fun _ _ _ _ _ _ us ws h1 h2 => match us, ws, h1, h2 with | [_, _], [], _, _ => rfl) (da_cons (de_var c' 2) (da_cons (de_var c' 1) da_nil)) dk_nil))) da_nil))))))))
theorem fn_is_web_form {G : GC} (h : Hy G) : FnC G 6 30 "is_web_form" (top 30) [] ["value"] F_is_web_form := by
  obtain ⟨fd, FD⟩ := h.fd_is_web_form
  exact fnC_of FD h.m_is_web_form sc_is_web_form fun X c B lm => body_is_web_form h c B
/-! ### check_web -/
def N_check_web : List Str := ["value"]
abbrev es_check_web : Es := (sIf (evNot (evCall F_is_web_form 1 0 [some 0] (evCons (evV 0) evNil) evNil)) (sRs 2 (evV 0)) sNx)
def F_check_web : Fun := finF N_check_web es_check_web
theorem sc_check_web : FnScope N_check_web ["value"] (defScope (top 37)) := ⟨rfl, rfl, rfl, by decide +kernel, rfl, by decide +kernel, by decide +kernel⟩
theorem body_check_web {G : GC} (h : Hy G) {X : Cx} (c : Cxt G 6 N_check_web (defScope (top 37)) X) (B : Bdy X) : DSs G X (defBody (top 37)) es_check_web :=
  (dss_one (ds_if (dt_not (dt_val (de_call c (ks := []) (np := 1) (pm := [some 0]) (fn_is_web_form h) (fun fd FD => bnd_n FD rfl fun _ _ _ _ _ _ us ws h1 h2 => match us, ws, h1, h2 with | [_], [], _, _ => rfl) (da_cons (de_var c 0) da_nil) dk_nil))) (dss_one (ds_raise c 2 h.s_InvalidWeb h.x_InvalidWeb h.m_InvalidWeb (de_var c 0))) dss_nil))
theorem fn_check_web {G : GC} (h : Hy G) : FnC G 7 37 "check_web" (top 37) [] ["value"] F_check_web := by
  obtain ⟨fd, FD⟩ := h.fd_check_web
  exact fnC_of FD h.m_check_web sc_check_web fun X c B lm => body_check_web h c B
/-! ### is_word -/
def N_is_word : List Str := ["value"]
abbrev es_is_word : Es := (sRt (evCall F_is_number 3 0 [some 0, some 1, some 2] (evCons (evV 0) (evCons (evC (.int 0)) (evCons (evOp (fun _ => binF .Sub) (evC (.int 1024)) (evC (.int 1))) evNil))) evNil))
def F_is_word : Fun := finF N_is_word es_is_word
theorem sc_is_word : FnScope N_is_word ["value"] (defScope (top 14)) := ⟨rfl, rfl, rfl, by decide +kernel, rfl, by decide +kernel, by decide +kernel⟩
theorem body_is_word {G : GC} (h : Hy G) {X : Cx} (c : Cxt G 2 N_is_word (defScope (top 14)) X) (B : Bdy X) : DSs G X (defBody (top 14)) es_is_word :=
  (dss_one (ds_rt (de_call c (ks := []) (np := 3) (pm := [some 0, some 1, some 2]) (fn_is_number h) (fun fd FD => bnd_d (r := 0) FD rfl fun _ _ _ _ _ _ _ us ws h1 h2 => match us, ws, h1, h2 with | [_, _, _], [], _, _ => ⟨_, rfl, rfl⟩) (da_cons (de_var c 0) (da_cons de_int (da_cons (de_op c (de_glo c h.c_ROUND) de_int) da_nil))) dk_nil)))
theorem fn_is_word {G : GC} (h : Hy G) : FnC G 3 14 "is_word" (top 14) [] ["value"] F_is_word := by
  obtain ⟨fd, FD⟩ := h.fd_is_word
  exact fnC_of FD h.m_is_word sc_is_word fun X c B lm => body_is_word h c B
/-! ### first_wrong -/
def T_first_wrong_is_right : Nat → Option Fun := fun j => match j with
  | 14 => some fun ds => F_is_word (pick .non [some 0] ds)
  | _ => none
theorem held_first_wrong_is_right {G : GC} (h : Hy G) : HeldD G 3 1 T_first_wrong_is_right := by
  intro j f e
  unfold T_first_wrong_is_right at e
  split at e
  · cases e
    obtain ⟨fd, FD, FG, _⟩ := (fn_is_word h).ex
    exact ⟨fd, _, _, [some 0], FG.mono (by decide), FD.kp, (fun fd FD => bnd_n FD rfl fun _ _ _ _ _ _ us ws h1 h2 => match us, ws, h1, h2 with | [_], [], _, _ => rfl) fd FD, rfl⟩
  · cases e
def N_first_wrong : List Str := ["values", "is_right", "index", "value"]
/-- (index, value) -/
abbrev lt_first_wrong_1 : Tg := (gTp 2 (gsCons (gNm 2) (gsCons (gNm 3) gsNil)))
/-- for index, value in enumerate(values): -/
abbrev lb_first_wrong_1 : Es := (sIf (evNot (evCallP 1 1 T_first_wrong_is_right (evCons (evV 3) evNil))) (sRt (evLst (evCons (evV 2) evNil))) sNx)
abbrev es_first_wrong : Es := (sSq (sFor (evEnuT (evV 0)) lt_first_wrong_1 lb_first_wrong_1) (sRt (evLst evNil)))
def F_first_wrong : Fun := finF N_first_wrong es_first_wrong
theorem sc_first_wrong : FnScope N_first_wrong ["values", "is_right"] (defScope (top 17)) := ⟨rfl, rfl, rfl, by decide +kernel, rfl, by decide +kernel, by decide +kernel⟩
theorem body_first_wrong {G : GC} (h : Hy G) {X : Cx} (c : Cxt G 3 N_first_wrong (defScope (top 17)) X) (B : Bdy X) : DSs G X (defBody (top 17)) es_first_wrong :=
  (dss_cons (ds_for c (di_enumT c h.no_enumerate (de_var c 0)) (dg_tp c (dgs_cons (dg_nm c 2) (dgs_cons (dg_nm c 3) dgs_nil))) (dss_one (ds_if (dt_not (dt_val (de_callP c 1 (held_first_wrong_is_right h) (da_cons (de_var c 3) da_nil)))) (dss_one (ds_rt (de_lst (da_cons (de_var c 2) da_nil)))) dss_nil))) (dss_one (ds_rt (de_lst da_nil))))
theorem fn_first_wrong {G : GC} (h : Hy G) : FnC G 4 17 "first_wrong" (top 17) [] ["values", "is_right"] F_first_wrong := by
  obtain ⟨fd, FD⟩ := h.fd_first_wrong
  exact fnC_of FD h.m_first_wrong sc_first_wrong fun X c B lm => body_first_wrong h c B
/-! ### wrong_cells -/
def N_wrong_cells : List Str := ["value", "index"]
/-- index -/
abbrev lt_wrong_cells_1 : Tg := (gNm 1)
/-- for index in first_wrong(value[:MOST_CELLS], is_word): -/
abbrev lb_wrong_cells_1 : Es := (sRt (evLst (evCons (evV 1) evNil)))
abbrev es_wrong_cells : Es := (sSq (sIf (evNot (evIsi "tuple" (evV 0))) (sRt (evLst (evCons (evC .non) evNil))) sNx) (sSq (sFor (evSqL (evCall F_first_wrong 2 0 [some 0, some 1] (evCons (evSlice (evV 0) evNo (evSo (evC (.int 1000)))) (evCons (evC (.fn 14)) evNil)) evNil)) lt_wrong_cells_1 lb_wrong_cells_1) (sSq (sIf (evOp (cmpF .Gt) (evBi lenD (evCons (evV 0) evNil)) (evC (.int 1000))) (sRt (evLst (evCons (evC (.int 1000)) evNil))) sNx) (sRt (evIte (evOp (cmpF .Lt) (evBi lenD (evCons (evV 0) evNil)) (evC (.int 3))) (evLst (evCons (evC .non) evNil)) (evLst evNil))))))
def F_wrong_cells : Fun := finF N_wrong_cells es_wrong_cells
theorem sc_wrong_cells : FnScope N_wrong_cells ["value"] (defScope (top 18)) := ⟨rfl, rfl, rfl, by decide +kernel, rfl, by decide +kernel, by decide +kernel⟩
theorem body_wrong_cells {G : GC} (h : Hy G) {X : Cx} (c : Cxt G 4 N_wrong_cells (defScope (top 18)) X) (B : Bdy X) : DSs G X (defBody (top 18)) es_wrong_cells :=
  (dss_cons (ds_if (dt_not (dt_val (de_isi c (T := "tuple") (de_var c 0) h.no_isinstance h.no_tuple (by decide) bt_tuple))) (dss_one (ds_rt (de_lst (da_cons de_non da_nil)))) dss_nil) (dss_cons (ds_for c (di_lst c (de_call c (ks := []) (np := 2) (pm := [some 0, some 1]) (fn_first_wrong h) (fun fd FD => bnd_n FD rfl fun _ _ _ _ _ _ us ws h1 h2 => match us, ws, h1, h2 with | [_, _], [], _, _ => rfl) (da_cons (de_slice c (de_var c 0) do_no (do_some (de_glo c h.c_MOST_CELLS))) (da_cons (de_glo c (glo_fn h.m_is_word)) da_nil)) dk_nil)) (dg_nm c 1) (dss_one (ds_rt (de_lst (da_cons (de_var c 1) da_nil))))) (dss_cons (ds_if (dt_cmp c (de_bi c (call_lenD c) h.no_len bt_len (da_cons (de_var c 0) da_nil)) (de_glo c h.c_MOST_CELLS)) (dss_one (ds_rt (de_lst (da_cons (de_glo c h.c_MOST_CELLS) da_nil)))) dss_nil) (dss_one (ds_rt (de_ite (dt_cmp c (de_bi c (call_lenD c) h.no_len bt_len (da_cons (de_var c 0) da_nil)) (de_glo c h.c_LEAST_CELLS)) (de_lst (da_cons de_non da_nil)) (de_lst da_nil)))))))
theorem fn_wrong_cells {G : GC} (h : Hy G) : FnC G 5 18 "wrong_cells" (top 18) [] ["value"] F_wrong_cells := by
  obtain ⟨fd, FD⟩ := h.fd_wrong_cells
  exact fnC_of FD h.m_wrong_cells sc_wrong_cells fun X c B lm => body_wrong_cells h c B
/-! ### check_cells -/
def N_check_cells : List Str := ["value", "index"]
/-- index -/
abbrev lt_check_cells_1 : Tg := (gNm 1)
/-- for index in wrong_cells(value): -/
abbrev lb_check_cells_1 : Es := (sRs 5 (evV 1))
abbrev es_check_cells : Es := (sFor (evSqL (evCall F_wrong_cells 1 0 [some 0] (evCons (evV 0) evNil) evNil)) lt_check_cells_1 lb_check_cells_1)
def F_check_cells : Fun := finF N_check_cells es_check_cells
theorem sc_check_cells : FnScope N_check_cells ["value"] (defScope (top 20)) := ⟨rfl, rfl, rfl, by decide +kernel, rfl, by decide +kernel, by decide +kernel⟩
theorem body_check_cells {G : GC} (h : Hy G) {X : Cx} (c : Cxt G 5 N_check_cells (defScope (top 20)) X) (B : Bdy X) : DSs G X (defBody (top 20)) es_check_cells :=
  (dss_one (ds_for c (di_lst c (de_call c (ks := []) (np := 1) (pm := [some 0]) (fn_wrong_cells h) (fun fd FD => bnd_n FD rfl fun _ _ _ _ _ _ us ws h1 h2 => match us, ws, h1, h2 with | [_], [], _, _ => rfl) (da_cons (de_var c 0) da_nil) dk_nil)) (dg_nm c 1) (dss_one (ds_raise c 5 h.s_InvalidCells h.x_InvalidCells h.m_InvalidCells (de_var c 1)))))
theorem fn_check_cells {G : GC} (h : Hy G) : FnC G 6 20 "check_cells" (top 20) [] ["value"] F_check_cells := by
  obtain ⟨fd, FD⟩ := h.fd_check_cells
  exact fnC_of FD h.m_check_cells sc_check_cells fun X c B lm => body_check_cells h c B
/-! ### check_both -/
def N_check_both : List Str := ["web", "cells"]
abbrev es_check_both : Es := (sSq (sEx (evCall F_check_web 1 0 [some 0] (evCons (evV 0) evNil) evNil)) (sEx (evCall F_check_cells 1 0 [some 0] (evCons (evV 1) evNil) evNil)))
def F_check_both : Fun := finF N_check_both es_check_both
theorem sc_check_both : FnScope N_check_both ["web", "cells"] (defScope (top 39)) := ⟨rfl, rfl, rfl, by decide +kernel, rfl, by decide +kernel, by decide +kernel⟩
theorem body_check_both {G : GC} (h : Hy G) {X : Cx} (c : Cxt G 7 N_check_both (defScope (top 39)) X) (B : Bdy X) : DSs G X (defBody (top 39)) es_check_both :=
  (dss_cons (ds_ex (de_call c (ks := []) (np := 1) (pm := [some 0]) (fn_check_web h) (fun fd FD => bnd_n FD rfl fun _ _ _ _ _ _ us ws h1 h2 => match us, ws, h1, h2 with | [_], [], _, _ => rfl) (da_cons (de_var c 0) da_nil) dk_nil)) (dss_one (ds_ex (de_call c (ks := []) (np := 1) (pm := [some 0]) (fn_check_cells h) (fun fd FD => bnd_n FD rfl fun _ _ _ _ _ _ us ws h1 h2 => match us, ws, h1, h2 with | [_], [], _, _ => rfl) (da_cons (de_var c 1) da_nil) dk_nil))))
theorem fn_check_both {G : GC} (h : Hy G) : FnC G 8 39 "check_both" (top 39) [] ["web", "cells"] F_check_both := by
  obtain ⟨fd, FD⟩ := h.fd_check_both
  exact fnC_of FD h.m_check_both sc_check_both fun X c B lm => body_check_both h c B
/-! ### has_all_cells -/
def N_has_all_cells : List Str := ["web", "cells", "_", "many", "source", "target"]
/-- (source, target, _, _) -/
abbrev lt_has_all_cells_1 : Tg := (gTp 4 (gsCons (gNm 4) (gsCons (gNm 5) (gsCons (gNm 2) (gsCons (gNm 2) gsNil)))))
/-- for source, target, _, _ in web[1]: -/
abbrev lb_has_all_cells_1 : Es := (sIf (evOr (evAnd (evOp (cmpF .NotEq) (evV 4) (evC (.int 1022))) (evOp (cmpF .GtE) (evV 4) (evV 3))) (evAnd (evOp (cmpF .NotEq) (evV 5) (evC (.int 1023))) (evOp (cmpF .GtE) (evV 5) (evV 3)))) (sRt (evC (.bl false))) sNx)
abbrev es_has_all_cells : Es := (sSq (sAs (evBi lenD (evCons (evV 1) evNil)) (gNm 3)) (sSq (sFor (evSqT (evOp subscD (evV 0) (evC (.int 1)))) lt_has_all_cells_1 lb_has_all_cells_1) (sRt (evC (.bl true)))))
def F_has_all_cells : Fun := finF N_has_all_cells es_has_all_cells
theorem sc_has_all_cells : FnScope N_has_all_cells ["web", "cells"] (defScope (top 35)) := ⟨rfl, rfl, rfl, by decide +kernel, rfl, by decide +kernel, by decide +kernel⟩
theorem body_has_all_cells {G : GC} (h : Hy G) {X : Cx} (c : Cxt G 0 N_has_all_cells (defScope (top 35)) X) (B : Bdy X) : DSs G X (defBody (top 35)) es_has_all_cells :=
  (dss_cons (es_set c 3 (de_bi c (call_lenD c) h.no_len bt_len (da_cons (de_var c 1) da_nil))) (dss_cons (ds_for c (di_tup c (de_ix c (de_var c 0) de_int)) (dg_tp c (dgs_cons (dg_nm c 4) (dgs_cons (dg_nm c 5) (dgs_cons (dg_nm c 2) (dgs_cons (dg_nm c 2) dgs_nil))))) (dss_one (ds_if (DW.t (dw_or (DW.t (dw_and (dt_cmp c (de_var c 4) (de_glo c h.c_INPUT)) (dw_and1 (dt_cmp c (de_var c 4) (de_var c 3))))) (dw_or1 (DW.t (dw_and (dt_cmp c (de_var c 5) (de_glo c h.c_OUTPUT)) (dw_and1 (dt_cmp c (de_var c 5) (de_var c 3)))))))) (dss_one (ds_rt de_bl)) dss_nil))) (dss_one (ds_rt de_bl))))
theorem fn_has_all_cells {G : GC} (h : Hy G) : FnC G 1 35 "has_all_cells" (top 35) [] ["web", "cells"] F_has_all_cells := by
  obtain ⟨fd, FD⟩ := h.fd_has_all_cells
  exact fnC_of FD h.m_has_all_cells sc_has_all_cells fun X c B lm => body_has_all_cells h c B
/-! ### check_fit -/
def N_check_fit : List Str := ["web", "cells"]
abbrev es_check_fit : Es := (sIf (evNot (evCall F_has_all_cells 2 0 [some 0, some 1] (evCons (evV 0) (evCons (evV 1) evNil)) evNil)) (sRs 3 (evV 0)) sNx)
def F_check_fit : Fun := finF N_check_fit es_check_fit
theorem sc_check_fit : FnScope N_check_fit ["web", "cells"] (defScope (top 40)) := ⟨rfl, rfl, rfl, by decide +kernel, rfl, by decide +kernel, by decide +kernel⟩
theorem body_check_fit {G : GC} (h : Hy G) {X : Cx} (c : Cxt G 1 N_check_fit (defScope (top 40)) X) (B : Bdy X) : DSs G X (defBody (top 40)) es_check_fit :=
  (dss_one (ds_if (dt_not (dt_val (de_call c (ks := []) (np := 2) (pm := [some 0, some 1]) (fn_has_all_cells h) (fun fd FD => bnd_n FD rfl fun _ _ _ _ _ _ us ws h1 h2 => match us, ws, h1, h2 with | [_, _], [], _, _ => rfl) (da_cons (de_var c 0) (da_cons (de_var c 1) da_nil)) dk_nil))) (dss_one (ds_raise c 3 h.s_DoesNotFit h.x_DoesNotFit h.m_DoesNotFit (de_var c 0))) dss_nil))
theorem fn_check_fit {G : GC} (h : Hy G) : FnC G 2 40 "check_fit" (top 40) [] ["web", "cells"] F_check_fit := by
  obtain ⟨fd, FD⟩ := h.fd_check_fit
  exact fnC_of FD h.m_check_fit sc_check_fit fun X c B lm => body_check_fit h c B
/-! ### Laying.all_ways -/
def N_Laying_all_ways : List Str := ["self", "found", "node"]
/-- node -/
abbrev lt_Laying_all_ways_1 : Tg := (gNm 2)
/-- for node in self.web_nodes: -/
abbrev lb_Laying_all_ways_1 : Es := (sExt 1 (evSlice (evV 2) (evSo (evC (.int 2))) evNo))
abbrev es_Laying_all_ways : Es := (sSq (sOw 1 (evCons (evFld 34 "own_start" (evV 0)) evNil)) (sSq (sFor (evSqT (evFld 34 "web_nodes" (evV 0))) lt_Laying_all_ways_1 lb_Laying_all_ways_1) (sFz 1 (sRt (evV 1)))))
def F_Laying_all_ways : Fun := finF N_Laying_all_ways es_Laying_all_ways
theorem sc_Laying_all_ways : FnScope N_Laying_all_ways ["self"] (defScope (mth 34 1)) := ⟨rfl, rfl, rfl, by decide +kernel, rfl, by decide +kernel, by decide +kernel⟩
theorem body_Laying_all_ways {G : GC} (h : Hy G) {X : Cx} (c : Cxt G 0 N_Laying_all_ways (defScope (mth 34 1)) X) (B : Bdy X) : DSs G X (defBody (mth 34 1)) es_Laying_all_ways :=
  (dss_cons (es_ow c 1 (da_cons (de_fld c 34 h.cl_Laying h.na_Laying_own_start (de_var c 0)) da_nil)) (dss_cons (ds_for c (di_tup c (de_fld c 34 h.cl_Laying h.na_Laying_web_nodes (de_var c 0))) (dg_nm c 2) (dss_one (ds_ext c 1 (de_slice c (de_var c 2) (do_some de_int) do_no)))) (dss_one (ds_fz 1 (ds_rt (de_var c 1))))))
theorem fn_Laying_all_ways {G : GC} (h : Hy G) : FnM G 1 1681 "all_ways" "Laying.all_ways" (mth 34 1) [] ["self"] F_Laying_all_ways := by
  obtain ⟨fd, FD⟩ := h.fd_Laying_all_ways
  exact fnM_of FD sc_Laying_all_ways fun X c B lm => body_Laying_all_ways h c B
/-! ### Laying.__init__ -/
def N_Laying___init__ : List Str := ["self", "web", "cells", "_", "at", "number", "source", "target"]
/-- (number, (source, target, _, _)) -/
abbrev lt_Laying___init___1 : Tg := (gTp 2 (gsCons (gNm 5) (gsCons (gTp 4 (gsCons (gNm 6) (gsCons (gNm 7) (gsCons (gNm 3) (gsCons (gNm 3) gsNil))))) gsNil)))
/-- for number, (source, target, _, _) in enumerate(self.web_nodes): -/
abbrev lb_Laying___init___1 : Es := (sSq (sAs (evV 4) (gDp (evFld 34 "places" (evV 0)) (evV 5))) (sAs (evOp (fun _ => binF .Add) (evV 4) (evOp (fun _ => binF .Mult) (evC (.int 3)) (evIte (evOp (cmpF .Eq) (evV 6) (evV 7)) (evC (.int 1)) (evC (.int 2))))) (gNm 4)))
abbrev es_Laying___init__ : Es := (sSq (sAs (evV 1) (gTp 2 (gsCons (gFl 34 "own_start" (evV 0)) (gsCons (gFl 34 "web_nodes" (evV 0)) gsNil)))) (sSq (sAs (evV 2) (gFl 34 "own_cells" (evV 0))) (sSq (sAs (evDisp [((evC .non), (evC (.int 1023))), ((evC (.str "end")), (evC (.int 1023)))]) (gFl 34 "places" (evV 0))) (sSq (sAs (evC (.int 0)) (gNm 4)) (sSq (sFor (evEnuT (evFld 34 "web_nodes" (evV 0))) lt_Laying___init___1 lb_Laying___init___1) (sSq (sAs (evOp (cmpF .In) (evC (.str "ever")) (evMeth 34 "all_ways" F_Laying_all_ways 0 [some 0] (evV 0) evNil)) (gFl 34 "has_ever" (evV 0))) (sSq (sIf (evFld 34 "has_ever" (evV 0)) (sSq (sAs (evV 4) (gDp (evFld 34 "places" (evV 0)) (evC (.str "ever")))) (sAs (evOp (fun _ => binF .Add) (evV 4) (evC (.int 3))) (gNm 4))) sNx) (sSq (sAs (evV 4) (gFl 34 "end_row" (evV 0))) (sAs (evOp (fun _ => binF .Add) (evV 4) (evIte (evOp (cmpF .Eq) (evFld 34 "own_start" (evV 0)) (evC (.str "end"))) (evC (.int 3)) (evC (.int 0)))) (gFl 34 "nought" (evV 0)))))))))))
def F_Laying___init__ : Fun := finF N_Laying___init__ es_Laying___init__
theorem sc_Laying___init__ : FnScope N_Laying___init__ ["self", "web", "cells"] (defScope (mth 34 0)) := ⟨rfl, rfl, rfl, by decide +kernel, rfl, by decide +kernel, by decide +kernel⟩
theorem body_Laying___init__ {G : GC} (h : Hy G) {X : Cx} (c : Cxt G 1 N_Laying___init__ (defScope (mth 34 0)) X) (B : Bdy X) : DSs G X (defBody (mth 34 0)) es_Laying___init__ :=
  (dss_cons (es_as c (de_var c 1) (dg_tp c (dgs_cons (dg_fl c 34 h.cl_Laying h.na_Laying_own_start (de_var c 0)) (dgs_cons (dg_fl c 34 h.cl_Laying h.na_Laying_web_nodes (de_var c 0)) dgs_nil)))) (dss_cons (es_as c (de_var c 2) (dg_fl c 34 h.cl_Laying h.na_Laying_own_cells (de_var c 0))) (dss_cons (es_as c (de_disp c (dps_cons de_non (de_glo c h.c_LAST) (dps_cons (de_glo c h.c_END) (de_glo c h.c_LAST) dps_nil))) (dg_fl c 34 h.cl_Laying h.na_Laying_places (de_var c 0))) (dss_cons (es_set c 4 de_int) (dss_cons (ds_for c (di_enumT c h.no_enumerate (de_fld c 34 h.cl_Laying h.na_Laying_web_nodes (de_var c 0))) (dg_tp c (dgs_cons (dg_nm c 5) (dgs_cons (dg_tp c (dgs_cons (dg_nm c 6) (dgs_cons (dg_nm c 7) (dgs_cons (dg_nm c 3) (dgs_cons (dg_nm c 3) dgs_nil))))) dgs_nil))) (dss_cons (es_as c (de_var c 4) (dg_dp c (de_fld c 34 h.cl_Laying h.na_Laying_places (de_var c 0)) (de_var c 5))) (dss_one (es_set c 4 (de_op c (de_var c 4) (de_op c (de_glo c h.c_ROW_CELLS) (de_ite (dt_cmp c (de_var c 6) (de_var c 7)) de_int de_int))))))) (dss_cons (es_as c (de_cmp c (de_glo c h.c_EVER) (de_meth0 c 34 (pm := [some 0]) (fn_Laying_all_ways h) (fun fd FD => bnd_n FD rfl fun _ _ _ _ _ _ us ws h1 h2 => match us, ws, h1, h2 with | [_], [], _, _ => rfl) h.cl_Laying h.me_Laying_all_ways (de_var c 0))) (dg_fl c 34 h.cl_Laying h.na_Laying_has_ever (de_var c 0))) (dss_cons (ds_if (dt_val (de_fld c 34 h.cl_Laying h.na_Laying_has_ever (de_var c 0))) (dss_cons (es_as c (de_var c 4) (dg_dp c (de_fld c 34 h.cl_Laying h.na_Laying_places (de_var c 0)) (de_glo c h.c_EVER))) (dss_one (es_set c 4 (de_op c (de_var c 4) (de_glo c h.c_ROW_CELLS))))) dss_nil) (dss_cons (es_as c (de_var c 4) (dg_fl c 34 h.cl_Laying h.na_Laying_end_row (de_var c 0))) (dss_one (es_as c (de_op c (de_var c 4) (de_ite (dt_cmp c (de_fld c 34 h.cl_Laying h.na_Laying_own_start (de_var c 0)) (de_glo c h.c_END)) (de_glo c h.c_ROW_CELLS) de_int)) (dg_fl c 34 h.cl_Laying h.na_Laying_nought (de_var c 0))))))))))))
theorem fn_Laying___init__ {G : GC} (h : Hy G) : FnM G 2 1680 "__init__" "Laying.__init__" (mth 34 0) [] ["self", "web", "cells"] F_Laying___init__ := by
  obtain ⟨fd, FD⟩ := h.fd_Laying___init__
  exact fnM_of FD sc_Laying___init__ fun X c B lm => body_Laying___init__ h c B
/-! ### Laying.size -/
def N_Laying_size : List Str := ["self"]
abbrev es_Laying_size : Es := (sRt (evOp (fun _ => binF .Add) (evOp (fun _ => binF .Add) (evFld 34 "nought" (evV 0)) (evC (.int 1))) (evBi lenD (evCons (evFld 34 "own_cells" (evV 0)) evNil))))
def F_Laying_size : Fun := finF N_Laying_size es_Laying_size
theorem sc_Laying_size : FnScope N_Laying_size ["self"] (defScope (mth 34 4)) := ⟨rfl, rfl, rfl, by decide +kernel, rfl, by decide +kernel, by decide +kernel⟩
theorem body_Laying_size {G : GC} (h : Hy G) {X : Cx} (c : Cxt G 0 N_Laying_size (defScope (mth 34 4)) X) (B : Bdy X) : DSs G X (defBody (mth 34 4)) es_Laying_size :=
  (dss_one (ds_rt (de_op c (de_op c (de_fld c 34 h.cl_Laying h.na_Laying_nought (de_var c 0)) de_int) (de_bi c (call_lenD c) h.no_len bt_len (da_cons (de_fld c 34 h.cl_Laying h.na_Laying_own_cells (de_var c 0)) da_nil)))))
theorem fn_Laying_size {G : GC} (h : Hy G) : FnM G 1 1684 "size" "Laying.size" (mth 34 4) [] ["self"] F_Laying_size := by
  obtain ⟨fd, FD⟩ := h.fd_Laying_size
  exact fnM_of FD sc_Laying_size fun X c B lm => body_Laying_size h c B
/-! ### Laying.moved -/
def N_Laying_moved : List Str := ["self", "cell", "other"]
abbrev es_Laying_moved : Es := (sRt (evIte (evOp (cmpF .Eq) (evV 1) (evV 2)) (evV 2) (evOp (fun _ => binF .Add) (evOp (fun _ => binF .Add) (evFld 34 "nought" (evV 0)) (evC (.int 1))) (evV 1))))
def F_Laying_moved : Fun := finF N_Laying_moved es_Laying_moved
theorem sc_Laying_moved : FnScope N_Laying_moved ["self", "cell", "other"] (defScope (mth 34 2)) := ⟨rfl, rfl, rfl, by decide +kernel, rfl, by decide +kernel, by decide +kernel⟩
theorem body_Laying_moved {G : GC} (h : Hy G) {X : Cx} (c : Cxt G 0 N_Laying_moved (defScope (mth 34 2)) X) (B : Bdy X) : DSs G X (defBody (mth 34 2)) es_Laying_moved :=
  (dss_one (ds_rt (de_ite (dt_cmp c (de_var c 1) (de_var c 2)) (de_var c 2) (de_op c (de_op c (de_fld c 34 h.cl_Laying h.na_Laying_nought (de_var c 0)) de_int) (de_var c 1)))))
theorem fn_Laying_moved {G : GC} (h : Hy G) : FnM G 1 1682 "moved" "Laying.moved" (mth 34 2) [] ["self", "cell", "other"] F_Laying_moved := by
  obtain ⟨fd, FD⟩ := h.fd_Laying_moved
  exact fnM_of FD sc_Laying_moved fun X c B lm => body_Laying_moved h c B
/-! ### Laying.node_rows -/
def N_Laying_node_rows : List Str := ["self", "node", "found", "high", "low", "source", "target"]
abbrev es_Laying_node_rows : Es := (sSq (sAs (evV 1) (gTp 4 (gsCons (gNm 5) (gsCons (gNm 6) (gsCons (gNm 4) (gsCons (gNm 3) gsNil)))))) (sSq (sAs (evLst (evCons (evMeth 34 "moved" F_Laying_moved 2 [some 0, some 1, some 2] (evV 0) (evCons (evV 5) (evCons (evC (.int 1022)) evNil))) (evCons (evMeth 34 "moved" F_Laying_moved 2 [some 0, some 1, some 2] (evV 0) (evCons (evV 6) (evCons (evC (.int 1023)) evNil))) (evCons (evDGet (evFld 34 "places" (evV 0)) (evV 4)) evNil)))) (gNm 2)) (sRt (evIte (evOp (cmpF .Eq) (evV 5) (evV 6)) (evV 2) (evLst (evStar (evV 2) (evCons (evFld 34 "nought" (evV 0)) (evCons (evFld 34 "nought" (evV 0)) (evCons (evDGet (evFld 34 "places" (evV 0)) (evV 3)) evNil)))))))))
def F_Laying_node_rows : Fun := finF N_Laying_node_rows es_Laying_node_rows
theorem sc_Laying_node_rows : FnScope N_Laying_node_rows ["self", "node"] (defScope (mth 34 3)) := ⟨rfl, rfl, rfl, by decide +kernel, rfl, by decide +kernel, by decide +kernel⟩
theorem body_Laying_node_rows {G : GC} (h : Hy G) {X : Cx} (c : Cxt G 1 N_Laying_node_rows (defScope (mth 34 3)) X) (B : Bdy X) : DSs G X (defBody (mth 34 3)) es_Laying_node_rows :=
  (dss_cons (es_as c (de_var c 1) (dg_tp c (dgs_cons (dg_nm c 5) (dgs_cons (dg_nm c 6) (dgs_cons (dg_nm c 4) (dgs_cons (dg_nm c 3) dgs_nil)))))) (dss_cons (es_set c 2 (de_lst (da_cons (de_meth c 34 (pm := [some 0, some 1, some 2]) (fn_Laying_moved h) (fun fd FD => bnd_n FD rfl fun _ _ _ _ _ _ us ws h1 h2 => match us, ws, h1, h2 with | [_, _, _], [], _, _ => rfl) h.cl_Laying h.me_Laying_moved (de_var c 0) (da_cons (de_var c 5) (da_cons (de_glo c h.c_INPUT) da_nil))) (da_cons (de_meth c 34 (pm := [some 0, some 1, some 2]) (fn_Laying_moved h) (fun fd FD => bnd_n FD rfl fun _ _ _ _ _ _ us ws h1 h2 => match us, ws, h1, h2 with | [_, _, _], [], _, _ => rfl) h.cl_Laying h.me_Laying_moved (de_var c 0) (da_cons (de_var c 6) (da_cons (de_glo c h.c_OUTPUT) da_nil))) (da_cons (de_dget c (de_fld c 34 h.cl_Laying h.na_Laying_places (de_var c 0)) (de_var c 4) (fun _ _ => rfl)) da_nil))))) (dss_one (ds_rt (de_ite (dt_cmp c (de_var c 5) (de_var c 6)) (de_var c 2) (de_lst (da_star c (de_var c 2) (da_cons (de_fld c 34 h.cl_Laying h.na_Laying_nought (de_var c 0)) (da_cons (de_fld c 34 h.cl_Laying h.na_Laying_nought (de_var c 0)) (da_cons (de_dget c (de_fld c 34 h.cl_Laying h.na_Laying_places (de_var c 0)) (de_var c 3) (fun _ _ => rfl)) da_nil))))))))))
theorem fn_Laying_node_rows {G : GC} (h : Hy G) : FnM G 2 1683 "node_rows" "Laying.node_rows" (mth 34 3) [] ["self", "node"] F_Laying_node_rows := by
  obtain ⟨fd, FD⟩ := h.fd_Laying_node_rows
  exact fnM_of FD sc_Laying_node_rows fun X c B lm => body_Laying_node_rows h c B
/-! ### Laying.laid_image -/
def N_Laying_laid_image : List Str := ["self", "entry", "found", "node"]
/-- node -/
abbrev lt_Laying_laid_image_1 : Tg := (gNm 3)
/-- for node in self.web_nodes: -/
abbrev lb_Laying_laid_image_1 : Es := (sExt 2 (evMeth 34 "node_rows" F_Laying_node_rows 1 [some 0, some 1] (evV 0) (evCons (evV 3) evNil)))
abbrev es_Laying_laid_image : Es := (sSq (sOw 2 evNil) (sSq (sFor (evSqT (evFld 34 "web_nodes" (evV 0))) lt_Laying_laid_image_1 lb_Laying_laid_image_1) (sSq (sIf (evFld 34 "has_ever" (evV 0)) (sExt 2 (evLst (evCons (evFld 34 "nought" (evV 0)) (evCons (evFld 34 "nought" (evV 0)) (evCons (evDGet (evFld 34 "places" (evV 0)) (evC (.str "ever"))) evNil))))) sNx) (sSq (sIf (evOp (cmpF .Eq) (evFld 34 "own_start" (evV 0)) (evC (.str "end"))) (sExt 2 (evLst (evCons (evFld 34 "nought" (evV 0)) (evCons (evFld 34 "nought" (evV 0)) (evCons (evC (.int 1023)) evNil))))) sNx) (sSq (sAs (evIte (evOp (cmpF .Eq) (evFld 34 "own_start" (evV 0)) (evC (.str "end"))) (evFld 34 "end_row" (evV 0)) (evDGet (evFld 34 "places" (evV 0)) (evFld 34 "own_start" (evV 0)))) (gNm 1)) (sFz 2 (sRt (evTup (evCons (evTup (evStar (evV 2) (evCons (evC (.int 0)) (evStar (evFld 34 "own_cells" (evV 0)) evNil)))) (evCons (evV 1) evNil))))))))))
def F_Laying_laid_image : Fun := finF N_Laying_laid_image es_Laying_laid_image
theorem sc_Laying_laid_image : FnScope N_Laying_laid_image ["self"] (defScope (mth 34 5)) := ⟨rfl, rfl, rfl, by decide +kernel, rfl, by decide +kernel, by decide +kernel⟩
theorem body_Laying_laid_image {G : GC} (h : Hy G) {X : Cx} (c : Cxt G 2 N_Laying_laid_image (defScope (mth 34 5)) X) (B : Bdy X) : DSs G X (defBody (mth 34 5)) es_Laying_laid_image :=
  (dss_cons (es_ow c 2 da_nil) (dss_cons (ds_for c (di_tup c (de_fld c 34 h.cl_Laying h.na_Laying_web_nodes (de_var c 0))) (dg_nm c 3) (dss_one (ds_ext c 2 (de_meth c 34 (pm := [some 0, some 1]) (fn_Laying_node_rows h) (fun fd FD => bnd_n FD rfl fun _ _ _ _ _ _ us ws h1 h2 => match us, ws, h1, h2 with | [_, _], [], _, _ => rfl) h.cl_Laying h.me_Laying_node_rows (de_var c 0) (da_cons (de_var c 3) da_nil))))) (dss_cons (ds_if (dt_val (de_fld c 34 h.cl_Laying h.na_Laying_has_ever (de_var c 0))) (dss_one (ds_ext c 2 (de_lst (da_cons (de_fld c 34 h.cl_Laying h.na_Laying_nought (de_var c 0)) (da_cons (de_fld c 34 h.cl_Laying h.na_Laying_nought (de_var c 0)) (da_cons (de_dget c (de_fld c 34 h.cl_Laying h.na_Laying_places (de_var c 0)) (de_glo c h.c_EVER) (fun _ _ => rfl)) da_nil)))))) dss_nil) (dss_cons (ds_if (dt_cmp c (de_fld c 34 h.cl_Laying h.na_Laying_own_start (de_var c 0)) (de_glo c h.c_END)) (dss_one (ds_ext c 2 (de_lst (da_cons (de_fld c 34 h.cl_Laying h.na_Laying_nought (de_var c 0)) (da_cons (de_fld c 34 h.cl_Laying h.na_Laying_nought (de_var c 0)) (da_cons (de_glo c h.c_LAST) da_nil)))))) dss_nil) (dss_cons (es_set c 1 (de_ite (dt_cmp c (de_fld c 34 h.cl_Laying h.na_Laying_own_start (de_var c 0)) (de_glo c h.c_END)) (de_fld c 34 h.cl_Laying h.na_Laying_end_row (de_var c 0)) (de_dget c (de_fld c 34 h.cl_Laying h.na_Laying_places (de_var c 0)) (de_fld c 34 h.cl_Laying h.na_Laying_own_start (de_var c 0)) (fun _ _ => rfl)))) (dss_one (ds_fz 2 (ds_rt (de_tup (da_cons (de_tup (da_star c (de_var c 2) (da_cons de_int (da_star c (de_fld c 34 h.cl_Laying h.na_Laying_own_cells (de_var c 0)) da_nil)))) (da_cons (de_var c 1) da_nil)))))))))))
theorem fn_Laying_laid_image {G : GC} (h : Hy G) : FnM G 3 1685 "laid_image" "Laying.laid_image" (mth 34 5) [] ["self"] F_Laying_laid_image := by
  obtain ⟨fd, FD⟩ := h.fd_Laying_laid_image
  exact fnM_of FD sc_Laying_laid_image fun X c B lm => body_Laying_laid_image h c B
/-! ### image_with_room -/
def N_image_with_room : List Str := ["web", "cells", "laying"]
abbrev es_image_with_room : Es := (sSq (sAs (evMake 34 F_Laying___init__ 2 [some 0, some 1, some 2] (evCons (evV 0) (evCons (evV 1) evNil))) (gNm 2)) (sSq (sIf (evOp (cmpF .Gt) (evMeth 34 "size" F_Laying_size 0 [some 0] (evV 2) evNil) (evC (.int 1000))) (sRs 4 (evMeth 34 "size" F_Laying_size 0 [some 0] (evV 2) evNil)) sNx) (sRt (evMeth 34 "laid_image" F_Laying_laid_image 0 [some 0] (evV 2) evNil))))
def F_image_with_room : Fun := finF N_image_with_room es_image_with_room
theorem sc_image_with_room : FnScope N_image_with_room ["web", "cells"] (defScope (top 41)) := ⟨rfl, rfl, rfl, by decide +kernel, rfl, by decide +kernel, by decide +kernel⟩
theorem body_image_with_room {G : GC} (h : Hy G) {X : Cx} (c : Cxt G 3 N_image_with_room (defScope (top 41)) X) (B : Bdy X) : DSs G X (defBody (top 41)) es_image_with_room :=
  (dss_cons (es_set c 2 (de_make c 34 (pm := [some 0, some 1, some 2]) (fn_Laying___init__ h) (fun fd FD => bnd_n FD rfl fun _ _ _ _ _ _ us ws h1 h2 => match us, ws, h1, h2 with | [_, _, _], [], _, _ => rfl) h.mk_Laying h.m_Laying (da_cons (de_var c 0) (da_cons (de_var c 1) da_nil)))) (dss_cons (ds_if (dt_cmp c (de_meth0 c 34 (pm := [some 0]) (fn_Laying_size h) (fun fd FD => bnd_n FD rfl fun _ _ _ _ _ _ us ws h1 h2 => match us, ws, h1, h2 with | [_], [], _, _ => rfl) h.cl_Laying h.me_Laying_size (de_var c 2)) (de_glo c h.c_MOST_CELLS)) (dss_one (ds_raise c 4 h.s_TooGreat h.x_TooGreat h.m_TooGreat (de_meth0 c 34 (pm := [some 0]) (fn_Laying_size h) (fun fd FD => bnd_n FD rfl fun _ _ _ _ _ _ us ws h1 h2 => match us, ws, h1, h2 with | [_], [], _, _ => rfl) h.cl_Laying h.me_Laying_size (de_var c 2)))) dss_nil) (dss_one (ds_rt (de_meth0 c 34 (pm := [some 0]) (fn_Laying_laid_image h) (fun fd FD => bnd_n FD rfl fun _ _ _ _ _ _ us ws h1 h2 => match us, ws, h1, h2 with | [_], [], _, _ => rfl) h.cl_Laying h.me_Laying_laid_image (de_var c 2))))))
theorem fn_image_with_room {G : GC} (h : Hy G) : FnC G 4 41 "image_with_room" (top 41) [] ["web", "cells"] F_image_with_room := by
  obtain ⟨fd, FD⟩ := h.fd_image_with_room
  exact fnC_of FD h.m_image_with_room sc_image_with_room fun X c B lm => body_image_with_room h c B
/-! ### laid -/
def N_laid : List Str := ["web", "cells"]
abbrev es_laid : Es := (sSq (sEx (evCall F_check_both 2 0 [some 0, some 1] (evCons (evV 0) (evCons (evV 1) evNil)) evNil)) (sSq (sEx (evCall F_check_fit 2 0 [some 0, some 1] (evCons (evV 0) (evCons (evV 1) evNil)) evNil)) (sRt (evCall F_image_with_room 2 0 [some 0, some 1] (evCons (evV 0) (evCons (evV 1) evNil)) evNil))))
def F_laid : Fun := finF N_laid es_laid
theorem sc_laid : FnScope N_laid ["web", "cells"] (defScope (top 43)) := ⟨rfl, rfl, rfl, by decide +kernel, rfl, by decide +kernel, by decide +kernel⟩
theorem body_laid {G : GC} (h : Hy G) {X : Cx} (c : Cxt G 8 N_laid (defScope (top 43)) X) (B : Bdy X) : DSs G X (defBody (top 43)) es_laid :=
  (dss_cons (ds_ex (de_call c (ks := []) (np := 2) (pm := [some 0, some 1]) (fn_check_both h) (fun fd FD => bnd_n FD rfl fun _ _ _ _ _ _ us ws h1 h2 => match us, ws, h1, h2 with | [_, _], [], _, _ => rfl) (da_cons (de_var c 0) (da_cons (de_var c 1) da_nil)) dk_nil)) (dss_cons (ds_ex (de_call c (ks := []) (np := 2) (pm := [some 0, some 1]) (fn_check_fit h) (fun fd FD => bnd_n FD rfl fun _ _ _ _ _ _ us ws h1 h2 => match us, ws, h1, h2 with | [_, _], [], _, _ => rfl) (da_cons (de_var c 0) (da_cons (de_var c 1) da_nil)) dk_nil)) (dss_one (ds_rt (de_call c (ks := []) (np := 2) (pm := [some 0, some 1]) (fn_image_with_room h) (fun fd FD => bnd_n FD rfl fun _ _ _ _ _ _ us ws h1 h2 => match us, ws, h1, h2 with | [_, _], [], _, _ => rfl) (da_cons (de_var c 0) (da_cons (de_var c 1) da_nil)) dk_nil)))))
theorem fn_laid {G : GC} (h : Hy G) : FnC G 9 43 "laid" (top 43) [] ["web", "cells"] F_laid := by
  obtain ⟨fd, FD⟩ := h.fd_laid
  exact fnC_of FD h.m_laid sc_laid fun X c B lm => body_laid h c B
/-! ### _law_same -/
def N__law_same : List Str := ["one", "two"]
abbrev es__law_same : Es := (sRt (evOp (cmpF .Eq) (evBi reprD (evCons (evV 0) evNil)) (evBi reprD (evCons (evV 1) evNil))))
def F__law_same : Fun := finF N__law_same es__law_same
theorem sc__law_same : FnScope N__law_same ["one", "two"] (defScope (top 49)) := ⟨rfl, rfl, rfl, by decide +kernel, rfl, by decide +kernel, by decide +kernel⟩
theorem body__law_same {G : GC} (h : Hy G) {X : Cx} (c : Cxt G 100 N__law_same (defScope (top 49)) X) (B : Bdy X) : DSs G X (defBody (top 49)) es__law_same :=
  (dss_one (ds_rt (de_cmp c (de_bi c (call_reprD c (by decide)) h.no_repr bt_repr (da_cons (de_var c 0) da_nil)) (de_bi c (call_reprD c (by decide)) h.no_repr bt_repr (da_cons (de_var c 1) da_nil)))))
theorem fn__law_same {G : GC} (h : Hy G) : FnC G 101 49 "_law_same" (top 49) [] ["one", "two"] F__law_same := by
  obtain ⟨fd, FD⟩ := h.fd__law_same
  exact fnC_of FD h.m__law_same sc__law_same fun X c B lm => body__law_same h c B
/-! ### laid_size -/
def N_laid_size : List Str := ["web", "cells"]
abbrev es_laid_size : Es := (sSq (sEx (evCall F_check_both 2 0 [some 0, some 1] (evCons (evV 0) (evCons (evV 1) evNil)) evNil)) (sRt (evMeth 34 "size" F_Laying_size 0 [some 0] (evMake 34 F_Laying___init__ 2 [some 0, some 1, some 2] (evCons (evV 0) (evCons (evV 1) evNil))) evNil)))
def F_laid_size : Fun := finF N_laid_size es_laid_size
theorem sc_laid_size : FnScope N_laid_size ["web", "cells"] (defScope (top 42)) := ⟨rfl, rfl, rfl, by decide +kernel, rfl, by decide +kernel, by decide +kernel⟩
theorem body_laid_size {G : GC} (h : Hy G) {X : Cx} (c : Cxt G 8 N_laid_size (defScope (top 42)) X) (B : Bdy X) : DSs G X (defBody (top 42)) es_laid_size :=
  (dss_cons (ds_ex (de_call c (ks := []) (np := 2) (pm := [some 0, some 1]) (fn_check_both h) (fun fd FD => bnd_n FD rfl fun _ _ _ _ _ _ us ws h1 h2 => match us, ws, h1, h2 with | [_, _], [], _, _ => rfl) (da_cons (de_var c 0) (da_cons (de_var c 1) da_nil)) dk_nil)) (dss_one (ds_rt (de_meth0 c 34 (pm := [some 0]) (fn_Laying_size h) (fun fd FD => bnd_n FD rfl fun _ _ _ _ _ _ us ws h1 h2 => match us, ws, h1, h2 with | [_], [], _, _ => rfl) h.cl_Laying h.me_Laying_size (de_make c 34 (pm := [some 0, some 1, some 2]) (fn_Laying___init__ h) (fun fd FD => bnd_n FD rfl fun _ _ _ _ _ _ us ws h1 h2 => match us, ws, h1, h2 with | [_, _, _], [], _, _ => rfl) h.mk_Laying h.m_Laying (da_cons (de_var c 0) (da_cons (de_var c 1) da_nil)))))))
theorem fn_laid_size {G : GC} (h : Hy G) : FnC G 9 42 "laid_size" (top 42) [] ["web", "cells"] F_laid_size := by
  obtain ⟨fd, FD⟩ := h.fd_laid_size
  exact fnC_of FD h.m_laid_size sc_laid_size fun X c B lm => body_laid_size h c B
/-! ### _law_known_right -/
def N__law_known_right : List Str := ["due", "echo", "rows", "told"]
abbrev es__law_known_right : Es := (sSq (sAs (evTup (evCons (evC (.int 0)) (evCons (evTup (evCons (evTup (evCons (evC (.int 1)) (evCons (evC (.int 1)) (evCons (evC (.int 1)) (evCons (evC .non) evNil))))) (evCons (evTup (evCons (evC (.int 1022)) (evCons (evC (.int 0)) (evCons (evC (.int 2)) (evCons (evC (.int 2)) evNil))))) (evCons (evTup (evCons (evC (.int 0)) (evCons (evC (.int 1)) (evCons (evC (.int 3)) (evCons (evC (.int 3)) evNil))))) (evCons (evTup (evCons (evC (.int 1)) (evCons (evC (.int 1023)) (evCons (evC .non) (evCons (evC (.str "end")) evNil))))) evNil))))) evNil))) (gNm 1)) (sSq (sAs (evTup (evCons (evC (.int 23)) (evCons (evC (.int 23)) (evCons (evC (.int 3)) (evCons (evC (.int 1022)) (evCons (evC (.int 22)) (evCons (evC (.int 9)) (evCons (evC (.int 21)) (evCons (evC (.int 21)) (evCons (evC (.int 9)) (evCons (evC (.int 22)) (evCons (evC (.int 23)) (evCons (evC (.int 15)) (evCons (evC (.int 21)) (evCons (evC (.int 21)) (evCons (evC (.int 15)) (evCons (evC (.int 23)) (evCons (evC (.int 1023)) (evCons (evC (.int 1023)) (evCons (evC (.int 21)) (evCons (evC (.int 21)) (evCons (evC (.int 1023)) evNil)))))))))))))))))))))) (gNm 2)) (sSq (sAs (evLst (evCons (evCall F_laid 2 0 [some 0, some 1] (evCons (evV 1) (evCons (evTup (evCons (evC (.int 0)) (evCons (evC (.int 0)) (evCons (evC (.int 5)) evNil)))) evNil)) evNil) (evCons (evCall F_laid 2 0 [some 0, some 1] (evCons (evTup (evCons (evC (.str "end")) (evCons (evTup evNil) evNil))) (evCons (evTup (evCons (evC (.int 1)) (evCons (evC (.int 2)) (evCons (evC (.int 3)) evNil)))) evNil)) evNil) (evCons (evCall F_laid 2 0 [some 0, some 1] (evCons (evTup (evCons (evC (.str "ever")) (evCons (evTup evNil) evNil))) (evCons (evTup (evCons (evC (.int 1)) (evCons (evC (.int 2)) (evCons (evC (.int 3)) evNil)))) evNil)) evNil) evNil)))) (gNm 3)) (sSq (sAs (evLst (evCons (evTup (evCons (evOp (fun _ => binF .Add) (evV 2) (evTup (evCons (evC (.int 0)) (evCons (evC (.int 0)) (evCons (evC (.int 0)) (evCons (evC (.int 5)) evNil)))))) (evCons (evC (.int 0)) evNil))) (evCons (evTup (evCons (evTup (evCons (evC (.int 3)) (evCons (evC (.int 3)) (evCons (evC (.int 1023)) (evCons (evC (.int 0)) (evCons (evC (.int 1)) (evCons (evC (.int 2)) (evCons (evC (.int 3)) evNil)))))))) (evCons (evC (.int 0)) evNil))) (evCons (evTup (evCons (evTup (evCons (evC (.int 3)) (evCons (evC (.int 3)) (evCons (evC (.int 0)) (evCons (evC (.int 0)) (evCons (evC (.int 1)) (evCons (evC (.int 2)) (evCons (evC (.int 3)) evNil)))))))) (evCons (evC (.int 0)) evNil))) evNil)))) (gNm 0)) (sRt (evCall F__law_same 2 0 [some 0, some 1] (evCons (evOp (fun _ => binF .Add) (evV 3) (evLst (evCons (evCall F_laid_size 2 0 [some 0, some 1] (evCons (evV 1) (evCons (evTup (evCons (evC (.int 0)) (evCons (evC (.int 0)) (evCons (evC (.int 5)) evNil)))) evNil)) evNil) evNil))) (evCons (evOp (fun _ => binF .Add) (evV 0) (evLst (evCons (evC (.int 25)) evNil))) evNil)) evNil))))))
def F__law_known_right : Fun := finF N__law_known_right es__law_known_right
theorem sc__law_known_right : FnScope N__law_known_right [] (defScope (top 54)) := ⟨rfl, rfl, rfl, by decide +kernel, rfl, by decide +kernel, by decide +kernel⟩
theorem body__law_known_right {G : GC} (h : Hy G) {X : Cx} (c : Cxt G 101 N__law_known_right (defScope (top 54)) X) (B : Bdy X) : DSs G X (defBody (top 54)) es__law_known_right :=
  (dss_cons (es_set c 1 (de_tup (da_cons de_int (da_cons (de_tup (da_cons (de_tup (da_cons de_int (da_cons de_int (da_cons de_int (da_cons de_non da_nil))))) (da_cons (de_tup (da_cons de_int (da_cons de_int (da_cons de_int (da_cons de_int da_nil))))) (da_cons (de_tup (da_cons de_int (da_cons de_int (da_cons de_int (da_cons de_int da_nil))))) (da_cons (de_tup (da_cons de_int (da_cons de_int (da_cons de_non (da_cons de_str da_nil))))) da_nil))))) da_nil)))) (dss_cons (es_set c 2 (de_tup (da_cons de_int (da_cons de_int (da_cons de_int (da_cons de_int (da_cons de_int (da_cons de_int (da_cons de_int (da_cons de_int (da_cons de_int (da_cons de_int (da_cons de_int (da_cons de_int (da_cons de_int (da_cons de_int (da_cons de_int (da_cons de_int (da_cons de_int (da_cons de_int (da_cons de_int (da_cons de_int (da_cons de_int da_nil))))))))))))))))))))))) (dss_cons (es_set c 3 (de_lst (da_cons (de_call c (ks := []) (np := 2) (pm := [some 0, some 1]) (fn_laid h) (fun fd FD => bnd_n FD rfl fun _ _ _ _ _ _ us ws h1 h2 => match us, ws, h1, h2 with | [_, _], [], _, _ => rfl) (da_cons (de_var c 1) (da_cons (de_tup (da_cons de_int (da_cons de_int (da_cons de_int da_nil)))) da_nil)) dk_nil) (da_cons (de_call c (ks := []) (np := 2) (pm := [some 0, some 1]) (fn_laid h) (fun fd FD => bnd_n FD rfl fun _ _ _ _ _ _ us ws h1 h2 => match us, ws, h1, h2 with | [_, _], [], _, _ => rfl) (da_cons (de_tup (da_cons de_str (da_cons (de_tup da_nil) da_nil))) (da_cons (de_tup (da_cons de_int (da_cons de_int (da_cons de_int da_nil)))) da_nil)) dk_nil) (da_cons (de_call c (ks := []) (np := 2) (pm := [some 0, some 1]) (fn_laid h) (fun fd FD => bnd_n FD rfl fun _ _ _ _ _ _ us ws h1 h2 => match us, ws, h1, h2 with | [_, _], [], _, _ => rfl) (da_cons (de_tup (da_cons de_str (da_cons (de_tup da_nil) da_nil))) (da_cons (de_tup (da_cons de_int (da_cons de_int (da_cons de_int da_nil)))) da_nil)) dk_nil) da_nil))))) (dss_cons (es_set c 0 (de_lst (da_cons (de_tup (da_cons (de_op c (de_var c 2) (de_tup (da_cons de_int (da_cons de_int (da_cons de_int (da_cons de_int da_nil)))))) (da_cons de_int da_nil))) (da_cons (de_tup (da_cons (de_tup (da_cons de_int (da_cons de_int (da_cons de_int (da_cons de_int (da_cons de_int (da_cons de_int (da_cons de_int da_nil)))))))) (da_cons de_int da_nil))) (da_cons (de_tup (da_cons (de_tup (da_cons de_int (da_cons de_int (da_cons de_int (da_cons de_int (da_cons de_int (da_cons de_int (da_cons de_int da_nil)))))))) (da_cons de_int da_nil))) da_nil))))) (dss_one (ds_rt (de_call c (ks := []) (np := 2) (pm := [some 0, some 1]) (fn__law_same h) (fun fd FD => bnd_n FD rfl fun _ _ _ _ _ _ us ws h1 h2 => match us, ws, h1, h2 with | [_, _], [], _, _ => rfl) (da_cons (de_op c (de_var c 3) (de_lst (da_cons (de_call c (ks := []) (np := 2) (pm := [some 0, some 1]) (fn_laid_size h) (fun fd FD => bnd_n FD rfl fun _ _ _ _ _ _ us ws h1 h2 => match us, ws, h1, h2 with | [_, _], [], _, _ => rfl) (da_cons (de_var c 1) (da_cons (de_tup (da_cons de_int (da_cons de_int (da_cons de_int da_nil)))) da_nil)) dk_nil) da_nil))) (da_cons (de_op c (de_var c 0) (de_lst (da_cons de_int da_nil))) da_nil)) dk_nil)))))))
theorem fn__law_known_right {G : GC} (h : Hy G) : FnC G 102 54 "_law_known_right" (top 54) [] [] F__law_known_right := by
  obtain ⟨fd, FD⟩ := h.fd__law_known_right
  exact fnC_of FD h.m__law_known_right sc__law_known_right fun X c B lm => body__law_known_right h c B
/-! ### _law_deal -/
def N__law_deal : List Str := ["pail", "top", "figure", "mixed"]
abbrev es__law_deal : Es := (sSq (sIf (evOp (cmpF .Gt) (evOp subscD (evV 0) (evC (.int 0))) (evC (.int 0))) (sSq (sAs (evBi divmodD (evCons (evOp subscD (evV 0) (evC (.int 0))) (evCons (evV 1) evNil))) (gTp 2 (gsCons (gSb (evV 0) (evC (.int 0))) (gsCons (gNm 2) gsNil)))) (sRt (evV 2))) sNx) (sSq (sAs (evOp (fun _ => binF .Add) (evOp subscD (evV 0) (evC (.int 2))) (evC (.int 1))) (gSb (evV 0) (evC (.int 2)))) (sSq (sAs (evOp (fun _ => binF .Mod) (evBi intD (evCons (evOp (fun _ => binF .Add) (evOp (fun _ => binF .Mult) (evOp subscD (evV 0) (evC (.int 1))) (evC (.int 15511))) (evOp (fun _ => binF .Mult) (evC (.int 11903)) (evOp subscD (evV 0) (evC (.int 2))))) evNil)) (evC (.int 2147483423))) (gNm 3)) (sSq (sAs (evOp (fun _ => binF .Mod) (evBi intD (evCons (evOp (fun _ => binF .Add) (evOp (fun _ => binF .Mult) (evV 3) (evOp (fun _ => binF .Add) (evOp (fun _ => binF .Mod) (evBi intD (evCons (evV 3) evNil)) (evC (.int 5147))) (evC (.int 30011)))) (evOp (fun _ => binF .Mult) (evC (.int 31)) (evOp subscD (evV 0) (evC (.int 2))))) evNil)) (evC (.int 2147483423))) (gSb (evV 0) (evC (.int 1)))) (sRt (evOp (fun _ => binF .Mod) (evBi intD (evCons (evOp (fun _ => binF .FloorDiv) (evOp subscD (evV 0) (evC (.int 1))) (evC (.int 349))) evNil)) (evV 1)))))))
def F__law_deal : Fun := finF N__law_deal es__law_deal
theorem sc__law_deal : FnScope N__law_deal ["pail", "top"] (defScope (top 46)) := ⟨rfl, rfl, rfl, by decide +kernel, rfl, by decide +kernel, by decide +kernel⟩
theorem body__law_deal {G : GC} (h : Hy G) {X : Cx} (c : Cxt G 0 N__law_deal (defScope (top 46)) X) (B : Bdy X) : DSs G X (defBody (top 46)) es__law_deal :=
  (dss_cons (ds_if (dt_cmp c (de_ix c (de_var c 0) de_int) de_int) (dss_cons (es_as c (de_bi c (call_divmodD) h.no_divmod bt_divmod (da_cons (de_ix c (de_var c 0) de_int) (da_cons (de_var c 1) da_nil))) (dg_tp c (dgs_cons (dg_sb (de_var c 0) de_int) (dgs_cons (dg_nm c 2) dgs_nil)))) (dss_one (ds_rt (de_var c 2)))) dss_nil) (dss_cons (es_as c (de_op c (de_ix c (de_var c 0) de_int) de_int) (dg_sb (de_var c 0) de_int)) (dss_cons (es_set c 3 (de_op c (de_bt c (call_intD) h.no_int bt_int (da_cons (de_op c (de_op c (de_ix c (de_var c 0) de_int) de_int) (de_op c de_int (de_ix c (de_var c 0) de_int))) da_nil)) de_int)) (dss_cons (es_as c (de_op c (de_bt c (call_intD) h.no_int bt_int (da_cons (de_op c (de_op c (de_var c 3) (de_op c (de_op c (de_bt c (call_intD) h.no_int bt_int (da_cons (de_var c 3) da_nil)) de_int) de_int)) (de_op c de_int (de_ix c (de_var c 0) de_int))) da_nil)) de_int) (dg_sb (de_var c 0) de_int)) (dss_one (ds_rt (de_op c (de_bt c (call_intD) h.no_int bt_int (da_cons (de_op c (de_ix c (de_var c 0) de_int) de_int) da_nil)) (de_var c 1))))))))
theorem fn__law_deal {G : GC} (h : Hy G) : FnC G 1 46 "_law_deal" (top 46) [] ["pail", "top"] F__law_deal := by
  obtain ⟨fd, FD⟩ := h.fd__law_deal
  exact fnC_of FD h.m__law_deal sc__law_deal fun X c B lm => body__law_deal h c B
/-! ### _law_any -/
def N__law_any : List Str := ["pail", "some"]
abbrev es__law_any : Es := (sRt (evOp subscD (evV 1) (evCall F__law_deal 2 0 [some 0, some 1] (evCons (evV 0) (evCons (evBi lenD (evCons (evV 1) evNil)) evNil)) evNil)))
def F__law_any : Fun := finF N__law_any es__law_any
theorem sc__law_any : FnScope N__law_any ["pail", "some"] (defScope (top 47)) := ⟨rfl, rfl, rfl, by decide +kernel, rfl, by decide +kernel, by decide +kernel⟩
theorem body__law_any {G : GC} (h : Hy G) {X : Cx} (c : Cxt G 1 N__law_any (defScope (top 47)) X) (B : Bdy X) : DSs G X (defBody (top 47)) es__law_any :=
  (dss_one (ds_rt (de_ix c (de_var c 1) (de_call c (ks := []) (np := 2) (pm := [some 0, some 1]) (fn__law_deal h) (fun fd FD => bnd_n FD rfl fun _ _ _ _ _ _ us ws h1 h2 => match us, ws, h1, h2 with | [_, _], [], _, _ => rfl) (da_cons (de_var c 0) (da_cons (de_bi c (call_lenD c) h.no_len bt_len (da_cons (de_var c 1) da_nil)) da_nil)) dk_nil))))
theorem fn__law_any {G : GC} (h : Hy G) : FnC G 2 47 "_law_any" (top 47) [] ["pail", "some"] F__law_any := by
  obtain ⟨fd, FD⟩ := h.fd__law_any
  exact fnC_of FD h.m__law_any sc__law_any fun X c B lm => body__law_any h c B
/-! ### _law_web -/
def N__law_web : List Str := ["pail", "most", "top", "first", "high", "low", "many", "nodes", "second", "turn", "ways"]
/-- [_law_any(pail, [_law_deal(pail, many), _law_deal(pail, many), 'end', 'end']) for turn in (0, 1)] -/
abbrev ce__law_web_1 : Ev := (evCall F__law_any 2 0 [some 0, some 1] (evCons (evV 0) (evCons (evLst (evCons (evCall F__law_deal 2 0 [some 0, some 1] (evCons (evV 0) (evCons (evV 6) evNil)) evNil) (evCons (evCall F__law_deal 2 0 [some 0, some 1] (evCons (evV 0) (evCons (evV 6) evNil)) evNil) (evCons (evC (.str "end")) (evCons (evC (.str "end")) evNil))))) evNil)) evNil)
/-- turn -/
abbrev lt__law_web_1 : Tg := (gNm 9)
/-- for turn in range(many): -/
abbrev lb__law_web_1 : Es := (sSq (sP2 3 8 (evCons (evCall F__law_any 2 0 [some 0, some 1] (evCons (evV 0) (evCons (evLst (evCons (evCall F__law_deal 2 0 [some 0, some 1] (evCons (evV 0) (evCons (evV 2) evNil)) evNil) (evCons (evCall F__law_deal 2 0 [some 0, some 1] (evCons (evV 0) (evCons (evV 2) evNil)) evNil) (evCons (evC (.int 1022)) evNil)))) evNil)) evNil) (evCons (evCall F__law_deal 2 0 [some 0, some 1] (evCons (evV 0) (evCons (evV 2) evNil)) evNil) evNil))) (sSq (sAs (evCall F__law_any 2 0 [some 0, some 1] (evCons (evV 0) (evCons (evLst (evCons (evV 8) (evCons (evV 8) (evCons (evV 8) (evCons (evIte (evOp (cmpF .NotEq) (evV 3) (evC (.int 1022))) (evV 3) (evV 8)) (evCons (evC (.int 1023)) evNil)))))) evNil)) evNil) (gNm 8)) (sSq (sAs (evLc (evSqT (evTup (evCons (evC (.int 0)) (evCons (evC (.int 1)) evNil)))) (gNm 9) (evC (.bl true)) ce__law_web_1 [9]) (gNm 10)) (sSq (sAs (evLst (evCons (evCall F__law_any 2 0 [some 0, some 1] (evCons (evV 0) (evCons (evOp (fun _ => binF .Add) (evOp (fun _ => binF .Mult) (evLst (evCons (evOp subscD (evV 10) (evC (.int 0))) evNil)) (evC (.int 6))) (evLst (evCons (evC (.str "ever")) (evCons (evOp subscD (evV 10) (evC (.int 1))) evNil)))) evNil)) evNil) (evCons (evCall F__law_any 2 0 [some 0, some 1] (evCons (evV 0) (evCons (evOp (fun _ => binF .Add) (evOp (fun _ => binF .Mult) (evLst (evCons (evOp subscD (evV 10) (evC (.int 1))) evNil)) (evC (.int 6))) (evLst (evCons (evC (.str "ever")) (evCons (evOp subscD (evV 10) (evC (.int 0))) evNil)))) evNil)) evNil) evNil))) (gNm 10)) (sSq (sAs (evCall F__law_any 2 0 [some 0, some 1] (evCons (evV 0) (evCons (evLst (evCons (evV 10) (evCons (evV 10) (evCons (evV 10) (evCons (evLst (evCons (evC .non) (evCons (evOp subscD (evV 10) (evC (.int 1))) evNil))) (evCons (evLst (evCons (evOp subscD (evV 10) (evC (.int 0))) (evCons (evC .non) evNil))) evNil)))))) evNil)) evNil) (gLs 2 (gsCons (gNm 5) (gsCons (gNm 4) gsNil)))) (sSq (sIf (evOp (cmpF .Eq) (evV 8) (evC (.int 1023))) (sP2 5 4 (evCons (evC .non) (evCons (evOp subscD (evV 10) (evC (.int 1))) evNil))) sNx) (sSq (sIf (evOp (cmpF .Eq) (evV 3) (evV 8)) (sP2 5 4 (evCons (evOp subscD (evV 10) (evC (.int 0))) (evCons (evC .non) evNil))) sNx) (sAs (evOp (fun _ => binF .Add) (evV 7) (evTup (evCons (evTup (evCons (evV 3) (evCons (evV 8) (evCons (evV 5) (evCons (evV 4) evNil))))) evNil))) (gNm 7)))))))))
abbrev es__law_web : Es := (sSq (sAs (evTup (evCons (evOp (fun _ => binF .Add) (evC (.int 1)) (evCall F__law_deal 2 0 [some 0, some 1] (evCons (evV 0) (evCons (evV 1) evNil)) evNil)) (evCons (evTup evNil) evNil))) (gTp 2 (gsCons (gNm 6) (gsCons (gNm 7) gsNil)))) (sSq (sFor (evR1 (evCons (evV 6) evNil)) lt__law_web_1 lb__law_web_1) (sRt (evTup (evCons (evCall F__law_any 2 0 [some 0, some 1] (evCons (evV 0) (evCons (evLst (evCons (evC (.int 0)) (evCons (evC (.int 0)) (evCons (evC (.int 0)) (evCons (evCall F__law_deal 2 0 [some 0, some 1] (evCons (evV 0) (evCons (evV 6) evNil)) evNil) (evCons (evCall F__law_any 2 0 [some 0, some 1] (evCons (evV 0) (evCons (evLst (evCons (evC (.str "end")) (evCons (evC (.str "ever")) (evCons (evC (.int 0)) evNil)))) evNil)) evNil) evNil)))))) evNil)) evNil) (evCons (evV 7) evNil))))))
def F__law_web : Fun := finF N__law_web es__law_web
theorem sc__law_web : FnScope N__law_web ["pail", "most", "top"] (defScope (top 51)) := ⟨rfl, rfl, rfl, by decide +kernel, rfl, by decide +kernel, by decide +kernel⟩
theorem body__law_web {G : GC} (h : Hy G) {X : Cx} (c : Cxt G 2 N__law_web (defScope (top 51)) X) (B : Bdy X) : DSs G X (defBody (top 51)) es__law_web :=
  (dss_cons (es_as c (de_tup (da_cons (de_op c de_int (de_call c (ks := []) (np := 2) (pm := [some 0, some 1]) (fn__law_deal h) (fun fd FD => bnd_n FD rfl fun _ _ _ _ _ _ us ws h1 h2 => match us, ws, h1, h2 with | [_, _], [], _, _ => rfl) (da_cons (de_var c 0) (da_cons (de_var c 1) da_nil)) dk_nil)) (da_cons (de_tup da_nil) da_nil))) (dg_tp c (dgs_cons (dg_nmC c 6 (B.fnt _)) (dgs_cons (dg_nm c 7) dgs_nil)))) (dss_cons (ds_for c (di_r1 c h.no_range (da_cons (de_var c 6) da_nil)) (dg_nm c 9) (dss_cons (es_p2 c 3 8 (da_cons (de_call c (ks := []) (np := 2) (pm := [some 0, some 1]) (fn__law_any h) (fun fd FD => bnd_n FD rfl fun _ _ _ _ _ _ us ws h1 h2 => match us, ws, h1, h2 with | [_, _], [], _, _ => rfl) (da_cons (de_var c 0) (da_cons (de_lst (da_cons (de_call c (ks := []) (np := 2) (pm := [some 0, some 1]) (fn__law_deal h) (fun fd FD => bnd_n FD rfl fun _ _ _ _ _ _ us ws h1 h2 => match us, ws, h1, h2 with | [_, _], [], _, _ => rfl) (da_cons (de_var c 0) (da_cons (de_var c 2) da_nil)) dk_nil) (da_cons (de_call c (ks := []) (np := 2) (pm := [some 0, some 1]) (fn__law_deal h) (fun fd FD => bnd_n FD rfl fun _ _ _ _ _ _ us ws h1 h2 => match us, ws, h1, h2 with | [_, _], [], _, _ => rfl) (da_cons (de_var c 0) (da_cons (de_var c 2) da_nil)) dk_nil) (da_cons de_int da_nil)))) da_nil)) dk_nil) (da_cons (de_call c (ks := []) (np := 2) (pm := [some 0, some 1]) (fn__law_deal h) (fun fd FD => bnd_n FD rfl fun _ _ _ _ _ _ us ws h1 h2 => match us, ws, h1, h2 with | [_, _], [], _, _ => rfl) (da_cons (de_var c 0) (da_cons (de_var c 2) da_nil)) dk_nil) da_nil))) (dss_cons (es_set c 8 (de_call c (ks := []) (np := 2) (pm := [some 0, some 1]) (fn__law_any h) (fun fd FD => bnd_n FD rfl fun _ _ _ _ _ _ us ws h1 h2 => match us, ws, h1, h2 with | [_, _], [], _, _ => rfl) (da_cons (de_var c 0) (da_cons (de_lst (da_cons (de_var c 8) (da_cons (de_var c 8) (da_cons (de_var c 8) (da_cons (de_ite (dt_cmp c (de_var c 3) de_int) (de_var c 3) (de_var c 8)) (da_cons de_int da_nil)))))) da_nil)) dk_nil)) (dss_cons (es_setLc c [("turn", 9)] 10 (di_tup c (de_tup (da_cons de_int (da_cons de_int da_nil)))) (fun X' c' => (dgb_nm c' 9)) (fun X' c' => dts_nil) (fun X' c' => (de_call c' (ks := []) (np := 2) (pm := [some 0, some 1]) (fn__law_any h) (fun fd FD => bnd_n FD rfl fun _ _ _ _ _ _ us ws h1 h2 => match us, ws, h1, h2 with | [_, _], [], _, _ => rfl) (da_cons (de_var c' 0) (da_cons (de_lst (da_cons (de_call c' (ks := []) (np := 2) (pm := [some 0, some 1]) (fn__law_deal h) (fun fd FD => bnd_n FD rfl fun _ _ _ _ _ _ us ws h1 h2 => match us, ws, h1, h2 with | [_, _], [], _, _ => rfl) (da_cons (de_var c' 0) (da_cons (de_var c' 6) da_nil)) dk_nil) (da_cons (de_call c' (ks := []) (np := 2) (pm := [some 0, some 1]) (fn__law_deal h) (fun fd FD => bnd_n FD rfl fun _ _ _ _ _ _ us ws h1 h2 => match us, ws, h1, h2 with | [_, _], [], _, _ => rfl) (da_cons (de_var c' 0) (da_cons (de_var c' 6) da_nil)) dk_nil) (da_cons de_str (da_cons de_str da_nil))))) da_nil)) dk_nil))) (dss_cons (es_set c 10 (de_lst (da_cons (de_call c (ks := []) (np := 2) (pm := [some 0, some 1]) (fn__law_any h) (fun fd FD => bnd_n FD rfl fun _ _ _ _ _ _ us ws h1 h2 => match us, ws, h1, h2 with | [_, _], [], _, _ => rfl) (da_cons (de_var c 0) (da_cons (de_op c (de_op c (de_lst (da_cons (de_ix c (de_var c 10) de_int) da_nil)) de_int) (de_lst (da_cons de_str (da_cons (de_ix c (de_var c 10) de_int) da_nil)))) da_nil)) dk_nil) (da_cons (de_call c (ks := []) (np := 2) (pm := [some 0, some 1]) (fn__law_any h) (fun fd FD => bnd_n FD rfl fun _ _ _ _ _ _ us ws h1 h2 => match us, ws, h1, h2 with | [_, _], [], _, _ => rfl) (da_cons (de_var c 0) (da_cons (de_op c (de_op c (de_lst (da_cons (de_ix c (de_var c 10) de_int) da_nil)) de_int) (de_lst (da_cons de_str (da_cons (de_ix c (de_var c 10) de_int) da_nil)))) da_nil)) dk_nil) da_nil)))) (dss_cons (es_as c (de_call c (ks := []) (np := 2) (pm := [some 0, some 1]) (fn__law_any h) (fun fd FD => bnd_n FD rfl fun _ _ _ _ _ _ us ws h1 h2 => match us, ws, h1, h2 with | [_, _], [], _, _ => rfl) (da_cons (de_var c 0) (da_cons (de_lst (da_cons (de_var c 10) (da_cons (de_var c 10) (da_cons (de_var c 10) (da_cons (de_lst (da_cons de_non (da_cons (de_ix c (de_var c 10) de_int) da_nil))) (da_cons (de_lst (da_cons (de_ix c (de_var c 10) de_int) (da_cons de_non da_nil))) da_nil)))))) da_nil)) dk_nil) (dg_ls c (dgs_cons (dg_nm c 5) (dgs_cons (dg_nm c 4) dgs_nil)))) (dss_cons (ds_if (dt_cmp c (de_var c 8) de_int) (dss_one (es_p2 c 5 4 (da_cons de_non (da_cons (de_ix c (de_var c 10) de_int) da_nil)))) dss_nil) (dss_cons (ds_if (dt_cmp c (de_var c 3) (de_var c 8)) (dss_one (es_p2 c 5 4 (da_cons (de_ix c (de_var c 10) de_int) (da_cons de_non da_nil)))) dss_nil) (dss_one (es_set c 7 (de_op c (de_var c 7) (de_tup (da_cons (de_tup (da_cons (de_var c 3) (da_cons (de_var c 8) (da_cons (de_var c 5) (da_cons (de_var c 4) da_nil))))) da_nil))))))))))))) (dss_one (ds_rt (de_tup (da_cons (de_call c (ks := []) (np := 2) (pm := [some 0, some 1]) (fn__law_any h) (fun fd FD => bnd_n FD rfl fun _ _ _ _ _ _ us ws h1 h2 => match us, ws, h1, h2 with | [_, _], [], _, _ => rfl) (da_cons (de_var c 0) (da_cons (de_lst (da_cons de_int (da_cons de_int (da_cons de_int (da_cons (de_call c (ks := []) (np := 2) (pm := [some 0, some 1]) (fn__law_deal h) (fun fd FD => bnd_n FD rfl fun _ _ _ _ _ _ us ws h1 h2 => match us, ws, h1, h2 with | [_, _], [], _, _ => rfl) (da_cons (de_var c 0) (da_cons (de_var c 6) da_nil)) dk_nil) (da_cons (de_call c (ks := []) (np := 2) (pm := [some 0, some 1]) (fn__law_any h) (fun fd FD => bnd_n FD rfl fun _ _ _ _ _ _ us ws h1 h2 => match us, ws, h1, h2 with | [_, _], [], _, _ => rfl) (da_cons (de_var c 0) (da_cons (de_lst (da_cons de_str (da_cons de_str (da_cons de_int da_nil)))) da_nil)) dk_nil) da_nil)))))) da_nil)) dk_nil) (da_cons (de_var c 7) da_nil)))))))
theorem fn__law_web {G : GC} (h : Hy G) : FnC G 3 51 "_law_web" (top 51) [] ["pail", "most", "top"] F__law_web := by
  obtain ⟨fd, FD⟩ := h.fd__law_web
  exact fnC_of FD h.m__law_web sc__law_web fun X c B lm => body__law_web h c B
/-! ### _law_cells -/
def N__law_cells : List Str := ["pail", "many", "turn"]
/-- [_law_any(pail, [0, 1, 2, 511, 512, 1023, _law_deal(pail, 1024)]) for turn in range(many)] -/
abbrev ce__law_cells_1 : Ev := (evCall F__law_any 2 0 [some 0, some 1] (evCons (evV 0) (evCons (evLst (evCons (evC (.int 0)) (evCons (evC (.int 1)) (evCons (evC (.int 2)) (evCons (evC (.int 511)) (evCons (evC (.int 512)) (evCons (evC (.int 1023)) (evCons (evCall F__law_deal 2 0 [some 0, some 1] (evCons (evV 0) (evCons (evC (.int 1024)) evNil)) evNil) evNil)))))))) evNil)) evNil)
abbrev es__law_cells : Es := (sRt (evBi tupleD (evCons (evLc (evR1 (evCons (evV 1) evNil)) (gNm 2) (evC (.bl true)) ce__law_cells_1 [2]) evNil)))
def F__law_cells : Fun := finF N__law_cells es__law_cells
theorem sc__law_cells : FnScope N__law_cells ["pail", "many"] (defScope (top 52)) := ⟨rfl, rfl, rfl, by decide +kernel, rfl, by decide +kernel, by decide +kernel⟩
theorem body__law_cells {G : GC} (h : Hy G) {X : Cx} (c : Cxt G 2 N__law_cells (defScope (top 52)) X) (B : Bdy X) : DSs G X (defBody (top 52)) es__law_cells :=
  (dss_one (ds_rt (de_bt c (call_tupleD c) h.no_tuple bt_tuple (da_cons (de_lc c [("turn", 2)] (di_r1 c h.no_range (da_cons (de_var c 1) da_nil)) (fun X' c' => (dgb_nm c' 2)) (fun X' c' => dts_nil) (fun X' c' => (de_call c' (ks := []) (np := 2) (pm := [some 0, some 1]) (fn__law_any h) (fun fd FD => bnd_n FD rfl fun _ _ _ _ _ _ us ws h1 h2 => match us, ws, h1, h2 with | [_, _], [], _, _ => rfl) (da_cons (de_var c' 0) (da_cons (de_lst (da_cons de_int (da_cons de_int (da_cons de_int (da_cons de_int (da_cons de_int (da_cons de_int (da_cons (de_call c' (ks := []) (np := 2) (pm := [some 0, some 1]) (fn__law_deal h) (fun fd FD => bnd_n FD rfl fun _ _ _ _ _ _ us ws h1 h2 => match us, ws, h1, h2 with | [_, _], [], _, _ => rfl) (da_cons (de_var c' 0) (da_cons de_int da_nil)) dk_nil) da_nil)))))))) da_nil)) dk_nil))) da_nil))))
theorem fn__law_cells {G : GC} (h : Hy G) : FnC G 3 52 "_law_cells" (top 52) [] ["pail", "many"] F__law_cells := by
  obtain ⟨fd, FD⟩ := h.fd__law_cells
  exact fnC_of FD h.m__law_cells sc__law_cells fun X c B lm => body__law_cells h c B
/-! ### _law_laid -/
def N__law_laid : List Str := ["web", "cells", "at", "begin", "ever", "first", "found", "goes", "high", "is_end_v", "is_ever", "last", "low", "node", "nodes", "pair", "second", "spots", "start", "ways", "own", "way"]
/-- node -/
abbrev lt__law_laid_1 : Tg := (gNm 13)
/-- for node in nodes: -/
abbrev lb__law_laid_1 : Es := (sAs (evOp (fun _ => binF .Add) (evV 19) (evBi listD (evCons (evSlice (evV 13) (evSo (evC (.int 2))) evNo) evNil))) (gNm 19))
/-- node -/
abbrev lt__law_laid_2 : Tg := (gNm 13)
/-- for node in nodes: -/
abbrev lb__law_laid_2 : Es := (sSq (sEx (evApC (evV 17) (evV 2))) (sAs (evOp (fun _ => binF .Add) (evV 2) (evIte (evOp (cmpF .Eq) (evOp subscD (evV 13) (evC (.int 0))) (evOp subscD (evV 13) (evC (.int 1)))) (evC (.int 3)) (evC (.int 6)))) (gNm 2)))
/-- [own + at + 1 if own < 1000 else own for own in (first, second)] -/
abbrev ce__law_laid_1 : Ev := (evIte (evOp (cmpF .Lt) (evV 20) (evC (.int 1000))) (evOp (fun _ => binF .Add) (evOp (fun _ => binF .Add) (evV 20) (evV 2)) (evC (.int 1))) (evV 20))
/-- [1023 if way is None or way == 'end' else ever if way == 'ever' else spots[way] for way in (low, high)] -/
abbrev ce__law_laid_2 : Ev := (evIte (evOr (evOp (cmpF .Is) (evV 21) (evC .non)) (evOp (cmpF .Eq) (evV 21) (evC (.str "end")))) (evC (.int 1023)) (evIte (evOp (cmpF .Eq) (evV 21) (evC (.str "ever"))) (evV 4) (evOp subscD (evV 17) (evV 21))))
/-- (first, second, low, high) -/
abbrev lt__law_laid_3 : Tg := (gTp 4 (gsCons (gNm 5) (gsCons (gNm 16) (gsCons (gNm 12) (gsCons (gNm 8) gsNil)))))
/-- for first, second, low, high in nodes: -/
abbrev lb__law_laid_3 : Es := (sSq (sAs (evLc (evSqT (evTup (evCons (evV 5) (evCons (evV 16) evNil)))) (gNm 20) (evC (.bl true)) ce__law_laid_1 [20]) (gNm 15)) (sSq (sAs (evLc (evSqT (evTup (evCons (evV 12) (evCons (evV 8) evNil)))) (gNm 21) (evC (.bl true)) ce__law_laid_2 [21]) (gNm 7)) (sAs (evOp (fun _ => binF .Add) (evOp (fun _ => binF .Add) (evOp (fun _ => binF .Add) (evV 6) (evV 15)) (evSlice (evV 7) evNo (evSo (evC (.int 1))))) (evIte (evOp (cmpF .NotEq) (evV 5) (evV 16)) (evLst (evCons (evV 2) (evCons (evV 2) (evCons (evOp subscD (evV 7) (evC (.int 1))) evNil)))) (evLst evNil))) (gNm 6))))
abbrev es__law_laid : Es := (sSq (sP2 14 18 (evCons (evOp subscD (evV 0) (evC (.int 1))) (evCons (evOp subscD (evV 0) (evC (.int 0))) evNil))) (sSq (sAs (evLst (evCons (evV 18) evNil)) (gNm 19)) (sSq (sFor (evSqT (evV 14)) lt__law_laid_1 lb__law_laid_1) (sSq (sP2 10 9 (evCons (evOp (cmpF .In) (evC (.str "ever")) (evV 19)) (evCons (evOp (cmpF .Eq) (evV 18) (evC (.str "end"))) evNil))) (sSq (sAs (evTup (evCons (evLstC evNil) (evCons (evC (.int 0)) evNil))) (gTp 2 (gsCons (gNm 17) (gsCons (gNm 2) gsNil)))) (sSq (sFor (evSqT (evV 14)) lt__law_laid_2 lb__law_laid_2) (sSq (sAs (evTup (evCons (evV 2) (evCons (evOp (fun _ => binF .Add) (evV 2) (evIte (evV 10) (evC (.int 3)) (evC (.int 0)))) evNil))) (gTp 2 (gsCons (gNm 4) (gsCons (gNm 2) gsNil)))) (sSq (sAs (evTup (evCons (evV 2) (evCons (evOp (fun _ => binF .Add) (evV 2) (evIte (evV 9) (evC (.int 3)) (evC (.int 0)))) evNil))) (gTp 2 (gsCons (gNm 11) (gsCons (gNm 2) gsNil)))) (sSq (sAs (evLst evNil) (gNm 6)) (sSq (sFor (evSqT (evV 14)) lt__law_laid_3 lb__law_laid_3) (sSq (sAs (evOp (fun _ => binF .Add) (evOp (fun _ => binF .Add) (evV 6) (evIte (evV 10) (evLst (evCons (evV 2) (evCons (evV 2) (evCons (evV 4) evNil)))) (evLst evNil))) (evIte (evV 9) (evLst (evCons (evV 2) (evCons (evV 2) (evCons (evC (.int 1023)) evNil)))) (evLst evNil))) (gNm 6)) (sSq (sAs (evIte (evV 9) (evV 11) (evIte (evOp (cmpF .Eq) (evV 18) (evC (.str "ever"))) (evV 4) (evOp subscD (evV 17) (evV 18)))) (gNm 3)) (sRt (evTup (evCons (evBi tupleD (evCons (evOp (fun _ => binF .Add) (evOp (fun _ => binF .Add) (evV 6) (evLst (evCons (evC (.int 0)) evNil))) (evBi listD (evCons (evV 1) evNil))) evNil)) (evCons (evV 3) evNil))))))))))))))))
def F__law_laid : Fun := finF N__law_laid es__law_laid
theorem sc__law_laid : FnScope N__law_laid ["web", "cells"] (defScope (top 48)) := ⟨rfl, rfl, rfl, by decide +kernel, rfl, by decide +kernel, by decide +kernel⟩
theorem body__law_laid {G : GC} (h : Hy G) {X : Cx} (c : Cxt G 0 N__law_laid (defScope (top 48)) X) (B : Bdy X) : DSs G X (defBody (top 48)) es__law_laid :=
  (dss_cons (es_p2 c 14 18 (da_cons (de_ix c (de_var c 0) de_int) (da_cons (de_ix c (de_var c 0) de_int) da_nil))) (dss_cons (es_set c 19 (de_lst (da_cons (de_var c 18) da_nil))) (dss_cons (ds_for c (di_tup c (de_var c 14)) (dg_nm c 13) (dss_one (es_set c 19 (de_op c (de_var c 19) (de_bt c (call_listD' c) h.no_list bt_list (da_cons (de_slice c (de_var c 13) (do_some de_int) do_no) da_nil)))))) (dss_cons (es_p2 c 10 9 (da_cons (de_cmp c de_str (de_var c 19)) (da_cons (de_cmp c (de_var c 18) de_str) da_nil))) (dss_cons (es_as c (de_tup (da_cons (de_lstC da_nil) (da_cons de_int da_nil))) (dg_tp c (dgs_cons (dg_nmC c 17 (B.fnt _)) (dgs_cons (dg_nmC c 2 (B.fnt _)) dgs_nil)))) (dss_cons (ds_for c (di_tup c (de_var c 14)) (dg_nm c 13) (dss_cons (ds_ex (de_apC c (de_var c 17) (de_var c 2))) (dss_one (es_setC c B 2 (de_op c (de_var c 2) (de_ite (dt_cmp c (de_ix c (de_var c 13) de_int) (de_ix c (de_var c 13) de_int)) de_int de_int)))))) (dss_cons (es_as c (de_tup (da_cons (de_var c 2) (da_cons (de_op c (de_var c 2) (de_ite (dt_val (de_var c 10)) de_int de_int)) da_nil))) (dg_tp c (dgs_cons (dg_nmC c 4 (B.fnt _)) (dgs_cons (dg_nmC c 2 (B.fnt _)) dgs_nil)))) (dss_cons (es_as c (de_tup (da_cons (de_var c 2) (da_cons (de_op c (de_var c 2) (de_ite (dt_val (de_var c 9)) de_int de_int)) da_nil))) (dg_tp c (dgs_cons (dg_nm c 11) (dgs_cons (dg_nmC c 2 (B.fnt _)) dgs_nil)))) (dss_cons (es_set c 6 (de_lst da_nil)) (dss_cons (ds_for c (di_tup c (de_var c 14)) (dg_tp c (dgs_cons (dg_nm c 5) (dgs_cons (dg_nm c 16) (dgs_cons (dg_nm c 12) (dgs_cons (dg_nm c 8) dgs_nil))))) (dss_cons (es_setLc c [("own", 20)] 15 (di_tup c (de_tup (da_cons (de_var c 5) (da_cons (de_var c 16) da_nil)))) (fun X' c' => (dgb_nm c' 20)) (fun X' c' => dts_nil) (fun X' c' => (de_ite (dt_cmp c' (de_var c' 20) de_int) (de_op c' (de_op c' (de_var c' 20) (de_var c' 2)) de_int) (de_var c' 20)))) (dss_cons (es_setLc c [("way", 21)] 7 (di_tup c (de_tup (da_cons (de_var c 12) (da_cons (de_var c 8) da_nil)))) (fun X' c' => (dgb_nm c' 21)) (fun X' c' => dts_nil) (fun X' c' => (de_ite (DW.t (dw_or (dt_cmp c' (de_var c' 21) de_non) (dw_or1 (dt_cmp c' (de_var c' 21) de_str)))) de_int (de_ite (dt_cmp c' (de_var c' 21) de_str) (de_var c' 4) (de_ix c' (de_var c' 17) (de_var c' 21)))))) (dss_one (es_set c 6 (de_op c (de_op c (de_op c (de_var c 6) (de_var c 15)) (de_slice c (de_var c 7) do_no (do_some de_int))) (de_ite (dt_cmp c (de_var c 5) (de_var c 16)) (de_lst (da_cons (de_var c 2) (da_cons (de_var c 2) (da_cons (de_ix c (de_var c 7) de_int) da_nil)))) (de_lst da_nil)))))))) (dss_cons (es_set c 6 (de_op c (de_op c (de_var c 6) (de_ite (dt_val (de_var c 10)) (de_lst (da_cons (de_var c 2) (da_cons (de_var c 2) (da_cons (de_var c 4) da_nil)))) (de_lst da_nil))) (de_ite (dt_val (de_var c 9)) (de_lst (da_cons (de_var c 2) (da_cons (de_var c 2) (da_cons de_int da_nil)))) (de_lst da_nil)))) (dss_cons (es_set c 3 (de_ite (dt_val (de_var c 9)) (de_var c 11) (de_ite (dt_cmp c (de_var c 18) de_str) (de_var c 4) (de_ix c (de_var c 17) (de_var c 18))))) (dss_one (ds_rt (de_tup (da_cons (de_bt c (call_tupleD c) h.no_tuple bt_tuple (da_cons (de_op c (de_op c (de_var c 6) (de_lst (da_cons de_int da_nil))) (de_bt c (call_listD' c) h.no_list bt_list (da_cons (de_var c 1) da_nil))) da_nil)) (da_cons (de_var c 3) da_nil)))))))))))))))))
theorem fn__law_laid {G : GC} (h : Hy G) : FnC G 1 48 "_law_laid" (top 48) [] ["web", "cells"] F__law_laid := by
  obtain ⟨fd, FD⟩ := h.fd__law_laid
  exact fnC_of FD h.m__law_laid sc__law_laid fun X c B lm => body__law_laid h c B
/-! ### _law_swapped -/
def N__law_swapped : List Str := ["row", "at", "thing"]
abbrev es__law_swapped : Es := (sRt (evOp (fun _ => binF .Add) (evOp (fun _ => binF .Add) (evSlice (evV 0) evNo (evSo (evV 1))) (evTup (evCons (evV 2) evNil))) (evSlice (evV 0) (evSo (evOp (fun _ => binF .Add) (evV 1) (evC (.int 1)))) evNo)))
def F__law_swapped : Fun := finF N__law_swapped es__law_swapped
theorem sc__law_swapped : FnScope N__law_swapped ["row", "at", "thing"] (defScope (top 50)) := ⟨rfl, rfl, rfl, by decide +kernel, rfl, by decide +kernel, by decide +kernel⟩
theorem body__law_swapped {G : GC} (h : Hy G) {X : Cx} (c : Cxt G 0 N__law_swapped (defScope (top 50)) X) (B : Bdy X) : DSs G X (defBody (top 50)) es__law_swapped :=
  (dss_one (ds_rt (de_op c (de_op c (de_slice c (de_var c 0) do_no (do_some (de_var c 1))) (de_tup (da_cons (de_var c 2) da_nil))) (de_slice c (de_var c 0) (do_some (de_op c (de_var c 1) de_int)) do_no))))
theorem fn__law_swapped {G : GC} (h : Hy G) : FnC G 1 50 "_law_swapped" (top 50) [] ["row", "at", "thing"] F__law_swapped := by
  obtain ⟨fd, FD⟩ := h.fd__law_swapped
  exact fnC_of FD h.m__law_swapped sc__law_swapped fun X c B lm => body__law_swapped h c B
/-! ### _law_right -/
def N__law_right : List Str := ["pail", "cells", "due", "great", "many", "row", "size", "told", "turn", "web", "wide"]
/-- turn -/
abbrev lt__law_right_1 : Tg := (gNm 8)
/-- for turn in range(3): -/
abbrev lb__law_right_1 : Es := (sSq (sAs (evOp (fun _ => binF .Add) (evC (.int 3)) (evCall F__law_deal 2 0 [some 0, some 1] (evCons (evV 0) (evCons (evC (.int 4)) evNil)) evNil)) (gNm 4)) (sSq (sAs (evTup (evCons (evCall F__law_web 3 0 [some 0, some 1, some 2] (evCons (evV 0) (evCons (evC (.int 7)) (evCons (evV 4) evNil))) evNil) (evCons (evCall F__law_cells 2 0 [some 0, some 1] (evCons (evV 0) (evCons (evV 4) evNil)) evNil) evNil))) (gTp 2 (gsCons (gNm 9) (gsCons (gNm 1) gsNil)))) (sSq (sAs (evCall F__law_laid 2 0 [some 0, some 1] (evCons (evV 9) (evCons (evV 1) evNil)) evNil) (gNm 2)) (sSq (sAs (evLst (evCons (evCall F_laid 2 0 [some 0, some 1] (evCons (evV 9) (evCons (evV 1) evNil)) evNil) (evCons (evCall F_laid 1 1 [some 0, some 1] (evCons (evV 9) evNil) (evCons (evV 1) evNil)) (evCons (evCall F_laid_size 2 0 [some 0, some 1] (evCons (evV 9) (evCons (evV 1) evNil)) evNil) (evCons (evCall F_laid_size 1 1 [some 0, some 1] (evCons (evV 9) evNil) (evCons (evV 1) evNil)) evNil))))) (gNm 7)) (sSq (sIf (evNot (evCall F__law_same 2 0 [some 0, some 1] (evCons (evV 7) (evCons (evLst (evCons (evV 2) (evCons (evV 2) (evCons (evBi lenD (evCons (evOp subscD (evV 2) (evC (.int 0))) evNil)) (evCons (evBi lenD (evCons (evOp subscD (evV 2) (evC (.int 0))) evNil)) evNil))))) evNil)) evNil)) (sRt (evC (.bl false))) sNx) (sSq (sAs (evCall F__law_swapped 3 0 [some 0, some 1, some 2] (evCons (evOp subscD (evV 9) (evC (.int 1))) (evCons (evC (.int 0)) (evCons (evTup (evCons (evOp (fun _ => binF .Add) (evV 4) (evCall F__law_deal 2 0 [some 0, some 1] (evCons (evV 0) (evCons (evC (.int 3)) evNil)) evNil)) (evCons (evC (.int 0)) (evCons (evC (.str "end")) (evCons (evC (.str "end")) evNil))))) evNil))) evNil) (gNm 10)) (sIf (evOp (cmpF .NotEq) (evRefX R__law_refused told__law_refused (evCall F_laid 2 0 [some 0, some 1] (evCons (evTup (evCons (evOp subscD (evV 9) (evC (.int 0))) (evCons (evV 10) evNil))) (evCons (evV 1) evNil)) evNil)) (evLst (evCons (evC (.str "fit")) (evCons (evTup (evCons (evOp subscD (evV 9) (evC (.int 0))) (evCons (evV 10) evNil))) evNil)))) (sRt (evC (.bl false))) sNx)))))))
abbrev es__law_right : Es := (sSq (sFor (evR1 (evCons (evC (.int 3)) evNil)) lt__law_right_1 lb__law_right_1) (sSq (sP2 5 6 (evCons (evTup (evCons (evC (.int 0)) (evCons (evC (.int 1)) (evCons (evC (.str "end")) (evCons (evC (.str "end")) evNil))))) (evCons (evOp (fun _ => binF .Add) (evC (.int 160)) (evCall F__law_deal 2 0 [some 0, some 1] (evCons (evV 0) (evCons (evC (.int 12)) evNil)) evNil)) evNil))) (sSq (sAs (evTup (evCons (evTup (evCons (evC (.int 0)) (evCons (evOp (fun _ => binF .Mult) (evTup (evCons (evV 5) evNil)) (evV 6)) evNil))) (evCons (evCall F__law_cells 2 0 [some 0, some 1] (evCons (evV 0) (evCons (evOp (fun _ => binF .Add) (evC (.int 3)) (evCall F__law_deal 2 0 [some 0, some 1] (evCons (evV 0) (evCons (evC (.int 60)) evNil)) evNil)) evNil)) evNil) evNil))) (gTp 2 (gsCons (gNm 3) (gsCons (gNm 1) gsNil)))) (sSq (sAs (evOp (fun _ => binF .Add) (evOp (fun _ => binF .Add) (evOp (fun _ => binF .Mult) (evC (.int 6)) (evV 6)) (evC (.int 1))) (evBi lenD (evCons (evV 1) evNil))) (gNm 6)) (sSq (sIf (evOp (cmpF .NotEq) (evCall F_laid_size 2 0 [some 0, some 1] (evCons (evV 3) (evCons (evV 1) evNil)) evNil) (evV 6)) (sRt (evC (.bl false))) sNx) (sSq (sIf (evOp (cmpF .Gt) (evV 6) (evC (.int 1000))) (sRt (evOp (cmpF .Eq) (evRefX R__law_refused told__law_refused (evCall F_laid 1 1 [some 0, some 1] (evCons (evV 3) evNil) (evCons (evV 1) evNil))) (evLst (evCons (evC (.str "great")) (evCons (evV 6) evNil))))) sNx) (sRt (evOp (cmpF .Eq) (evCall F_laid 2 0 [some 0, some 1] (evCons (evV 3) (evCons (evV 1) evNil)) evNil) (evCall F__law_laid 2 0 [some 0, some 1] (evCons (evV 3) (evCons (evV 1) evNil)) evNil)))))))))
def F__law_right : Fun := finF N__law_right es__law_right
theorem sc__law_right : FnScope N__law_right ["pail"] (defScope (top 55)) := ⟨rfl, rfl, rfl, by decide +kernel, rfl, by decide +kernel, by decide +kernel⟩
theorem body__law_right {G : GC} (h : Hy G) {X : Cx} (c : Cxt G 104 N__law_right (defScope (top 55)) X) (B : Bdy X) (lm : Lmb G.K (G.fa 55) "_law_right" X) (T : TabD G (G.fa 55) X.env.qual) : DSs G X (defBody (top 55)) es__law_right :=
  (dss_cons (ds_for c (di_r1 c h.no_range (da_cons de_int da_nil)) (dg_nm c 8) (dss_cons (es_set c 4 (de_op c de_int (de_call c (ks := []) (np := 2) (pm := [some 0, some 1]) (fn__law_deal h) (fun fd FD => bnd_n FD rfl fun _ _ _ _ _ _ us ws h1 h2 => match us, ws, h1, h2 with | [_, _], [], _, _ => rfl) (da_cons (de_var c 0) (da_cons de_int da_nil)) dk_nil))) (dss_cons (es_as c (de_tup (da_cons (de_call c (ks := []) (np := 3) (pm := [some 0, some 1, some 2]) (fn__law_web h) (fun fd FD => bnd_n FD rfl fun _ _ _ _ _ _ us ws h1 h2 => match us, ws, h1, h2 with | [_, _, _], [], _, _ => rfl) (da_cons (de_var c 0) (da_cons de_int (da_cons (de_var c 4) da_nil))) dk_nil) (da_cons (de_call c (ks := []) (np := 2) (pm := [some 0, some 1]) (fn__law_cells h) (fun fd FD => bnd_n FD rfl fun _ _ _ _ _ _ us ws h1 h2 => match us, ws, h1, h2 with | [_, _], [], _, _ => rfl) (da_cons (de_var c 0) (da_cons (de_var c 4) da_nil)) dk_nil) da_nil))) (dg_tp c (dgs_cons (dg_nmC c 9 (B.fnt _)) (dgs_cons (dg_nmC c 1 (B.fnt _)) dgs_nil)))) (dss_cons (es_set c 2 (de_call c (ks := []) (np := 2) (pm := [some 0, some 1]) (fn__law_laid h) (fun fd FD => bnd_n FD rfl fun _ _ _ _ _ _ us ws h1 h2 => match us, ws, h1, h2 with | [_, _], [], _, _ => rfl) (da_cons (de_var c 9) (da_cons (de_var c 1) da_nil)) dk_nil)) (dss_cons (es_set c 7 (de_lst (da_cons (de_call c (ks := []) (np := 2) (pm := [some 0, some 1]) (fn_laid h) (fun fd FD => bnd_n FD rfl fun _ _ _ _ _ _ us ws h1 h2 => match us, ws, h1, h2 with | [_, _], [], _, _ => rfl) (da_cons (de_var c 9) (da_cons (de_var c 1) da_nil)) dk_nil) (da_cons (de_call c (ks := ["cells"]) (np := 1) (pm := [some 0, some 1]) (fn_laid h) (fun fd FD => bnd_n FD rfl fun _ _ _ _ _ _ us ws h1 h2 => match us, ws, h1, h2 with | [_], [_], _, _ => rfl) (da_cons (de_var c 9) da_nil) (dk_cons (de_var c 1) dk_nil)) (da_cons (de_call c (ks := []) (np := 2) (pm := [some 0, some 1]) (fn_laid_size h) (fun fd FD => bnd_n FD rfl fun _ _ _ _ _ _ us ws h1 h2 => match us, ws, h1, h2 with | [_, _], [], _, _ => rfl) (da_cons (de_var c 9) (da_cons (de_var c 1) da_nil)) dk_nil) (da_cons (de_call c (ks := ["cells"]) (np := 1) (pm := [some 0, some 1]) (fn_laid_size h) (fun fd FD => bnd_n FD rfl fun _ _ _ _ _ _ us ws h1 h2 => match us, ws, h1, h2 with | [_], [_], _, _ => rfl) (da_cons (de_var c 9) da_nil) (dk_cons (de_var c 1) dk_nil)) da_nil)))))) (dss_cons (ds_if (dt_not (dt_val (de_call c (ks := []) (np := 2) (pm := [some 0, some 1]) (fn__law_same h) (fun fd FD => bnd_n FD rfl fun _ _ _ _ _ _ us ws h1 h2 => match us, ws, h1, h2 with | [_, _], [], _, _ => rfl) (da_cons (de_var c 7) (da_cons (de_lst (da_cons (de_var c 2) (da_cons (de_var c 2) (da_cons (de_bi c (call_lenD c) h.no_len bt_len (da_cons (de_ix c (de_var c 2) de_int) da_nil)) (da_cons (de_bi c (call_lenD c) h.no_len bt_len (da_cons (de_ix c (de_var c 2) de_int) da_nil)) da_nil))))) da_nil)) dk_nil))) (dss_one (ds_rt de_bl)) dss_nil) (dss_cons (es_setC c B 10 (de_call c (ks := []) (np := 3) (pm := [some 0, some 1, some 2]) (fn__law_swapped h) (fun fd FD => bnd_n FD rfl fun _ _ _ _ _ _ us ws h1 h2 => match us, ws, h1, h2 with | [_, _, _], [], _, _ => rfl) (da_cons (de_ix c (de_var c 9) de_int) (da_cons de_int (da_cons (de_tup (da_cons (de_op c (de_var c 4) (de_call c (ks := []) (np := 2) (pm := [some 0, some 1]) (fn__law_deal h) (fun fd FD => bnd_n FD rfl fun _ _ _ _ _ _ us ws h1 h2 => match us, ws, h1, h2 with | [_, _], [], _, _ => rfl) (da_cons (de_var c 0) (da_cons de_int da_nil)) dk_nil)) (da_cons de_int (da_cons de_str (da_cons de_str da_nil))))) da_nil))) dk_nil)) (dss_one (ds_if (dt_cmp c (ref__law_refused h (k := 9) c lm T (fun X' c' => (de_call c' (ks := []) (np := 2) (pm := [some 0, some 1]) (fn_laid h) (fun fd FD => bnd_n FD rfl fun _ _ _ _ _ _ us ws h1 h2 => match us, ws, h1, h2 with | [_, _], [], _, _ => rfl) (da_cons (de_tup (da_cons (de_ix c' (de_var c' 9) de_int) (da_cons (de_var c' 10) da_nil))) (da_cons (de_var c' 1) da_nil)) dk_nil))) (de_lst (da_cons de_str (da_cons (de_tup (da_cons (de_ix c (de_var c 9) de_int) (da_cons (de_var c 10) da_nil))) da_nil)))) (dss_one (ds_rt de_bl)) dss_nil))))))))) (dss_cons (es_p2 c 5 6 (da_cons (de_tup (da_cons de_int (da_cons de_int (da_cons de_str (da_cons de_str da_nil))))) (da_cons (de_op c de_int (de_call c (ks := []) (np := 2) (pm := [some 0, some 1]) (fn__law_deal h) (fun fd FD => bnd_n FD rfl fun _ _ _ _ _ _ us ws h1 h2 => match us, ws, h1, h2 with | [_, _], [], _, _ => rfl) (da_cons (de_var c 0) (da_cons de_int da_nil)) dk_nil)) da_nil))) (dss_cons (es_as c (de_tup (da_cons (de_tup (da_cons de_int (da_cons (de_op c (de_tup (da_cons (de_var c 5) da_nil)) (de_var c 6)) da_nil))) (da_cons (de_call c (ks := []) (np := 2) (pm := [some 0, some 1]) (fn__law_cells h) (fun fd FD => bnd_n FD rfl fun _ _ _ _ _ _ us ws h1 h2 => match us, ws, h1, h2 with | [_, _], [], _, _ => rfl) (da_cons (de_var c 0) (da_cons (de_op c de_int (de_call c (ks := []) (np := 2) (pm := [some 0, some 1]) (fn__law_deal h) (fun fd FD => bnd_n FD rfl fun _ _ _ _ _ _ us ws h1 h2 => match us, ws, h1, h2 with | [_, _], [], _, _ => rfl) (da_cons (de_var c 0) (da_cons de_int da_nil)) dk_nil)) da_nil)) dk_nil) da_nil))) (dg_tp c (dgs_cons (dg_nmC c 3 (B.fnt _)) (dgs_cons (dg_nmC c 1 (B.fnt _)) dgs_nil)))) (dss_cons (es_set c 6 (de_op c (de_op c (de_op c de_int (de_var c 6)) de_int) (de_bi c (call_lenD c) h.no_len bt_len (da_cons (de_var c 1) da_nil)))) (dss_cons (ds_if (dt_cmp c (de_call c (ks := []) (np := 2) (pm := [some 0, some 1]) (fn_laid_size h) (fun fd FD => bnd_n FD rfl fun _ _ _ _ _ _ us ws h1 h2 => match us, ws, h1, h2 with | [_, _], [], _, _ => rfl) (da_cons (de_var c 3) (da_cons (de_var c 1) da_nil)) dk_nil) (de_var c 6)) (dss_one (ds_rt de_bl)) dss_nil) (dss_cons (ds_if (dt_cmp c (de_var c 6) de_int) (dss_one (ds_rt (de_cmp c (ref__law_refused h (k := 9) c lm T (fun X' c' => (de_call c' (ks := ["cells"]) (np := 1) (pm := [some 0, some 1]) (fn_laid h) (fun fd FD => bnd_n FD rfl fun _ _ _ _ _ _ us ws h1 h2 => match us, ws, h1, h2 with | [_], [_], _, _ => rfl) (da_cons (de_var c' 3) da_nil) (dk_cons (de_var c' 1) dk_nil)))) (de_lst (da_cons de_str (da_cons (de_var c 6) da_nil)))))) dss_nil) (dss_one (ds_rt (de_cmp c (de_call c (ks := []) (np := 2) (pm := [some 0, some 1]) (fn_laid h) (fun fd FD => bnd_n FD rfl fun _ _ _ _ _ _ us ws h1 h2 => match us, ws, h1, h2 with | [_, _], [], _, _ => rfl) (da_cons (de_var c 3) (da_cons (de_var c 1) da_nil)) dk_nil) (de_call c (ks := []) (np := 2) (pm := [some 0, some 1]) (fn__law_laid h) (fun fd FD => bnd_n FD rfl fun _ _ _ _ _ _ us ws h1 h2 => match us, ws, h1, h2 with | [_, _], [], _, _ => rfl) (da_cons (de_var c 3) (da_cons (de_var c 1) da_nil)) dk_nil))))))))))
theorem fn__law_right {G : GC} (h : Hy G) : FnC G 105 55 "_law_right" (top 55) [] ["pail"] F__law_right := by
  obtain ⟨fd, FD⟩ := h.fd__law_right
  exact fnC_of FD h.m__law_right sc__law_right fun X c B lm => body__law_right h c B lm (by rw [lm.qual]; exact h.t__law_right)
/-! ### law -/
def N_law : List Str := ["script", "pails", "turn", "k"]
/-- [_law_pail(script, turn) for turn in range(2)] -/
abbrev ce_law_1 : Ev := (evCall F__law_pail 2 0 [some 0, some 1] (evCons (evV 0) (evCons (evV 2) evNil)) evNil)
/-- [_law_right(pails[int(k) % 2]) for k in range(6)] -/
abbrev ce_law_2 : Ev := (evCall F__law_right 1 0 [some 0] (evCons (evOp subscD (evV 1) (evOp (fun _ => binF .Mod) (evBi intD (evCons (evV 3) evNil)) (evC (.int 2)))) evNil) evNil)
abbrev es_law : Es := (sSq (sAs (evLc (evR1 (evCons (evC (.int 2)) evNil)) (gNm 2) (evC (.bl true)) ce_law_1 [2]) (gNm 1)) (sRt (evAnd (evCall F__law_known_right 0 0 [] evNil evNil) (evBi allD (evCons (evLc (evR1 (evCons (evC (.int 6)) evNil)) (gNm 3) (evC (.bl true)) ce_law_2 [3]) evNil)))))
def F_law : Fun := finF N_law es_law
theorem sc_law : FnScope N_law ["script"] (defScope (top 56)) := ⟨rfl, rfl, rfl, by decide +kernel, rfl, by decide +kernel, by decide +kernel⟩
theorem body_law {G : GC} (h : Hy G) {X : Cx} (c : Cxt G 105 N_law (defScope (top 56)) X) (B : Bdy X) : DSs G X (defBody (top 56)) es_law :=
  (dss_cons (es_setC c B 1 (de_lc c [("turn", 2)] (di_r1 c h.no_range (da_cons de_int da_nil)) (fun X' c' => (dgb_nm c' 2)) (fun X' c' => dts_nil) (fun X' c' => (de_call c' (ks := []) (np := 2) (pm := [some 0, some 1]) (fn__law_pail h) (fun fd FD => bnd_n FD rfl fun _ _ _ _ _ _ us ws h1 h2 => match us, ws, h1, h2 with | [_, _], [], _, _ => rfl) (da_cons (de_var c' 0) (da_cons (de_var c' 2) da_nil)) dk_nil)))) (dss_one (ds_rt (de_and (de_call0 c (ks := []) (pm := []) (fn__law_known_right h) (fun fd FD => bnd_n FD rfl fun _ _ _ _ _ _ us ws h1 h2 => match us, ws, h1, h2 with | [], [], _, _ => rfl) dk_nil) (de_one (de_bi c (call_allD c) h.no_all bt_all (da_cons (de_lc c [("k", 3)] (di_r1 c h.no_range (da_cons de_int da_nil)) (fun X' c' => (dgb_nm c' 3)) (fun X' c' => dts_nil) (fun X' c' => (de_call c' (ks := []) (np := 1) (pm := [some 0]) (fn__law_right h) (fun fd FD => bnd_n FD rfl fun _ _ _ _ _ _ us ws h1 h2 => match us, ws, h1, h2 with | [_], [], _, _ => rfl) (da_cons (de_ix c' (de_var c' 1) (de_op c' (de_bt c' (call_intD) h.no_int bt_int (da_cons (de_var c' 3) da_nil)) de_int)) da_nil) dk_nil))) da_nil)))))))
theorem fn_law {G : GC} (h : Hy G) : FnC G 106 56 "law" (top 56) [] ["script"] F_law := by
  obtain ⟨fd, FD⟩ := h.fd_law
  exact fnC_of FD h.m_law sc_law fun X c B lm => body_law h c B
end W74

set_option Elab.async false
set_option linter.all false
set_option maxRecDepth 100000
set_option maxHeartbeats 0
namespace W74
open PySem PySem.Spec PyProof.Rows L2 PyI
/-! ### the head -/
def fn0 : He.DefD := ⟨("", none), "", "", defArgs (top 0), [], defScope (top 0), [], []⟩
def fn1 : List He.DefD := [⟨("_law_pail", none), "_law_pail", "_law_pail", defArgs (top 45), defBody (top 45), defScope (top 45), [], []⟩, ⟨("is_tuple_of", none), "is_tuple_of", "is_tuple_of", defArgs (top 15), defBody (top 15), defScope (top 15), [], []⟩, ⟨("is_short_tuple", none), "is_short_tuple", "is_short_tuple", defArgs (top 16), defBody (top 16), defScope (top 16), [], []⟩, ⟨("is_end", none), "is_end", "is_end", defArgs (top 26), defBody (top 26), defScope (top 26), [], []⟩, ⟨("is_whole", none), "is_whole", "is_whole", defArgs (top 12), defBody (top 12), defScope (top 12), [], []⟩, ⟨("is_number", none), "is_number", "is_number", defArgs (top 13), defBody (top 13), defScope (top 13), [.non], []⟩, ⟨("is_goal", none), "is_goal", "is_goal", defArgs (top 27), defBody (top 27), defScope (top 27), [], []⟩, ⟨("is_way", none), "is_way", "is_way", defArgs (top 28), defBody (top 28), defScope (top 28), [], []⟩, ⟨("is_node", none), "is_node", "is_node", defArgs (top 29), defBody (top 29), defScope (top 29), [], []⟩, ⟨("is_web_form", none), "is_web_form", "is_web_form", defArgs (top 30), defBody (top 30), defScope (top 30), [], []⟩, ⟨("check_web", none), "check_web", "check_web", defArgs (top 37), defBody (top 37), defScope (top 37), [], []⟩, ⟨("is_word", none), "is_word", "is_word", defArgs (top 14), defBody (top 14), defScope (top 14), [], []⟩, ⟨("first_wrong", none), "first_wrong", "first_wrong", defArgs (top 17), defBody (top 17), defScope (top 17), [], []⟩, ⟨("wrong_cells", none), "wrong_cells", "wrong_cells", defArgs (top 18), defBody (top 18), defScope (top 18), [], []⟩, ⟨("check_cells", none), "check_cells", "check_cells", defArgs (top 20), defBody (top 20), defScope (top 20), [], []⟩, ⟨("check_both", none), "check_both", "check_both", defArgs (top 39), defBody (top 39), defScope (top 39), [], []⟩, ⟨("has_all_cells", none), "has_all_cells", "has_all_cells", defArgs (top 35), defBody (top 35), defScope (top 35), [], []⟩, ⟨("check_fit", none), "check_fit", "check_fit", defArgs (top 40), defBody (top 40), defScope (top 40), [], []⟩, ⟨("Laying", some "all_ways"), "all_ways", "Laying.all_ways", defArgs (mth 34 1), defBody (mth 34 1), defScope (mth 34 1), [], []⟩, ⟨("Laying", some "__init__"), "__init__", "Laying.__init__", defArgs (mth 34 0), defBody (mth 34 0), defScope (mth 34 0), [], []⟩, ⟨("Laying", some "size"), "size", "Laying.size", defArgs (mth 34 4), defBody (mth 34 4), defScope (mth 34 4), [], []⟩, ⟨("Laying", some "moved"), "moved", "Laying.moved", defArgs (mth 34 2), defBody (mth 34 2), defScope (mth 34 2), [], []⟩, ⟨("Laying", some "node_rows"), "node_rows", "Laying.node_rows", defArgs (mth 34 3), defBody (mth 34 3), defScope (mth 34 3), [], []⟩, ⟨("Laying", some "laid_image"), "laid_image", "Laying.laid_image", defArgs (mth 34 5), defBody (mth 34 5), defScope (mth 34 5), [], []⟩, ⟨("image_with_room", none), "image_with_room", "image_with_room", defArgs (top 41), defBody (top 41), defScope (top 41), [], []⟩, ⟨("laid", none), "laid", "laid", defArgs (top 43), defBody (top 43), defScope (top 43), [], []⟩, ⟨("_law_same", none), "_law_same", "_law_same", defArgs (top 49), defBody (top 49), defScope (top 49), [], []⟩, ⟨("laid_size", none), "laid_size", "laid_size", defArgs (top 42), defBody (top 42), defScope (top 42), [], []⟩, ⟨("_law_known_right", none), "_law_known_right", "_law_known_right", defArgs (top 54), defBody (top 54), defScope (top 54), [], []⟩, ⟨("_law_deal", none), "_law_deal", "_law_deal", defArgs (top 46), defBody (top 46), defScope (top 46), [], []⟩]
def fn2 : List He.DefD := [⟨("_law_any", none), "_law_any", "_law_any", defArgs (top 47), defBody (top 47), defScope (top 47), [], []⟩, ⟨("_law_web", none), "_law_web", "_law_web", defArgs (top 51), defBody (top 51), defScope (top 51), [], []⟩, ⟨("_law_cells", none), "_law_cells", "_law_cells", defArgs (top 52), defBody (top 52), defScope (top 52), [], []⟩, ⟨("_law_laid", none), "_law_laid", "_law_laid", defArgs (top 48), defBody (top 48), defScope (top 48), [], []⟩, ⟨("_law_swapped", none), "_law_swapped", "_law_swapped", defArgs (top 50), defBody (top 50), defScope (top 50), [], []⟩, ⟨("_law_refused", none), "_law_refused", "_law_refused", defArgs (top 53), defBody (top 53), defScope (top 53), [], []⟩, ⟨("_law_right", none), "_law_right", "_law_right", defArgs (top 55), defBody (top 55), defScope (top 55), [], []⟩, ⟨("law", none), "law", "law", defArgs (top 56), defBody (top 56), defScope (top 56), [], []⟩]
def fn : List He.DefD := fn1 ++ fn2
def fa1 : List He.Fa := [.glo "_law_pail", .glo "is_tuple_of", .glo "is_short_tuple", .glo "is_end", .glo "is_whole", .glo "is_number", .glo "is_goal", .glo "is_way", .glo "is_node", .glo "is_web_form", .glo "check_web", .glo "is_word", .glo "first_wrong", .glo "wrong_cells", .glo "check_cells", .glo "check_both", .glo "has_all_cells", .glo "check_fit", .glo "image_with_room", .glo "laid", .glo "_law_same", .glo "laid_size", .glo "_law_known_right", .glo "_law_deal", .glo "_law_any", .glo "_law_web", .glo "_law_cells", .glo "_law_laid", .glo "_law_swapped", .glo "_law_refused"]
def fa2 : List He.Fa := [.glo "_law_right", .glo "law", .free "abs", .free "all", .free "bool", .free "divmod", .free "enumerate", .free "int", .free "isinstance", .free "len", .free "list", .free "range", .free "repr", .free "str", .free "tuple", .str "END" "end", .str "EVER" "ever", .int "INPUT" 1022, .int "LAST" 1023, .int "LEAST_CELLS" 3, .int "MOST_CELL" 999, .int "MOST_CELLS" 1000, .int "MOST_NODES" 4000, .int "OUTPUT" 1023, .int "ROUND" 1024, .int "ROW_CELLS" 3, .cls "Laying", .noat "Laying" "end_row", .noat "Laying" "has_ever", .noat "Laying" "nought"]
def fa3 : List He.Fa := [.noat "Laying" "own_cells", .noat "Laying" "own_start", .noat "Laying" "places", .noat "Laying" "web_nodes", .meth "Laying" "all_ways", .meth "Laying" "laid_image", .meth "Laying" "moved", .meth "Laying" "node_rows", .meth "Laying" "size", .mkr "Laying", .glo "Laying", .free "super", .glo "InvalidWeb", .glo "DoesNotFit", .glo "TooGreat", .glo "InvalidCells", .glo "TwinError", .free "ValueError"]
def fa : List He.Fa := fa1 ++ fa2 ++ fa3
def loose1 : List PySem.Str := ["TwinError", "InvalidWeb", "DoesNotFit", "TooGreat", "InvalidCells", "ROUND", "INPUT", "OUTPUT", "LEAST_CELLS", "MOST_CELLS", "is_whole", "is_number", "is_word", "is_tuple_of", "is_short_tuple", "first_wrong", "wrong_cells", "check_cells", "MOST_NODES", "MOST_CELL", "END", "EVER", "is_end", "is_goal", "is_way", "is_node", "is_web_form", "ROW_CELLS", "LAST", "Laying"]
def loose2 : List PySem.Str := ["has_all_cells", "check_web", "check_both", "check_fit", "image_with_room", "laid_size", "laid", "_law_pail", "_law_deal", "_law_any", "_law_laid", "_law_same", "_law_swapped", "_law_web", "_law_cells", "_law_refused", "_law_known_right", "_law_right"]
def loose : List PySem.Str := loose1 ++ loose2
def tf : List He.Defn := [("_law_right", none)]
def sup0 : SupD := ⟨"", "", defArgs (top 0), .stmts [], defScope (top 0)⟩
def sups : List SupD := [⟨"InvalidWeb", "InvalidWeb.__init__", defArgs (mth 2 0), .stmts (defBody (mth 2 0)), defScope (mth 2 0)⟩, ⟨"DoesNotFit", "DoesNotFit.__init__", defArgs (mth 3 0), .stmts (defBody (mth 3 0)), defScope (mth 3 0)⟩, ⟨"TooGreat", "TooGreat.__init__", defArgs (mth 4 0), .stmts (defBody (mth 4 0)), defScope (mth 4 0)⟩, ⟨"InvalidCells", "InvalidCells.__init__", defArgs (mth 5 0), .stmts (defBody (mth 5 0)), defScope (mth 5 0)⟩]
def cm : Nat → Str
  | 1 => "TwinError"
  | 2 => "InvalidWeb"
  | 3 => "DoesNotFit"
  | 4 => "TooGreat"
  | 5 => "InvalidCells"
  | 34 => "Laying"
  | _ => ""
def ex (K : PySem.W.Frag) : Bool := (supB K (He.ga K "InvalidWeb") "given" PySem.Challenge.pw_stilltwins_k74_whole_webs_laid.main.file && (supB K (He.ga K "DoesNotFit") "given" PySem.Challenge.pw_stilltwins_k74_whole_webs_laid.main.file && (supB K (He.ga K "TooGreat") "given" PySem.Challenge.pw_stilltwins_k74_whole_webs_laid.main.file && (supB K (He.ga K "InvalidCells") "index" PySem.Challenge.pw_stilltwins_k74_whole_webs_laid.main.file && xcsB K cm 1 [(3, ["given"]), (4, ["given"])]))))
theorem exB_InvalidWeb {K : PySem.W.Frag} (c : ex K = true) : supB K (He.ga K "InvalidWeb") "given" PySem.Challenge.pw_stilltwins_k74_whole_webs_laid.main.file = true := (He.ba c).1
theorem exB_DoesNotFit {K : PySem.W.Frag} (c : ex K = true) : supB K (He.ga K "DoesNotFit") "given" PySem.Challenge.pw_stilltwins_k74_whole_webs_laid.main.file = true := (He.ba (He.ba c).2).1
theorem exB_TooGreat {K : PySem.W.Frag} (c : ex K = true) : supB K (He.ga K "TooGreat") "given" PySem.Challenge.pw_stilltwins_k74_whole_webs_laid.main.file = true := (He.ba (He.ba (He.ba c).2).2).1
theorem exB_InvalidCells {K : PySem.W.Frag} (c : ex K = true) : supB K (He.ga K "InvalidCells") "index" PySem.Challenge.pw_stilltwins_k74_whole_webs_laid.main.file = true := (He.ba (He.ba (He.ba (He.ba c).2).2).2).1
theorem exX__law_refused {K : PySem.W.Frag} (c : ex K = true) : xcsB K cm 1 [(3, ["given"]), (4, ["given"])] = true := (He.ba (He.ba (He.ba (He.ba c).2).2).2).2
theorem sup_t0 : SupT PySem.Challenge.pw_stilltwins_k74_whole_webs_laid (sups.getD 0 sup0) "given" := ⟨⟨_, _, _, _, _, _, _, _, _, _, _, rfl, rfl, rfl, fun _ _ _ _ _ _ _ _ _ => rfl, rfl, rfl, rfl, rfl, rfl, rfl, rfl, by decide +kernel, fun _ => ⟨_, rfl⟩⟩, by kernel_rfl, by decide, by decide⟩
theorem sup_t1 : SupT PySem.Challenge.pw_stilltwins_k74_whole_webs_laid (sups.getD 1 sup0) "given" := ⟨⟨_, _, _, _, _, _, _, _, _, _, _, rfl, rfl, rfl, fun _ _ _ _ _ _ _ _ _ => rfl, rfl, rfl, rfl, rfl, rfl, rfl, rfl, by decide +kernel, fun _ => ⟨_, rfl⟩⟩, by kernel_rfl, by decide, by decide⟩
theorem sup_t2 : SupT PySem.Challenge.pw_stilltwins_k74_whole_webs_laid (sups.getD 2 sup0) "given" := ⟨⟨_, _, _, _, _, _, _, _, _, _, _, rfl, rfl, rfl, fun _ _ _ _ _ _ _ _ _ => rfl, rfl, rfl, rfl, rfl, rfl, rfl, rfl, by decide +kernel, fun _ => ⟨_, rfl⟩⟩, by kernel_rfl, by decide, by decide⟩
theorem sup_t3 : SupT PySem.Challenge.pw_stilltwins_k74_whole_webs_laid (sups.getD 3 sup0) "index" := ⟨⟨_, _, _, _, _, _, _, _, _, _, _, rfl, rfl, rfl, fun _ _ _ _ _ _ _ _ _ => rfl, rfl, rfl, rfl, rfl, rfl, rfl, rfl, by decide +kernel, fun _ => ⟨_, rfl⟩⟩, by kernel_rfl, by decide, by decide⟩
abbrev R : PySem.W.OpenRow := PySem.W.OpenLaw.row PySem.Challenge.rw_stilltwins_k74_whole_webs_laid
abbrev hk : PySem.W.Hook := hookP 5 fa fn tf ex sups
def ob (s : PySem.W.SharedT) : AlP := obsP 5 fa fn tf ex sups (HandSHeadRun.getT s)
theorem ob_eq (s : PySem.W.SharedT) : ob s = hk.obs s.abs := obsP_eq (HandSHeadRun.getT_eq s)
theorem run (w : World) : HandSHeadRun.RunEq R (PySem.W.view R.prog [56]) hk ob 8000 loose w := by
  intro os
  kernel_rfl
def nm : Nat → Str × Option Str
  | 12 => ("is_whole", none)
  | 13 => ("is_number", none)
  | 14 => ("is_word", none)
  | 15 => ("is_tuple_of", none)
  | 16 => ("is_short_tuple", none)
  | 17 => ("first_wrong", none)
  | 18 => ("wrong_cells", none)
  | 20 => ("check_cells", none)
  | 26 => ("is_end", none)
  | 27 => ("is_goal", none)
  | 28 => ("is_way", none)
  | 29 => ("is_node", none)
  | 30 => ("is_web_form", none)
  | 35 => ("has_all_cells", none)
  | 37 => ("check_web", none)
  | 39 => ("check_both", none)
  | 40 => ("check_fit", none)
  | 41 => ("image_with_room", none)
  | 42 => ("laid_size", none)
  | 43 => ("laid", none)
  | 45 => ("_law_pail", none)
  | 46 => ("_law_deal", none)
  | 47 => ("_law_any", none)
  | 48 => ("_law_laid", none)
  | 49 => ("_law_same", none)
  | 50 => ("_law_swapped", none)
  | 51 => ("_law_web", none)
  | 52 => ("_law_cells", none)
  | 53 => ("_law_refused", none)
  | 54 => ("_law_known_right", none)
  | 55 => ("_law_right", none)
  | 56 => ("law", none)
  | 1680 => ("Laying", some "__init__")
  | 1681 => ("Laying", some "all_ways")
  | 1682 => ("Laying", some "moved")
  | 1683 => ("Laying", some "node_rows")
  | 1684 => ("Laying", some "size")
  | 1685 => ("Laying", some "laid_image")
  | _ => ("", none)
def xm : Nat → List Str
  | 2 => ["given"]
  | 3 => ["given"]
  | 4 => ["given"]
  | 5 => ["index"]
  | _ => []
abbrev gc (w : World) (K : PySem.W.Frag) (mg : Str → Option Value) (base : Heap) : GC := { P := PySem.Challenge.pw_stilltwins_k74_whole_webs_laid, w := w, K := K, mg := mg, base := base, fa := fun i => He.fAd K (nm i), ca := fun i => He.ga K (cm i), xf := xm, tb := tf.map fun p => ((He.cT K p).2, p.1 ++ ".<locals>." ++ "<lambda>") }
theorem glo_int {G : GC} {x : Str} {i : Int} (h : ∃ t, G.mg x = some (.int i t)) : GloD G x (.int i) := by
  obtain ⟨t, e⟩ := h
  exact ⟨_, .int i, e, ⟨t, rfl⟩, fun _ _ => .int i⟩
theorem glo_str {G : GC} {x i : Str} (h : ∃ t, G.mg x = some (.str i t)) : GloD G x (.str i) := by
  obtain ⟨t, e⟩ := h
  exact ⟨_, .str i, e, ⟨t, rfl⟩, fun _ _ => .str i⟩
theorem hy_of {w : World} {K : PySem.W.Frag} {mg : Str → Option Value} {base h : Heap} (X : K.In base) (GN : base.Ns mainGlobals mg) (c : SaysP fa fn tf ex sups h K) (TB : ∀ p ∈ tf, LamX.TabB base mg (He.cT K p).1 (He.cT K p).2) : Hy (gc w K mg base) :=
  have TBu : ∀ (q : He.Defn) (p : Addr × Str), q ∈ tf → p ∈ (tf.map fun p => ((He.cT K p).2, p.1 ++ ".<locals>." ++ "<lambda>")) → p.1 = (He.cT K q).2 → p.2 = q.1 ++ ".<locals>." ++ "<lambda>" := fun q p hq hp he => by
    obtain ⟨q', hq', rfl⟩ := List.mem_map.mp hp
    have e1 : q' = (("_law_right" : Str), none) := by simpa [tf] using hq'
    have e2 : q = (("_law_right" : Str), none) := by simpa [tf] using hq
    rw [e1, e2]
  { fd__law_pail := c.d.def_ 0 (d := fn.getD 0 fn0) rfl,
    m__law_pail := He.glo_ok X GN (c.d.fact 0 (f := .glo "_law_pail") rfl),
    fd_is_tuple_of := c.d.def_ 1 (d := fn.getD 1 fn0) rfl,
    m_is_tuple_of := He.glo_ok X GN (c.d.fact 1 (f := .glo "is_tuple_of") rfl),
    fd_is_short_tuple := c.d.def_ 2 (d := fn.getD 2 fn0) rfl,
    m_is_short_tuple := He.glo_ok X GN (c.d.fact 2 (f := .glo "is_short_tuple") rfl),
    fd_is_end := c.d.def_ 3 (d := fn.getD 3 fn0) rfl,
    m_is_end := He.glo_ok X GN (c.d.fact 3 (f := .glo "is_end") rfl),
    fd_is_whole := c.d.def_ 4 (d := fn.getD 4 fn0) rfl,
    m_is_whole := He.glo_ok X GN (c.d.fact 4 (f := .glo "is_whole") rfl),
    fd_is_number := c.d.def_ 5 (d := fn.getD 5 fn0) rfl,
    m_is_number := He.glo_ok X GN (c.d.fact 5 (f := .glo "is_number") rfl),
    fd_is_goal := c.d.def_ 6 (d := fn.getD 6 fn0) rfl,
    m_is_goal := He.glo_ok X GN (c.d.fact 6 (f := .glo "is_goal") rfl),
    fd_is_way := c.d.def_ 7 (d := fn.getD 7 fn0) rfl,
    m_is_way := He.glo_ok X GN (c.d.fact 7 (f := .glo "is_way") rfl),
    fd_is_node := c.d.def_ 8 (d := fn.getD 8 fn0) rfl,
    m_is_node := He.glo_ok X GN (c.d.fact 8 (f := .glo "is_node") rfl),
    fd_is_web_form := c.d.def_ 9 (d := fn.getD 9 fn0) rfl,
    m_is_web_form := He.glo_ok X GN (c.d.fact 9 (f := .glo "is_web_form") rfl),
    fd_check_web := c.d.def_ 10 (d := fn.getD 10 fn0) rfl,
    m_check_web := He.glo_ok X GN (c.d.fact 10 (f := .glo "check_web") rfl),
    fd_is_word := c.d.def_ 11 (d := fn.getD 11 fn0) rfl,
    m_is_word := He.glo_ok X GN (c.d.fact 11 (f := .glo "is_word") rfl),
    fd_first_wrong := c.d.def_ 12 (d := fn.getD 12 fn0) rfl,
    m_first_wrong := He.glo_ok X GN (c.d.fact 12 (f := .glo "first_wrong") rfl),
    fd_wrong_cells := c.d.def_ 13 (d := fn.getD 13 fn0) rfl,
    m_wrong_cells := He.glo_ok X GN (c.d.fact 13 (f := .glo "wrong_cells") rfl),
    fd_check_cells := c.d.def_ 14 (d := fn.getD 14 fn0) rfl,
    m_check_cells := He.glo_ok X GN (c.d.fact 14 (f := .glo "check_cells") rfl),
    fd_check_both := c.d.def_ 15 (d := fn.getD 15 fn0) rfl,
    m_check_both := He.glo_ok X GN (c.d.fact 15 (f := .glo "check_both") rfl),
    fd_has_all_cells := c.d.def_ 16 (d := fn.getD 16 fn0) rfl,
    m_has_all_cells := He.glo_ok X GN (c.d.fact 16 (f := .glo "has_all_cells") rfl),
    fd_check_fit := c.d.def_ 17 (d := fn.getD 17 fn0) rfl,
    m_check_fit := He.glo_ok X GN (c.d.fact 17 (f := .glo "check_fit") rfl),
    fd_Laying_all_ways := c.d.def_ 18 (d := fn.getD 18 fn0) rfl,
    fd_Laying___init__ := c.d.def_ 19 (d := fn.getD 19 fn0) rfl,
    fd_Laying_size := c.d.def_ 20 (d := fn.getD 20 fn0) rfl,
    fd_Laying_moved := c.d.def_ 21 (d := fn.getD 21 fn0) rfl,
    fd_Laying_node_rows := c.d.def_ 22 (d := fn.getD 22 fn0) rfl,
    fd_Laying_laid_image := c.d.def_ 23 (d := fn.getD 23 fn0) rfl,
    fd_image_with_room := c.d.def_ 24 (d := fn.getD 24 fn0) rfl,
    m_image_with_room := He.glo_ok X GN (c.d.fact 18 (f := .glo "image_with_room") rfl),
    fd_laid := c.d.def_ 25 (d := fn.getD 25 fn0) rfl,
    m_laid := He.glo_ok X GN (c.d.fact 19 (f := .glo "laid") rfl),
    fd__law_same := c.d.def_ 26 (d := fn.getD 26 fn0) rfl,
    m__law_same := He.glo_ok X GN (c.d.fact 20 (f := .glo "_law_same") rfl),
    fd_laid_size := c.d.def_ 27 (d := fn.getD 27 fn0) rfl,
    m_laid_size := He.glo_ok X GN (c.d.fact 21 (f := .glo "laid_size") rfl),
    fd__law_known_right := c.d.def_ 28 (d := fn.getD 28 fn0) rfl,
    m__law_known_right := He.glo_ok X GN (c.d.fact 22 (f := .glo "_law_known_right") rfl),
    fd__law_deal := c.d.def_ 29 (d := fn.getD 29 fn0) rfl,
    m__law_deal := He.glo_ok X GN (c.d.fact 23 (f := .glo "_law_deal") rfl),
    fd__law_any := c.d.def_ 30 (d := fn.getD 30 fn0) rfl,
    m__law_any := He.glo_ok X GN (c.d.fact 24 (f := .glo "_law_any") rfl),
    fd__law_web := c.d.def_ 31 (d := fn.getD 31 fn0) rfl,
    m__law_web := He.glo_ok X GN (c.d.fact 25 (f := .glo "_law_web") rfl),
    fd__law_cells := c.d.def_ 32 (d := fn.getD 32 fn0) rfl,
    m__law_cells := He.glo_ok X GN (c.d.fact 26 (f := .glo "_law_cells") rfl),
    fd__law_laid := c.d.def_ 33 (d := fn.getD 33 fn0) rfl,
    m__law_laid := He.glo_ok X GN (c.d.fact 27 (f := .glo "_law_laid") rfl),
    fd__law_swapped := c.d.def_ 34 (d := fn.getD 34 fn0) rfl,
    m__law_swapped := He.glo_ok X GN (c.d.fact 28 (f := .glo "_law_swapped") rfl),
    fd__law_refused := c.d.def_ 35 (d := fn.getD 35 fn0) rfl,
    m__law_refused := He.glo_ok X GN (c.d.fact 29 (f := .glo "_law_refused") rfl),
    fd__law_right := c.d.def_ 36 (d := fn.getD 36 fn0) rfl,
    m__law_right := He.glo_ok X GN (c.d.fact 30 (f := .glo "_law_right") rfl),
    fd_law := c.d.def_ 37 (d := fn.getD 37 fn0) rfl,
    m_law := He.glo_ok X GN (c.d.fact 31 (f := .glo "law") rfl),
    no_abs := He.free_ok X GN (c.d.fact 32 (f := .free "abs") rfl),
    no_all := He.free_ok X GN (c.d.fact 33 (f := .free "all") rfl),
    no_bool := He.free_ok X GN (c.d.fact 34 (f := .free "bool") rfl),
    no_divmod := He.free_ok X GN (c.d.fact 35 (f := .free "divmod") rfl),
    no_enumerate := He.free_ok X GN (c.d.fact 36 (f := .free "enumerate") rfl),
    no_int := He.free_ok X GN (c.d.fact 37 (f := .free "int") rfl),
    no_isinstance := He.free_ok X GN (c.d.fact 38 (f := .free "isinstance") rfl),
    no_len := He.free_ok X GN (c.d.fact 39 (f := .free "len") rfl),
    no_list := He.free_ok X GN (c.d.fact 40 (f := .free "list") rfl),
    no_range := He.free_ok X GN (c.d.fact 41 (f := .free "range") rfl),
    no_repr := He.free_ok X GN (c.d.fact 42 (f := .free "repr") rfl),
    no_str := He.free_ok X GN (c.d.fact 43 (f := .free "str") rfl),
    no_tuple := He.free_ok X GN (c.d.fact 44 (f := .free "tuple") rfl),
    c_END := glo_str (He.str_ok X GN (c.d.fact 45 (f := .str "END" "end") rfl)),
    c_EVER := glo_str (He.str_ok X GN (c.d.fact 46 (f := .str "EVER" "ever") rfl)),
    c_INPUT := glo_int (He.int_ok X GN (c.d.fact 47 (f := .int "INPUT" 1022) rfl)),
    c_LAST := glo_int (He.int_ok X GN (c.d.fact 48 (f := .int "LAST" 1023) rfl)),
    c_LEAST_CELLS := glo_int (He.int_ok X GN (c.d.fact 49 (f := .int "LEAST_CELLS" 3) rfl)),
    c_MOST_CELL := glo_int (He.int_ok X GN (c.d.fact 50 (f := .int "MOST_CELL" 999) rfl)),
    c_MOST_CELLS := glo_int (He.int_ok X GN (c.d.fact 51 (f := .int "MOST_CELLS" 1000) rfl)),
    c_MOST_NODES := glo_int (He.int_ok X GN (c.d.fact 52 (f := .int "MOST_NODES" 4000) rfl)),
    c_OUTPUT := glo_int (He.int_ok X GN (c.d.fact 53 (f := .int "OUTPUT" 1023) rfl)),
    c_ROUND := glo_int (He.int_ok X GN (c.d.fact 54 (f := .int "ROUND" 1024) rfl)),
    c_ROW_CELLS := glo_int (He.int_ok X GN (c.d.fact 55 (f := .int "ROW_CELLS" 3) rfl)),
    cl_Laying := He.cls_ok (c.d.fact 56 (f := .cls "Laying") rfl),
    na_Laying_end_row := He.noat_ok (c.d.fact 57 (f := .noat "Laying" "end_row") rfl),
    na_Laying_has_ever := He.noat_ok (c.d.fact 58 (f := .noat "Laying" "has_ever") rfl),
    na_Laying_nought := He.noat_ok (c.d.fact 59 (f := .noat "Laying" "nought") rfl),
    na_Laying_own_cells := He.noat_ok (c.d.fact 60 (f := .noat "Laying" "own_cells") rfl),
    na_Laying_own_start := He.noat_ok (c.d.fact 61 (f := .noat "Laying" "own_start") rfl),
    na_Laying_places := He.noat_ok (c.d.fact 62 (f := .noat "Laying" "places") rfl),
    na_Laying_web_nodes := He.noat_ok (c.d.fact 63 (f := .noat "Laying" "web_nodes") rfl),
    me_Laying_all_ways := He.meth_ok (c.d.fact 64 (f := .meth "Laying" "all_ways") rfl),
    me_Laying_laid_image := He.meth_ok (c.d.fact 65 (f := .meth "Laying" "laid_image") rfl),
    me_Laying_moved := He.meth_ok (c.d.fact 66 (f := .meth "Laying" "moved") rfl),
    me_Laying_node_rows := He.meth_ok (c.d.fact 67 (f := .meth "Laying" "node_rows") rfl),
    me_Laying_size := He.meth_ok (c.d.fact 68 (f := .meth "Laying" "size") rfl),
    mk_Laying := He.mkr_ok (c.d.fact 69 (f := .mkr "Laying") rfl),
    m_Laying := He.glo_ok X GN (c.d.fact 70 (f := .glo "Laying") rfl),
    s_InvalidWeb := sup_of (d := sups.getD 0 sup0) (exB_InvalidWeb c.more) (c.supW 0 rfl) sup_t0 (He.free_ok X GN (c.d.fact 71 (f := .free "super") rfl)),
    x_InvalidWeb := rfl,
    m_InvalidWeb := He.glo_ok X GN (c.d.fact 72 (f := .glo "InvalidWeb") rfl),
    s_DoesNotFit := sup_of (d := sups.getD 1 sup0) (exB_DoesNotFit c.more) (c.supW 1 rfl) sup_t1 (He.free_ok X GN (c.d.fact 71 (f := .free "super") rfl)),
    x_DoesNotFit := rfl,
    m_DoesNotFit := He.glo_ok X GN (c.d.fact 73 (f := .glo "DoesNotFit") rfl),
    s_TooGreat := sup_of (d := sups.getD 2 sup0) (exB_TooGreat c.more) (c.supW 2 rfl) sup_t2 (He.free_ok X GN (c.d.fact 71 (f := .free "super") rfl)),
    x_TooGreat := rfl,
    m_TooGreat := He.glo_ok X GN (c.d.fact 74 (f := .glo "TooGreat") rfl),
    s_InvalidCells := sup_of (d := sups.getD 3 sup0) (exB_InvalidCells c.more) (c.supW 3 rfl) sup_t3 (He.free_ok X GN (c.d.fact 71 (f := .free "super") rfl)),
    x_InvalidCells := rfl,
    m_InvalidCells := He.glo_ok X GN (c.d.fact 75 (f := .glo "InvalidCells") rfl),
    t__law_right := ⟨(He.cT K ("_law_right", none)).2, TB ("_law_right", none) (by decide), List.mem_map.mpr ⟨(("_law_right" : Str), none), by decide, rfl⟩, fun p hp hq => TBu ("_law_right", none) p (by decide) hp hq⟩,
    xcs__law_refused := xcs_of (cm := cm) (fun _ => rfl) (fun p hp => by simp only [List.mem_cons, List.not_mem_nil, or_false] at hp; rcases hp with rfl | rfl <;> rfl) (exX__law_refused c.more),
    m_TwinError := He.glo_ok X GN (c.d.fact 76 (f := .glo "TwinError") rfl),
    no_ValueError := He.free_ok X GN (c.d.fact 77 (f := .free "ValueError") rfl) }
theorem facts {w : World} {mg : Str → Option Value} {f : Addr} {h : Heap} (hs : hk.says w h) (GN : h.Ns mainGlobals mg) (hf : mg ("law" : Str) = some (.ref f)) (math : ∀ ns : List Int, ns.length ≤ 63 → (∀ z ∈ ns, Builtin.Int.intBits z ≤ 1048576) → ∃ μ, F_law [.scr (ns.map .int)] [] = .ok (.bl true) μ) :
    ∃ K : PySem.W.Frag, K.In h ∧ LawRun PySem.Challenge.pw_stilltwins_k74_whole_webs_laid w K 63 mg f h := by
  obtain ⟨K, KX, c⟩ := hs
  have e := hf.symm.trans (He.glo_ok KX GN (c.d.fact 31 (f := .glo "law") rfl))
  cases e
  refine ⟨K, KX, tf.map (He.cT K), fun p hp => ?_, fun p hp => ?_, fun p hp => ?_, fun base s H a ns X BN TB hl hz hT hS e0 => ?_⟩
  · obtain ⟨q, hq, rfl⟩ := List.mem_map.mp hp; exact c.empty q hq
  · obtain ⟨q, hq, rfl⟩ := List.mem_map.mp hp; exact c.out q hq
  · obtain ⟨q, hq, rfl⟩ := List.mem_map.mp hp; exact PySem.W.codeHd_of_K KX (c.hd q hq)
  · have hy : Hy (gc w K mg base) := hy_of X BN c fun p hp => TB _ (List.mem_map.mpr ⟨p, hp, rfl⟩)
    obtain ⟨fd, FD, FG, _⟩ := (fn_law hy).ex
    have b := FunD.bindsA (ps := ["script"]) FD fun _ _ _ _ _ _ us hl => match us, hl with | [_], _ => rfl
    refine law_call (G := gc w K mg base) (j := 56) FG ⟨rfl, by decide, by decide⟩ e0 (fun s v => b s [v] rfl) hS (fun p hp => ?_) (math ns hl hz)
    obtain ⟨q, hq, rfl⟩ := List.mem_map.mp hp
    exact LamX.TabS.nil (hT _ (List.mem_map.mpr ⟨q, hq, rfl⟩))
end W74
open PySem PySem.W PySem.Calls PyProof.Rows in
theorem W74.holds (math : ∀ ns : List Int, ns.length ≤ 63 → (∀ z ∈ ns, Builtin.Int.intBits z ≤ 1048576) → ∃ μ, W74.F_law [.scr (ns.map .int)] [] = .ok (.bl true) μ) : PySem.Challenge.rw_stilltwins_k74_whole_webs_laid.Holds := by
  w_on; o_law
  refine HandSHeadRun.head_any (r := OpenLaw.row PySem.Challenge.rw_stilltwins_k74_whole_webs_laid) (q := view (OpenLaw.row PySem.Challenge.rw_stilltwins_k74_whole_webs_laid).prog [56]) (H := W74.hk) (ob := W74.ob) (M := 8000) (loose := W74.loose) (d := HandSHeadRun.topDef (OpenLaw.row PySem.Challenge.rw_stilltwins_k74_whole_webs_laid).prog 56) (kwd := []) W74.ob_eq
    (by kernel_rfl) (fun s => by kernel_rfl) W74.run (by kernel_rfl) (by kernel_rfl) (by kernel_rfl) (by rfl) (by first | assumption | decide +kernel) (by decide +kernel) ⟨rfl, rfl, rfl, rfl, rfl, by decide +kernel⟩ ?hw ?hc
  case hw => w_witness2
  case hc =>
    refine PyI.walk_law (l := PySem.Challenge.rw_stilltwins_k74_whole_webs_laid) (n := 63) rfl (by decide) (by kernel_rfl) ?F
    intro w mg fa h Y G hmg0
    have hmg : mg ("law" : PySem.Str) = some (.ref fa) := by
      have e : (HandSHeadRun.topDef (OpenLaw.row PySem.Challenge.rw_stilltwins_k74_whole_webs_laid).prog 56).name = ("law" : PySem.Str) := by kernel_rfl
      rw [← e]
      exact hmg0
    exact W74.facts Y G hmg math

set_option Elab.async false
set_option linter.all false
set_option maxRecDepth 100000
set_option maxHeartbeats 1000000
namespace W74
open PySem PyI

theorem beq_decI (a b : Int) : (a == b) = decide (a = b) := rfl
/-! ### what the checks tell, in plain words -/
/-- a value that is looked at: no cell, no def -/
def seen : D → Bool
  | .non => true | .bl _ => true | .int _ => true | .str _ => true | .tup _ => true | .lst _ => true
  | _ => false
def wholeB : D → Bool
  | .int _ => true | _ => false
def numB (d : D) (lo : Int) (hi : Option Int) : Bool := match d with
  | .int i => decide (lo ≤ i) && (match hi with | none => true | some h => decide (i ≤ h))
  | _ => false
def hiD : Option Int → D
  | none => .non
  | some h => .int h
def tupB (d : D) (k : Int) : Bool := match d with
  | .tup xs => decide ((xs.length : Int) = k)
  | _ => false
def shortB (d : D) (lo hi : Int) : Bool := match d with
  | .tup xs => decide (lo ≤ xs.length) && decide ((xs.length : Int) ≤ hi)
  | _ => false
def endB : D → Bool
  | .str x => decide (x = "end") || decide (x = "ever")
  | _ => false
def goalB (d : D) (m : Int) : Bool := endB d || numB d 0 (some (m - 1))
def noneB : D → Bool
  | .non => true | _ => false
def wayB (d : D) (m : Int) : Bool := noneB d || goalB d m
theorem m_whole {d : D} (h : seen d = true) (μ : Mem) : F_is_whole [d] μ = .ok (.bl (wholeB d)) μ := by
  cases d <;> first | (cases h; done) | simp [finF, stS, sSq, sAs, sRt, sRtN, sIf, sNx, sEx, evV, evC, evAnd, evOr, evNot, evIte, evOp, evCall, evNil, evCons, evTup, evLst, evBi, evIsi, evChain, evSqT, evSqL, evSlice, evNo, evSo, asInt, pick, gNm, gTp, gLs, gsCons, gsNil, Out.bind, noX, cmpF, binF, isiD, tyName, isSub, ordD, isD, lenD, subscD, seqOf, intD, absD, str_inj, F_is_whole, N_is_whole, es_is_whole, wholeB]
theorem m_number {d : D} (h : seen d = true) (lo : Int) (hi : Option Int) (μ : Mem) : F_is_number [d, .int lo, hiD hi] μ = .ok (.bl (numB d lo hi)) μ := by
  have w := m_whole h μ
  cases d <;> first | (cases h; done) | skip
  all_goals (simp [finF, stS, sSq, sAs, sRt, sRtN, sIf, sNx, sEx, evV, evC, evAnd, evOr, evNot, evIte, evOp, evCall, evNil, evCons, evTup, evLst, evBi, evIsi, evChain, evSqT, evSqL, evSlice, evNo, evSo, asInt, pick, gNm, gTp, gLs, gsCons, gsNil, Out.bind, noX, cmpF, binF, isiD, tyName, isSub, ordD, isD, lenD, subscD, seqOf, intD, absD, str_inj, F_is_number, N_is_number, es_is_number, numB, w, wholeB])
  next i =>
    by_cases h1 : lo ≤ i
    · cases hi with
      | none => simp [hiD, h1, isNone]
      | some u => simp [hiD, h1, isNone]
    · simp [h1]
theorem m_tuple {d : D} (h : seen d = true) (k : Int) (μ : Mem) : F_is_tuple_of [d, .int k] μ = .ok (.bl (tupB d k)) μ := by
  cases d <;> first | (cases h; done) | simp [finF, stS, sSq, sAs, sRt, sRtN, sIf, sNx, sEx, evV, evC, evAnd, evOr, evNot, evIte, evOp, evCall, evNil, evCons, evTup, evLst, evBi, evIsi, evChain, evSqT, evSqL, evSlice, evNo, evSo, asInt, pick, gNm, gTp, gLs, gsCons, gsNil, Out.bind, noX, cmpF, binF, isiD, tyName, isSub, ordD, isD, lenD, subscD, seqOf, intD, absD, str_inj, F_is_tuple_of, N_is_tuple_of, es_is_tuple_of, tupB, eqD, eqP, pyOf, toPy, SeqAt.shaped, PyData.canLay0, PyData.depth, PyData.eqv, beq_decI]
theorem m_short {d : D} (h : seen d = true) (lo hi : Int) (μ : Mem) : F_is_short_tuple [d, .int lo, .int hi] μ = .ok (.bl (shortB d lo hi)) μ := by
  cases d <;> first | (cases h; done) | simp [finF, stS, sSq, sAs, sRt, sRtN, sIf, sNx, sEx, evV, evC, evAnd, evOr, evNot, evIte, evOp, evCall, evNil, evCons, evTup, evLst, evBi, evIsi, evChain, evSqT, evSqL, evSlice, evNo, evSo, asInt, pick, gNm, gTp, gLs, gsCons, gsNil, Out.bind, noX, cmpF, binF, isiD, tyName, isSub, ordD, isD, lenD, subscD, seqOf, intD, absD, str_inj, F_is_short_tuple, N_is_short_tuple, es_is_short_tuple, shortB]
  next xs =>
    by_cases h1 : lo ≤ xs.length
    · simp [h1]
    · simp [h1]
theorem m_end {d : D} (h : seen d = true) (μ : Mem) : F_is_end [d] μ = .ok (.bl (endB d)) μ := by
  cases d <;> first | (cases h; done) | simp [finF, stS, sSq, sAs, sRt, sRtN, sIf, sNx, sEx, evV, evC, evAnd, evOr, evNot, evIte, evOp, evCall, evNil, evCons, evTup, evLst, evBi, evIsi, evChain, evSqT, evSqL, evSlice, evNo, evSo, asInt, pick, gNm, gTp, gLs, gsCons, gsNil, Out.bind, noX, cmpF, binF, isiD, tyName, isSub, ordD, isD, lenD, subscD, seqOf, intD, absD, str_inj, F_is_end, N_is_end, es_is_end, endB]
  next x =>
    simp [inD, flatV?, flatVs, L2.inV, L2.eqV, sizeLine, seqOf]
    by_cases h1 : x = "end"
    · simp [h1]
    · by_cases h2 : x = "ever"
      · simp [h2]
      · simp [h1, h2, Ne.symm (a := x) h1, Ne.symm (a := x) h2]
theorem m_numS {d : D} (h : seen d = true) (lo hi : Int) (μ : Mem) : F_is_number [d, .int lo, .int hi] μ = .ok (.bl (numB d lo (some hi))) μ := m_number h lo (some hi) μ
theorem m_goal {d : D} (h : seen d = true) (m : Int) (μ : Mem) : F_is_goal [d, .int m] μ = .ok (.bl (goalB d m)) μ := by
  have e1 := fun μ => m_end h μ
  have e2 := fun hi μ => m_numS h 0 hi μ
  simp [finF, stS, sSq, sAs, sRt, sRtN, sIf, sNx, sEx, evV, evC, evAnd, evOr, evNot, evIte, evOp, evCall, evNil, evCons, evTup, evLst, evBi, evIsi, evChain, evSqT, evSqL, evSlice, evNo, evSo, asInt, pick, gNm, gTp, gLs, gsCons, gsNil, Out.bind, noX, cmpF, binF, isiD, tyName, isSub, ordD, isD, lenD, subscD, seqOf, intD, absD, str_inj, F_is_goal, N_is_goal, es_is_goal, goalB, e1, e2, subD]
  cases endB d <;> simp
theorem m_way {d : D} (h : seen d = true) (m : Int) (μ : Mem) : F_is_way [d, .int m] μ = .ok (.bl (wayB d m)) μ := by
  have e1 := fun μ => m_goal h m μ
  cases d <;> first | (cases h; done) | simp [finF, stS, sSq, sAs, sRt, sRtN, sIf, sNx, sEx, evV, evC, evAnd, evOr, evNot, evIte, evOp, evCall, evNil, evCons, evTup, evLst, evBi, evIsi, evChain, evSqT, evSqL, evSlice, evNo, evSo, asInt, pick, gNm, gTp, gLs, gsCons, gsNil, Out.bind, noX, cmpF, binF, isiD, tyName, isSub, ordD, isD, lenD, subscD, seqOf, intD, absD, str_inj, F_is_way, N_is_way, es_is_way, wayB, noneB, isNone, e1]
def isI (d : D) (k : Int) : Bool := match d with
  | .int i => decide (i = k)
  | _ => false
def sameI (d e : D) : Bool := match d, e with
  | .int i, .int j => decide (i = j)
  | _, _ => false
def srcB (d : D) : Bool := numB d 0 (some 999) || numB d 1022 (some 1022)
def tgtB (d : D) : Bool := numB d 0 (some 999) || numB d 1023 (some 1023)
def fourB (s t l h : D) (m : Int) : Bool := srcB s && tgtB t && (wayB l m && wayB h m && !(noneB l && noneB h)) && !((isI t 1023 && !noneB l) || (sameI s t && !noneB h))
def nodeB (d : D) (m : Int) : Bool := match d with
  | .tup [s, t, l, h] => fourB s t l h m
  | _ => false
theorem srcB_int {d : D} (h : srcB d = true) : ∃ i, d = .int i := by
  cases d <;> first | exact ⟨_, rfl⟩ | (simp [srcB, numB] at h)
theorem tgtB_int {d : D} (h : tgtB d = true) : ∃ i, d = .int i := by
  cases d <;> first | exact ⟨_, rfl⟩ | (simp [tgtB, numB] at h)
theorem n1 (x : D) : isNone x = noneB x := by cases x <;> rfl
theorem eqII (μ : Mem) (i j : Int) : eqD μ (.int i) (.int j) = some (.bl (decide (i = j))) := by
  simp [eqD, eqP, pyOf, toPy, SeqAt.shaped, PyData.canLay0, PyData.depth, PyData.eqv, beq_decI]
theorem neII (μ : Mem) (i j : Int) : neD μ (.int i) (.int j) = some (.bl (!decide (i = j))) := by
  simp [neD, eqP, pyOf, toPy, SeqAt.shaped, PyData.canLay0, PyData.depth, PyData.eqv, beq_decI]
theorem m_four {s t l h : D} (hs : seen s = true) (ht : seen t = true) (hl : seen l = true) (hh : seen h = true) (m : Int) (μ : Mem) : F_is_node [.tup [s, t, l, h], .int m] μ = .ok (.bl (fourB s t l h m)) μ := by
  have e0 : ∀ μ, F_is_tuple_of [.tup [s, t, l, h], .int 4] μ = .ok (.bl true) μ := fun μ => by rw [m_tuple rfl]; rfl
  have e1 := fun lo hi μ => m_numS hs lo hi μ
  have e2 := fun lo hi μ => m_numS ht lo hi μ
  have e3 := fun μ => m_way hl m μ
  have e4 := fun μ => m_way hh m μ
  show finF N_is_node es_is_node _ μ = _
  refine r_fin (r_guard (c := false) (μ1 := μ) ?_ (fun z => nomatch z) fun _ => r_seq (ρ1 := [.v (.tup [s, t, l, h]), .v (.int m), .v h, .v l, .v s, .v t]) (μ1 := μ) ?_ (r_guard (c := !srcB s) (μ1 := μ) ?_ (fun hc => r_ret ?_) fun hc => r_guard (c := !tgtB t) (μ1 := μ) ?_ (fun hc2 => r_ret ?_) fun hc2 => r_guard (c := !(wayB l m && wayB h m && !(noneB l && noneB h))) (μ1 := μ) ?_ (fun hc3 => r_ret ?_) fun hc3 => r_ret ?_))
  · simp [finF, stS, sSq, sAs, sRt, sRtN, sIf, sNx, sEx, evV, evC, evAnd, evOr, evNot, evIte, evOp, evCall, evNil, evCons, evTup, evLst, evBi, evIsi, evChain, evSqT, evSqL, evSlice, evNo, evSo, asInt, pick, gNm, gTp, gLs, gsCons, gsNil, Out.bind, noX, cmpF, binF, isiD, tyName, isSub, ordD, isD, lenD, subscD, seqOf, intD, absD, str_inj, N_is_node, e0]
  · simp [finF, stS, sSq, sAs, sRt, sRtN, sIf, sNx, sEx, evV, evC, evAnd, evOr, evNot, evIte, evOp, evCall, evNil, evCons, evTup, evLst, evBi, evIsi, evChain, evSqT, evSqL, evSlice, evNo, evSo, asInt, pick, gNm, gTp, gLs, gsCons, gsNil, Out.bind, noX, cmpF, binF, isiD, tyName, isSub, ordD, isD, lenD, subscD, seqOf, intD, absD, str_inj, N_is_node]
  · rw [show (!srcB s) = (!numB s 0 (some 999) && !numB s 1022 (some 1022)) by simp [srcB]]
    exact k_and (by simp [finF, stS, sSq, sAs, sRt, sRtN, sIf, sNx, sEx, evV, evC, evAnd, evOr, evNot, evIte, evOp, evCall, evNil, evCons, evTup, evLst, evBi, evIsi, evChain, evSqT, evSqL, evSlice, evNo, evSo, asInt, pick, gNm, gTp, gLs, gsCons, gsNil, Out.bind, noX, cmpF, binF, isiD, tyName, isSub, ordD, isD, lenD, subscD, seqOf, intD, absD, str_inj, e1]) fun _ => by simp [finF, stS, sSq, sAs, sRt, sRtN, sIf, sNx, sEx, evV, evC, evAnd, evOr, evNot, evIte, evOp, evCall, evNil, evCons, evTup, evLst, evBi, evIsi, evChain, evSqT, evSqL, evSlice, evNo, evSo, asInt, pick, gNm, gTp, gLs, gsCons, gsNil, Out.bind, noX, cmpF, binF, isiD, tyName, isSub, ordD, isD, lenD, subscD, seqOf, intD, absD, str_inj, e1]
  · have : srcB s = false := by simpa using hc
    simp [evC, fourB, this]
  · rw [show (!tgtB t) = (!numB t 0 (some 999) && !numB t 1023 (some 1023)) by simp [tgtB]]
    exact k_and (by simp [finF, stS, sSq, sAs, sRt, sRtN, sIf, sNx, sEx, evV, evC, evAnd, evOr, evNot, evIte, evOp, evCall, evNil, evCons, evTup, evLst, evBi, evIsi, evChain, evSqT, evSqL, evSlice, evNo, evSo, asInt, pick, gNm, gTp, gLs, gsCons, gsNil, Out.bind, noX, cmpF, binF, isiD, tyName, isSub, ordD, isD, lenD, subscD, seqOf, intD, absD, str_inj, e2]) fun _ => by simp [finF, stS, sSq, sAs, sRt, sRtN, sIf, sNx, sEx, evV, evC, evAnd, evOr, evNot, evIte, evOp, evCall, evNil, evCons, evTup, evLst, evBi, evIsi, evChain, evSqT, evSqL, evSlice, evNo, evSo, asInt, pick, gNm, gTp, gLs, gsCons, gsNil, Out.bind, noX, cmpF, binF, isiD, tyName, isSub, ordD, isD, lenD, subscD, seqOf, intD, absD, str_inj, e2]
  · have : tgtB t = false := by simpa using hc2
    simp [evC, fourB, this]
  · rw [show (!(wayB l m && wayB h m && !(noneB l && noneB h))) = (!wayB l m || (!wayB h m || (noneB l && noneB h))) by cases wayB l m <;> cases wayB h m <;> simp]
    refine k_or (by simp [finF, stS, sSq, sAs, sRt, sRtN, sIf, sNx, sEx, evV, evC, evAnd, evOr, evNot, evIte, evOp, evCall, evNil, evCons, evTup, evLst, evBi, evIsi, evChain, evSqT, evSqL, evSlice, evNo, evSo, asInt, pick, gNm, gTp, gLs, gsCons, gsNil, Out.bind, noX, cmpF, binF, isiD, tyName, isSub, ordD, isD, lenD, subscD, seqOf, intD, absD, str_inj, e3]) fun _ => k_or (by simp [finF, stS, sSq, sAs, sRt, sRtN, sIf, sNx, sEx, evV, evC, evAnd, evOr, evNot, evIte, evOp, evCall, evNil, evCons, evTup, evLst, evBi, evIsi, evChain, evSqT, evSqL, evSlice, evNo, evSo, asInt, pick, gNm, gTp, gLs, gsCons, gsNil, Out.bind, noX, cmpF, binF, isiD, tyName, isSub, ordD, isD, lenD, subscD, seqOf, intD, absD, str_inj, e4]) fun _ => k_and (by simp [finF, stS, sSq, sAs, sRt, sRtN, sIf, sNx, sEx, evV, evC, evAnd, evOr, evNot, evIte, evOp, evCall, evNil, evCons, evTup, evLst, evBi, evIsi, evChain, evSqT, evSqL, evSlice, evNo, evSo, asInt, pick, gNm, gTp, gLs, gsCons, gsNil, Out.bind, noX, cmpF, binF, isiD, tyName, isSub, ordD, isD, lenD, subscD, seqOf, intD, absD, str_inj, n1]) fun _ => by simp [finF, stS, sSq, sAs, sRt, sRtN, sIf, sNx, sEx, evV, evC, evAnd, evOr, evNot, evIte, evOp, evCall, evNil, evCons, evTup, evLst, evBi, evIsi, evChain, evSqT, evSqL, evSlice, evNo, evSo, asInt, pick, gNm, gTp, gLs, gsCons, gsNil, Out.bind, noX, cmpF, binF, isiD, tyName, isSub, ordD, isD, lenD, subscD, seqOf, intD, absD, str_inj, n1]
  · have : (wayB l m && wayB h m && !(noneB l && noneB h)) = false := (Bool.not_eq_true' _).mp hc3
    simp only [evC, fourB, this, Bool.and_false, Bool.false_and]
  · obtain ⟨i, rfl⟩ := srcB_int (by simpa using hc)
    obtain ⟨j, rfl⟩ := tgtB_int (by simpa using hc2)
    have a1 : srcB (.int i) = true := by simpa using hc
    have a2 : tgtB (.int j) = true := by simpa using hc2
    have a3 : (wayB l m && wayB h m && !(noneB l && noneB h)) = true := (Bool.not_eq_false' _).mp hc3
    rw [show fourB (.int i) (.int j) l h m = !((decide (j = 1023) && !noneB l) || (decide (i = j) && !noneB h)) by rw [fourB, a1, a2, a3]; simp [isI, sameI]]
    refine k_not (k_or (k_and (by simp [finF, stS, sSq, sAs, sRt, sRtN, sIf, sNx, sEx, evV, evC, evAnd, evOr, evNot, evIte, evOp, evCall, evNil, evCons, evTup, evLst, evBi, evIsi, evChain, evSqT, evSqL, evSlice, evNo, evSo, asInt, pick, gNm, gTp, gLs, gsCons, gsNil, Out.bind, noX, cmpF, binF, isiD, tyName, isSub, ordD, isD, lenD, subscD, seqOf, intD, absD, str_inj, eqII]) fun _ => by simp [finF, stS, sSq, sAs, sRt, sRtN, sIf, sNx, sEx, evV, evC, evAnd, evOr, evNot, evIte, evOp, evCall, evNil, evCons, evTup, evLst, evBi, evIsi, evChain, evSqT, evSqL, evSlice, evNo, evSo, asInt, pick, gNm, gTp, gLs, gsCons, gsNil, Out.bind, noX, cmpF, binF, isiD, tyName, isSub, ordD, isD, lenD, subscD, seqOf, intD, absD, str_inj, n1]) fun _ => k_and (by simp [finF, stS, sSq, sAs, sRt, sRtN, sIf, sNx, sEx, evV, evC, evAnd, evOr, evNot, evIte, evOp, evCall, evNil, evCons, evTup, evLst, evBi, evIsi, evChain, evSqT, evSqL, evSlice, evNo, evSo, asInt, pick, gNm, gTp, gLs, gsCons, gsNil, Out.bind, noX, cmpF, binF, isiD, tyName, isSub, ordD, isD, lenD, subscD, seqOf, intD, absD, str_inj, eqII]) fun _ => by simp [finF, stS, sSq, sAs, sRt, sRtN, sIf, sNx, sEx, evV, evC, evAnd, evOr, evNot, evIte, evOp, evCall, evNil, evCons, evTup, evLst, evBi, evIsi, evChain, evSqT, evSqL, evSlice, evNo, evSo, asInt, pick, gNm, gTp, gLs, gsCons, gsNil, Out.bind, noX, cmpF, binF, isiD, tyName, isSub, ordD, isD, lenD, subscD, seqOf, intD, absD, str_inj, n1])
/-- looked at all through -/
def seenNode : D → Bool
  | .tup xs => xs.all seen
  | d => seen d
theorem seenNode_seen {d : D} (h : seenNode d = true) : seen d = true := by cases d <;> first | rfl | exact h
theorem m_node {d : D} (h : seenNode d = true) (m : Int) (μ : Mem) : F_is_node [d, .int m] μ = .ok (.bl (nodeB d m)) μ := by
  have h0 := seenNode_seen h
  by_cases q : tupB d 4 = true
  · cases d with
    | tup xs =>
      match xs, q, h with
      | [s, t, l, hh], _, h =>
        simp only [seenNode, List.all_cons, List.all_nil, Bool.and_true, Bool.and_eq_true] at h
        exact m_four h.1 h.2.1 h.2.2.1 h.2.2.2 m μ
      | [], q, _ => simp [tupB] at q
      | [_], q, _ => simp [tupB] at q
      | [_, _], q, _ => simp [tupB] at q
      | [_, _, _], q, _ => simp [tupB] at q
      | _ :: _ :: _ :: _ :: _ :: _, q, _ => simp [tupB] at q; omega
    | _ => simp [tupB] at q
  · have e0 : ∀ μ, F_is_tuple_of [d, .int 4] μ = .ok (.bl false) μ := fun μ => by rw [m_tuple h0]; simp [q]
    have e1 : nodeB d m = false := by
      unfold nodeB
      split
      · simp [tupB] at q
      · rfl
    rw [e1]
    show finF N_is_node es_is_node _ μ = _
    exact r_fin (r_guard (c := true) (μ1 := μ) (by simp [finF, stS, sSq, sAs, sRt, sRtN, sIf, sNx, sEx, evV, evC, evAnd, evOr, evNot, evIte, evOp, evCall, evNil, evCons, evTup, evLst, evBi, evIsi, evChain, evSqT, evSqL, evSlice, evNo, evSo, asInt, pick, gNm, gTp, gLs, gsCons, gsNil, Out.bind, noX, cmpF, binF, isiD, tyName, isSub, ordD, isD, lenD, subscD, seqOf, intD, absD, str_inj, N_is_node, e0]) (fun _ => r_ret rfl) fun z => nomatch z)
/-- a web's shape -/
def webB (d : D) : Bool := match d with
  | .tup [st, .tup ns] => decide (ns.length ≤ 4000) && (goalB st ns.length && ns.all fun n => nodeB n ns.length)
  | _ => false
def seenWeb : D → Bool
  | .tup xs => xs.all fun x => match x with
    | .tup ns => ns.all seenNode
    | x => seen x
  | d => seen d
theorem bools_bl : ∀ bs : List Bool, bools (bs.map D.bl) = some bs
  | [] => rfl
  | b :: bs => by simp [bools, bools_bl bs]
theorem seenWeb_seen {d : D} (h : seenWeb d = true) : seen d = true := by cases d <;> first | rfl | exact h
theorem at0 (a b : D) : L2.atI [a, b] 0 = some a := rfl
theorem at1 (a b : D) : L2.atI [a, b] 1 = some b := rfl
theorem m_web_form {d : D} (h : seenWeb d = true) (μ : Mem) : F_is_web_form [d] μ = .ok (.bl (webB d)) μ := by
  have h0 := seenWeb_seen h
  show finF N_is_web_form es_is_web_form _ μ = _
  by_cases q : tupB d 2 = true
  · obtain ⟨st, v, rfl⟩ : ∃ st v, d = .tup [st, v] := by
      cases d with
      | tup xs =>
        match xs, q with
        | [a, b], _ => exact ⟨a, b, rfl⟩
        | [], q => simp [tupB] at q
        | [_], q => simp [tupB] at q
        | _ :: _ :: _ :: _, q => simp [tupB] at q; omega
      | _ => simp [tupB] at q
    have hst : seen st = true := by
      simp only [seenWeb, List.all_cons, Bool.and_eq_true] at h
      have h1 := h.1
      split at h1
      · rfl
      · exact h1
    have hv : seen v = true := by
      simp only [seenWeb, List.all_cons, Bool.and_eq_true] at h
      have h1 := h.2.1
      split at h1
      · rfl
      · exact h1
    have e0 : ∀ μ, F_is_tuple_of [.tup [st, v], .int 2] μ = .ok (.bl true) μ := fun μ => by rw [m_tuple rfl]; rfl
    have e1 := fun μ => m_short hv 0 4000 μ
    by_cases q2 : shortB v 0 4000 = true
    · obtain ⟨ns, rfl⟩ : ∃ ns, v = .tup ns := by cases v <;> first | exact ⟨_, rfl⟩ | (simp [shortB] at q2)
      have hl : (ns.length : Int) ≤ 4000 := by simp [shortB] at q2; omega
      have hn : ∀ x ∈ ns, seenNode x = true := by
        simp only [seenWeb, List.all_cons, Bool.and_eq_true] at h
        exact List.all_eq_true.mp h.2.1
      have e2 := fun μ => m_goal hst ns.length μ
      refine r_fin (r_guard (c := false) (μ1 := μ) ?_ (fun z => nomatch z) fun _ => r_seq (ρ1 := [.v (.tup [st, .tup ns]), .v (.int ns.length), .un]) (μ1 := μ) ?_ (r_ret ?_))
      · exact k_or (a := false) (b := false) (by simp [finF, stS, sSq, sAs, sRt, sRtN, sIf, sNx, sEx, evV, evC, evAnd, evOr, evNot, evIte, evOp, evCall, evNil, evCons, evTup, evLst, evBi, evIsi, evChain, evSqT, evSqL, evSlice, evNo, evSo, asInt, pick, gNm, gTp, gLs, gsCons, gsNil, Out.bind, noX, cmpF, binF, isiD, tyName, isSub, ordD, isD, lenD, subscD, seqOf, intD, absD, str_inj, N_is_web_form, e0]) fun _ => by simp [finF, stS, sSq, sAs, sRt, sRtN, sIf, sNx, sEx, evV, evC, evAnd, evOr, evNot, evIte, evOp, evCall, evNil, evCons, evTup, evLst, evBi, evIsi, evChain, evSqT, evSqL, evSlice, evNo, evSo, asInt, pick, gNm, gTp, gLs, gsCons, gsNil, Out.bind, noX, cmpF, binF, isiD, tyName, isSub, ordD, isD, lenD, subscD, seqOf, intD, absD, str_inj, N_is_web_form, at1, e1, q2]
      · simp [finF, stS, sSq, sAs, sRt, sRtN, sIf, sNx, sEx, evV, evC, evAnd, evOr, evNot, evIte, evOp, evCall, evNil, evCons, evTup, evLst, evBi, evIsi, evChain, evSqT, evSqL, evSlice, evNo, evSo, asInt, pick, gNm, gTp, gLs, gsCons, gsNil, Out.bind, noX, cmpF, binF, isiD, tyName, isSub, ordD, isD, lenD, subscD, seqOf, intD, absD, str_inj, N_is_web_form, at1]
      · rw [show webB (.tup [st, .tup ns]) = (goalB st ns.length && ns.all fun n => nodeB n ns.length) by simp [webB]; omega]
        refine k_and (by simp [finF, stS, sSq, sAs, sRt, sRtN, sIf, sNx, sEx, evV, evC, evAnd, evOr, evNot, evIte, evOp, evCall, evNil, evCons, evTup, evLst, evBi, evIsi, evChain, evSqT, evSqL, evSlice, evNo, evSo, asInt, pick, gNm, gTp, gLs, gsCons, gsNil, Out.bind, noX, cmpF, binF, isiD, tyName, isSub, ordD, isD, lenD, subscD, seqOf, intD, absD, str_inj, at0, e2]) fun _ => ?_
        have lc : lcL (gNm 2) (evC (.bl true)) (evCall F_is_node 2 0 [some 0, some 1] (evCons (evV 2) (evCons (evV 1) evNil)) evNil) [2] [.v (.tup [st, .tup ns]), .v (.int ns.length), .un] ns μ = .ok (ns.map fun n => .bl (nodeB n ns.length)) μ :=
          lcL_map fun x hx => by
            have e3 := fun μ => m_node (hn x hx) ns.length μ
            simp [finF, stS, sSq, sAs, sRt, sRtN, sIf, sNx, sEx, evV, evC, evAnd, evOr, evNot, evIte, evOp, evCall, evNil, evCons, evTup, evLst, evBi, evIsi, evChain, evSqT, evSqL, evSlice, evNo, evSo, asInt, pick, gNm, gTp, gLs, gsCons, gsNil, Out.bind, noX, cmpF, binF, isiD, tyName, isSub, ordD, isD, lenD, subscD, seqOf, intD, absD, str_inj, wipeS, e3]
        have hz : ns.length ≤ sizeLine := by rw [sizeLine_eq]; omega
        simp [finF, stS, sSq, sAs, sRt, sRtN, sIf, sNx, sEx, evV, evC, evAnd, evOr, evNot, evIte, evOp, evCall, evNil, evCons, evTup, evLst, evBi, evIsi, evChain, evSqT, evSqL, evSlice, evNo, evSo, asInt, pick, gNm, gTp, gLs, gsCons, gsNil, Out.bind, noX, cmpF, binF, isiD, tyName, isSub, ordD, isD, lenD, subscD, seqOf, intD, absD, str_inj, evLc, at1, lc, hz, allD]
        have : (ns.map fun n => D.bl (nodeB n ns.length)) = (ns.map fun n => nodeB n ns.length).map D.bl := by simp
        rw [this, bools_bl]
        simp
    · have q2 : shortB v 0 4000 = false := by simpa using q2
      have w : webB (.tup [st, v]) = false := by
        cases v <;> first | rfl | (simp [shortB] at q2; simp [webB]; omega)
      rw [w]
      exact r_fin (r_guard (c := true) (μ1 := μ) (k_or (a := false) (b := true) (by simp [finF, stS, sSq, sAs, sRt, sRtN, sIf, sNx, sEx, evV, evC, evAnd, evOr, evNot, evIte, evOp, evCall, evNil, evCons, evTup, evLst, evBi, evIsi, evChain, evSqT, evSqL, evSlice, evNo, evSo, asInt, pick, gNm, gTp, gLs, gsCons, gsNil, Out.bind, noX, cmpF, binF, isiD, tyName, isSub, ordD, isD, lenD, subscD, seqOf, intD, absD, str_inj, N_is_web_form, e0]) fun _ => by simp [finF, stS, sSq, sAs, sRt, sRtN, sIf, sNx, sEx, evV, evC, evAnd, evOr, evNot, evIte, evOp, evCall, evNil, evCons, evTup, evLst, evBi, evIsi, evChain, evSqT, evSqL, evSlice, evNo, evSo, asInt, pick, gNm, gTp, gLs, gsCons, gsNil, Out.bind, noX, cmpF, binF, isiD, tyName, isSub, ordD, isD, lenD, subscD, seqOf, intD, absD, str_inj, N_is_web_form, at1, e1, q2]) (fun _ => r_ret rfl) fun z => nomatch z)
  · have e0 : ∀ μ, F_is_tuple_of [d, .int 2] μ = .ok (.bl false) μ := fun μ => by rw [m_tuple h0]; simp [q]
    have w : webB d = false := by
      unfold webB
      split
      · simp [tupB] at q
      · rfl
    rw [w]
    exact r_fin (r_guard (c := true) (μ1 := μ) (k_or (a := true) (b := true) (by simp [finF, stS, sSq, sAs, sRt, sRtN, sIf, sNx, sEx, evV, evC, evAnd, evOr, evNot, evIte, evOp, evCall, evNil, evCons, evTup, evLst, evBi, evIsi, evChain, evSqT, evSqL, evSlice, evNo, evSo, asInt, pick, gNm, gTp, gLs, gsCons, gsNil, Out.bind, noX, cmpF, binF, isiD, tyName, isSub, ordD, isD, lenD, subscD, seqOf, intD, absD, str_inj, N_is_web_form, e0]) fun z => nomatch z) (fun _ => r_ret rfl) fun z => nomatch z)
end W74


set_option Elab.async false
set_option linter.all false
set_option maxRecDepth 100000
set_option maxHeartbeats 1000000
namespace W74
open PySem PyI
/-! ### the draws -/
/-- two pails -/
def PM (μ : Mem) : Prop := 2 ≤ μ.length ∧ ∀ l, l < 2 → ∃ a b c : Int, μ[l]? = some (.lst [.int a, .int b, .int c])
theorem PM.set {μ : Mem} (h : PM μ) {l : Nat} (hl : l < 2) (a b c : Int) : PM (μ.set l (.lst [.int a, .int b, .int c])) := by
  refine ⟨by rw [List.length_set]; exact h.1, fun k hk => ?_⟩
  by_cases e : l = k
  · subst e
    exact ⟨a, b, c, List.getElem?_set_self (by have := h.1; omega)⟩
  · rw [List.getElem?_set_ne e]; exact h.2 k hk
theorem a30 (a b c : D) : L2.atI [a, b, c] 0 = some a := rfl
theorem a31 (a b c : D) : L2.atI [a, b, c] 1 = some b := rfl
theorem a32 (a b c : D) : L2.atI [a, b, c] 2 = some c := rfl
theorem i30 (a b c d : D) : ixSet [a, b, c] 0 d = some [d, b, c] := rfl
theorem i31 (a b c d : D) : ixSet [a, b, c] 1 d = some [a, d, c] := rfl
theorem i32 (a b c d : D) : ixSet [a, b, c] 2 d = some [a, b, d] := rfl
theorem mulR (a b : Int) (h1 : -(2 ^ 64) < b) (h2 : b < 2 ^ 64) : mulD (.int a) (.int b) = some (.int (a * b)) := if_pos (.inr ⟨h1, h2⟩)
theorem mulL (a b : Int) (h1 : -(2 ^ 64) < a) (h2 : a < 2 ^ 64) : mulD (.int a) (.int b) = some (.int (a * b)) := if_pos (.inl ⟨h1, h2⟩)
theorem modP (a b : Int) (h : 0 < b) : modD (.int a) (.int b) = some (.int (a % b)) := if_pos h
theorem m_deal {μ : Mem} (h : PM μ) {l : Nat} (hl : l < 2) {t : Int} (ht : 0 < t) (ht2 : t < 1073741824) : ∃ f μ', F__law_deal [.cell l, .int t] μ = .ok (.int f) μ' ∧ PM μ' ∧ 0 ≤ f ∧ f < t := by
  obtain ⟨a, b, c, e⟩ := h.2 l hl
  have hlen : l < μ.length := by have := h.1; omega
  by_cases ha : 0 < a
  · refine ⟨a % t, μ.set l (.lst [.int (a / t), .int b, .int c]), ?_, h.set hl _ _ _, Int.emod_nonneg _ (by omega), Int.emod_lt_of_pos _ ht⟩
    show finF N__law_deal es__law_deal _ μ = _
    refine r_fin (r_seqR (r_if (c := true) (μ1 := μ) ?_ (fun _ => r_seq (ρ1 := [.v (.cell l), .v (.int t), .v (.int (a % t)), .un]) (μ1 := μ.set l (.lst [.int (a / t), .int b, .int c])) ?_ (r_ret ?_)) fun z => nomatch z))
    · simp [finF, stS, sSq, sAs, sRt, sRtN, sIf, sNx, sEx, evV, evC, evAnd, evOr, evNot, evIte, evOp, evCall, evNil, evCons, evTup, evLst, evBi, evIsi, evChain, evSqT, evSqL, evSlice, evNo, evSo, asInt, pick, gNm, gTp, gLs, gsCons, gsNil, Out.bind, noX, cmpF, binF, isiD, tyName, isSub, ordD, isD, lenD, subscD, seqOf, intD, absD, str_inj, N__law_deal, e, a30, ha]
    · simp [finF, stS, sSq, sAs, sRt, sRtN, sIf, sNx, sEx, evV, evC, evAnd, evOr, evNot, evIte, evOp, evCall, evNil, evCons, evTup, evLst, evBi, evIsi, evChain, evSqT, evSqL, evSlice, evNo, evSo, asInt, pick, gNm, gTp, gLs, gsCons, gsNil, Out.bind, noX, cmpF, binF, isiD, tyName, isSub, ordD, isD, lenD, subscD, seqOf, intD, absD, str_inj, N__law_deal, e, a30, i30, gSb, divmodD, ht, ht2]
    · simp [finF, stS, sSq, sAs, sRt, sRtN, sIf, sNx, sEx, evV, evC, evAnd, evOr, evNot, evIte, evOp, evCall, evNil, evCons, evTup, evLst, evBi, evIsi, evChain, evSqT, evSqL, evSlice, evNo, evSo, asInt, pick, gNm, gTp, gLs, gsCons, gsNil, Out.bind, noX, cmpF, binF, isiD, tyName, isSub, ordD, isD, lenD, subscD, seqOf, intD, absD, str_inj, ]
  · let m : Int := (b * 15511 + 11903 * (c + 1)) % 2147483423
    let b' : Int := (m * (m % 5147 + 30011) + 31 * (c + 1)) % 2147483423
    refine ⟨(b' / 349) % t, (μ.set l (.lst [.int a, .int b, .int (c + 1)])).set l (.lst [.int a, .int b', .int (c + 1)]), ?_, (h.set hl _ _ _).set hl _ _ _, Int.emod_nonneg _ (by omega), Int.emod_lt_of_pos _ ht⟩
    have e1 : (μ.set l (.lst [.int a, .int b, .int (c + 1)]))[l]? = some (.lst [.int a, .int b, .int (c + 1)]) := List.getElem?_set_self hlen
    have e2 : ((μ.set l (.lst [.int a, .int b, .int (c + 1)])).set l (.lst [.int a, .int b', .int (c + 1)]))[l]? = some (.lst [.int a, .int b', .int (c + 1)]) := List.getElem?_set_self (by rw [List.length_set]; exact hlen)
    have m1 : mulD (.int b) (.int 15511) = some (.int (b * 15511)) := mulR _ _ (by decide) (by decide)
    have m2 : mulD (.int 11903) (.int (c + 1)) = some (.int (11903 * (c + 1))) := mulL _ _ (by decide) (by decide)
    have m3 : mulD (.int m) (.int (m % 5147 + 30011)) = some (.int (m * (m % 5147 + 30011))) := mulR _ _ (by have := Int.emod_nonneg m (b := 5147) (by decide); omega) (by have := Int.emod_lt_of_pos m (b := 5147) (by decide); omega)
    have m4 : mulD (.int 31) (.int (c + 1)) = some (.int (31 * (c + 1))) := mulL _ _ (by decide) (by decide)
    show finF N__law_deal es__law_deal _ μ = _
    refine r_fin ?_
    obtain ⟨ρ', hr⟩ : Ret (sSq (sAs (evOp (fun _ => binF .Add) (evOp subscD (evV 0) (evC (.int 2))) (evC (.int 1))) (gSb (evV 0) (evC (.int 2)))) (sSq (sAs (evOp (fun _ => binF .Mod) (evBi intD (evCons (evOp (fun _ => binF .Add) (evOp (fun _ => binF .Mult) (evOp subscD (evV 0) (evC (.int 1))) (evC (.int 15511))) (evOp (fun _ => binF .Mult) (evC (.int 11903)) (evOp subscD (evV 0) (evC (.int 2))))) evNil)) (evC (.int 2147483423))) (gNm 3)) (sSq (sAs (evOp (fun _ => binF .Mod) (evBi intD (evCons (evOp (fun _ => binF .Add) (evOp (fun _ => binF .Mult) (evV 3) (evOp (fun _ => binF .Add) (evOp (fun _ => binF .Mod) (evBi intD (evCons (evV 3) evNil)) (evC (.int 5147))) (evC (.int 30011)))) (evOp (fun _ => binF .Mult) (evC (.int 31)) (evOp subscD (evV 0) (evC (.int 2))))) evNil)) (evC (.int 2147483423))) (gSb (evV 0) (evC (.int 1)))) (sRt (evOp (fun _ => binF .Mod) (evBi intD (evCons (evOp (fun _ => binF .FloorDiv) (evOp subscD (evV 0) (evC (.int 1))) (evC (.int 349))) evNil)) (evV 1))))))
        [.v (.cell l), .v (.int t), .un, .un] μ (.int ((b' / 349) % t)) ((μ.set l (.lst [.int a, .int b, .int (c + 1)])).set l (.lst [.int a, .int b', .int (c + 1)])) := by
      refine r_seq (ρ1 := [.v (.cell l), .v (.int t), .un, .un]) (μ1 := μ.set l (.lst [.int a, .int b, .int (c + 1)])) ?_ (r_seq (ρ1 := [.v (.cell l), .v (.int t), .un, .v (.int m)]) (μ1 := μ.set l (.lst [.int a, .int b, .int (c + 1)])) ?_ (r_seq (ρ1 := [.v (.cell l), .v (.int t), .un, .v (.int m)]) (μ1 := (μ.set l (.lst [.int a, .int b, .int (c + 1)])).set l (.lst [.int a, .int b', .int (c + 1)])) ?_ (r_ret ?_)))
      · simp [finF, stS, sSq, sAs, sRt, sRtN, sIf, sNx, sEx, evV, evC, evAnd, evOr, evNot, evIte, evOp, evCall, evNil, evCons, evTup, evLst, evBi, evIsi, evChain, evSqT, evSqL, evSlice, evNo, evSo, asInt, pick, gNm, gTp, gLs, gsCons, gsNil, Out.bind, noX, cmpF, binF, isiD, tyName, isSub, ordD, isD, lenD, subscD, seqOf, intD, absD, str_inj, e, a32, i32, gSb, addD]
      · refine n_as (k_op (d := .int m) (x := .int (b * 15511 + 11903 * (c + 1))) (μ1 := μ.set l (.lst [.int a, .int b, .int (c + 1)])) ?_ rfl (show binF .Mod (.int (b * 15511 + 11903 * (c + 1))) (.int 2147483423) = _ from modP (b * 15511 + 11903 * (c + 1)) 2147483423 (by decide)))
        simp only [finF, stS, sSq, sAs, sRt, sRtN, sIf, sNx, sEx, evV, evC, evAnd, evOr, evNot, evIte, evOp, evCall, evNil, evCons, evTup, evLst, evBi, evIsi, evChain, evSqT, evSqL, evSlice, evNo, evSo, asInt, pick, gNm, gTp, gLs, gsCons, gsNil, Out.bind, noX, cmpF, binF, isiD, tyName, isSub, ordD, isD, lenD, subscD, seqOf, intD, absD, str_inj, e1, a31, a32, m1, m2, addD, List.getElem?_cons_zero, List.getElem?_cons_succ]
      · have key : evOp (fun _ => binF .Mod) (evBi intD (evCons (evOp (fun _ => binF .Add) (evOp (fun _ => binF .Mult) (evV 3) (evOp (fun _ => binF .Add) (evOp (fun _ => binF .Mod) (evBi intD (evCons (evV 3) evNil)) (evC (.int 5147))) (evC (.int 30011)))) (evOp (fun _ => binF .Mult) (evC (.int 31)) (evOp subscD (evV 0) (evC (.int 2))))) evNil)) (evC (.int 2147483423)) [.v (.cell l), .v (.int t), .un, .v (.int m)] (μ.set l (.lst [.int a, .int b, .int (c + 1)])) = .ok (.int b') (μ.set l (.lst [.int a, .int b, .int (c + 1)])) := by
          refine k_op (x := .int (m * (m % 5147 + 30011) + 31 * (c + 1))) (μ1 := μ.set l (.lst [.int a, .int b, .int (c + 1)])) ?_ rfl (show binF .Mod (.int (m * (m % 5147 + 30011) + 31 * (c + 1))) (.int 2147483423) = _ from modP (m * (m % 5147 + 30011) + 31 * (c + 1)) 2147483423 (by decide))
          simp only [finF, stS, sSq, sAs, sRt, sRtN, sIf, sNx, sEx, evV, evC, evAnd, evOr, evNot, evIte, evOp, evCall, evNil, evCons, evTup, evLst, evBi, evIsi, evChain, evSqT, evSqL, evSlice, evNo, evSo, asInt, pick, gNm, gTp, gLs, gsCons, gsNil, Out.bind, noX, cmpF, binF, isiD, tyName, isSub, ordD, isD, lenD, subscD, seqOf, intD, absD, str_inj, e1, a32, m3, m4, addD, modP m 5147 (by decide), List.getElem?_cons_zero, List.getElem?_cons_succ]
        simp only [sAs]
        rw [key]
        simp [finF, stS, sSq, sAs, sRt, sRtN, sIf, sNx, sEx, evV, evC, evAnd, evOr, evNot, evIte, evOp, evCall, evNil, evCons, evTup, evLst, evBi, evIsi, evChain, evSqT, evSqL, evSlice, evNo, evSo, asInt, pick, gNm, gTp, gLs, gsCons, gsNil, Out.bind, noX, cmpF, binF, isiD, tyName, isSub, ordD, isD, lenD, subscD, seqOf, intD, absD, str_inj, e1, a31, i31, gSb]
      · have e3 : (μ.set l (.lst [.int a, .int b', .int (c + 1)]))[l]? = some (.lst [.int a, .int b', .int (c + 1)]) := List.getElem?_set_self hlen
        simp [finF, stS, sSq, sAs, sRt, sRtN, sIf, sNx, sEx, evV, evC, evAnd, evOr, evNot, evIte, evOp, evCall, evNil, evCons, evTup, evLst, evBi, evIsi, evChain, evSqT, evSqL, evSlice, evNo, evSo, asInt, pick, gNm, gTp, gLs, gsCons, gsNil, Out.bind, noX, cmpF, binF, isiD, tyName, isSub, ordD, isD, lenD, subscD, seqOf, intD, absD, str_inj, e3, a31, fdivD, modP _ _ ht]
    refine ⟨ρ', ?_⟩
    rw [← hr]
    exact n_sq (by
      have c0 : (evOp (cmpF .Gt) (evOp subscD (evV 0) (evC (.int 0))) (evC (.int 0))) [.v (.cell l), .v (.int t), .un, .un] μ = .ok (.bl false) μ := by simp [finF, stS, sSq, sAs, sRt, sRtN, sIf, sNx, sEx, evV, evC, evAnd, evOr, evNot, evIte, evOp, evCall, evNil, evCons, evTup, evLst, evBi, evIsi, evChain, evSqT, evSqL, evSlice, evNo, evSo, asInt, pick, gNm, gTp, gLs, gsCons, gsNil, Out.bind, noX, cmpF, binF, isiD, tyName, isSub, ordD, isD, lenD, subscD, seqOf, intD, absD, str_inj, e, a30, ha]
      exact n_ifF c0)
theorem atI_in {xs : List D} {f : Int} (h0 : 0 ≤ f) (h1 : f < xs.length) : ∃ x ∈ xs, L2.atI xs f = some x := by
  have hl : f.toNat < xs.length := by omega
  refine ⟨xs[f.toNat], List.getElem_mem hl, ?_⟩
  unfold L2.atI L2.ixN
  rw [if_pos h0, if_pos h1]
  simp [hl]
theorem v_deal {l : Nat} (hl : l < 2) {t : Int} (ht : 0 < t) (ht2 : t < 1073741824) : GvF PM F__law_deal [.cell l, .int t] fun d => ∃ f : Int, d = .int f ∧ 0 ≤ f ∧ f < t := fun μ p => by
  obtain ⟨f, μ', e, p', h⟩ := m_deal p hl ht ht2
  exact ⟨_, μ', e, p', f, rfl, h⟩
/-- a list or a tuple of these -/
def ofXs (s : D) (xs : List D) : Prop := s = .lst xs ∨ s = .tup xs
theorem v_any {l : Nat} (hl : l < 2) {s : D} {xs : List D} (hs : ofXs s xs) (hne : xs ≠ []) (hz : xs.length < 1000) : GvF PM F__law_any [.cell l, s] fun d => d ∈ xs := fun μ p => by
  have h0 : 0 < xs.length := List.length_pos_iff.mpr hne
  obtain ⟨f, μ', e, p', f0, f1⟩ := m_deal p hl (t := xs.length) (by omega) (by omega)
  obtain ⟨x, hx, ex⟩ := atI_in f0 f1
  refine ⟨x, μ', ?_, p', hx⟩
  rcases hs with rfl | rfl
  · simp [finF, stS, sSq, sAs, sRt, sRtN, sIf, sNx, sEx, evV, evC, evAnd, evOr, evNot, evIte, evOp, evCall, evNil, evCons, evTup, evLst, evBi, evIsi, evChain, evSqT, evSqL, evSlice, evNo, evSo, asInt, pick, gNm, gTp, gLs, gsCons, gsNil, Out.bind, noX, cmpF, binF, isiD, tyName, isSub, ordD, isD, lenD, subscD, seqOf, intD, absD, str_inj, F__law_any, N__law_any, es__law_any, e, ex]
  · simp [finF, stS, sSq, sAs, sRt, sRtN, sIf, sNx, sEx, evV, evC, evAnd, evOr, evNot, evIte, evOp, evCall, evNil, evCons, evTup, evLst, evBi, evIsi, evChain, evSqT, evSqL, evSlice, evNo, evSo, asInt, pick, gNm, gTp, gLs, gsCons, gsNil, Out.bind, noX, cmpF, binF, isiD, tyName, isSub, ordD, isD, lenD, subscD, seqOf, intD, absD, str_inj, F__law_any, N__law_any, es__law_any, e, ex]
section
variable {ρ : Sls} {l p : Nat} {es et : Ev} {R R1 : D → Prop}
theorem g_deal (hl : l < 2) (hp : ρ[p]? = some (.v (.cell l))) {t : Int} (he : ∀ μ, PM μ → et ρ μ = .ok (.int t) μ) (ht : 0 < t) (ht2 : t < 1073741824) (k : ∀ f : Int, 0 ≤ f → f < t → R (.int f)) : Gv PM (evCall F__law_deal 2 0 [some 0, some 1] (evCons (evV p) (evCons et evNil)) evNil) ρ R :=
  g_call (gl_cons (g_v (R := fun d => d = .cell l) hp rfl) fun d hd => gl_cons (g_pure (R := fun d => d = .int t) he rfl) fun d2 hd2 => gl_nil (gl_nil ⟨rfl, rfl, by subst hd hd2; exact (v_deal hl ht ht2).imp fun d ⟨f, e, h0, h1⟩ => by subst e; exact k f h0 h1⟩))
theorem g_any (hl : l < 2) (hp : ρ[p]? = some (.v (.cell l))) (he : Gv PM es ρ fun s => ∃ xs, ofXs s xs ∧ xs ≠ [] ∧ xs.length < 1000 ∧ ∀ x ∈ xs, R x) : Gv PM (evCall F__law_any 2 0 [some 0, some 1] (evCons (evV p) (evCons es evNil)) evNil) ρ R :=
  g_call (gl_cons (g_v (R := fun d => d = .cell l) hp rfl) fun d hd => gl_cons he fun s hs => gl_nil (gl_nil ⟨rfl, rfl, by
    subst hd
    obtain ⟨xs, h1, h2, h3, h4⟩ := hs
    exact (v_any hl h1 h2 h3).imp fun d hd => h4 d hd⟩))
end
/-- small and flat -/
def fsm (d : D) : Bool := match d with
  | .non => true | .bl _ => true
  | .int i => decide (-5 ≤ i) && decide (i ≤ 2000)
  | .str x => decide (x = "end") || (decide (x = "ever") || (decide (x = "off") || decide (x = "0")))
  | _ => false
/-- a way within a web of m nodes -/
def goodW (m : Int) (d : D) : Prop := fsm d = true ∧ goalB d m = true
theorem goodW_int {m i : Int} (h0 : 0 ≤ i) (h1 : i < m) (hm : m ≤ 100) : goodW m (.int i) := by
  constructor
  · simp [fsm]; omega
  · simp [goalB, endB, numB]; omega
theorem goodW_end {m : Int} : goodW m (.str "end") := ⟨rfl, rfl⟩
theorem goodW_ever {m : Int} : goodW m (.str "ever") := ⟨rfl, rfl⟩
/-- a node that is drawn -/
def firstOk (tp : Int) (d : D) : Prop := ∃ i : Int, d = .int i ∧ ((0 ≤ i ∧ i < tp) ∨ i = 1022)
def secondOk (tp : Int) (d : D) : Prop := ∃ i : Int, d = .int i ∧ ((0 ≤ i ∧ i < tp) ∨ i = 1023)
structure GN (tp m i j : Int) (l h : D) : Prop where
  si : (0 ≤ i ∧ i < tp) ∨ i = 1022
  sj : (0 ≤ j ∧ j < tp) ∨ j = 1023
  wl : l = .non ∨ goodW m l
  wh : h = .non ∨ goodW m h
  one : ¬ (l = .non ∧ h = .non)
  out : j = 1023 → l = .non
  self : i = j → h = .non
def goodN (tp m : Int) (x : D) : Prop := ∃ i j l h, x = .tup [.int i, .int j, l, h] ∧ GN tp m i j l h
def goodWeb (mo tp : Int) (w : D) : Prop := ∃ st ns, w = .tup [st, .tup ns] ∧ 1 ≤ ns.length ∧ (ns.length : Int) ≤ mo ∧ goodW ns.length st ∧ ∀ x ∈ ns, goodN tp ns.length x
theorem add_lst (a b : List D) (h : a.length + b.length ≤ 1000) : addD (.lst a) (.lst b) = some (.lst (a ++ b)) := if_pos (by rw [sizeLine_eq]; omega)
theorem add_tup (a b : List D) (h : a.length + b.length ≤ 1000) : addD (.tup a) (.tup b) = some (.tup (a ++ b)) := if_pos (by rw [sizeLine_eq]; omega)
theorem rep6 (x : D) : mulD (.lst [x]) (.int 6) = some (.lst [x, x, x, x, x, x]) := by
  have h : -(2 ^ 63) ≤ (6 : Int) ∧ (6 : Int) < 2 ^ 63 ∧ [x].length * (6 : Int).toNat ≤ sizeLine := ⟨by decide, by decide, by rw [sizeLine_eq]; show (6 : Nat) ≤ 16777216; decide⟩
  show (if -(2 ^ 63) ≤ (6 : Int) ∧ (6 : Int) < 2 ^ 63 ∧ [x].length * (6 : Int).toNat ≤ sizeLine then some (D.lst (List.replicate (6 : Int).toNat [x]).flatten) else none) = _
  rw [if_pos h]
  rfl
theorem sz {n : Nat} (h : n ≤ 1000) : n ≤ sizeLine := by rw [sizeLine_eq]; omega
theorem mem2 {R : D → Prop} {a b x : D} (h1 : R a) (h2 : R b) (h : x ∈ [a, b]) : R x := by
  simp only [List.mem_cons, List.not_mem_nil, or_false] at h
  rcases h with rfl | rfl <;> assumption
theorem mem3 {R : D → Prop} {a b c x : D} (h1 : R a) (h2 : R b) (h3 : R c) (h : x ∈ [a, b, c]) : R x := by
  simp only [List.mem_cons, List.not_mem_nil, or_false] at h
  rcases h with rfl | rfl | rfl <;> assumption
theorem mem4 {R : D → Prop} {a b c d x : D} (h1 : R a) (h2 : R b) (h3 : R c) (h4 : R d) (h : x ∈ [a, b, c, d]) : R x := by
  simp only [List.mem_cons, List.not_mem_nil, or_false] at h
  rcases h with rfl | rfl | rfl | rfl <;> assumption
theorem mem5 {R : D → Prop} {a b c d e x : D} (h1 : R a) (h2 : R b) (h3 : R c) (h4 : R d) (h5 : R e) (h : x ∈ [a, b, c, d, e]) : R x := by
  simp only [List.mem_cons, List.not_mem_nil, or_false] at h
  rcases h with rfl | rfl | rfl | rfl | rfl <;> assumption
theorem noneB_iff : ∀ x : D, noneB x = true ↔ x = .non := fun x => by cases x <;> simp [noneB]
theorem GN.four {tp m i j : Int} {l h : D} (g : GN tp m i j l h) (ht : tp ≤ 999) : fourB (.int i) (.int j) l h m = true := by
  have f1 : ∀ x : D, (x = .non ∨ goodW m x) → wayB x m = true := fun x hx => by
    rcases hx with rfl | hx
    · rfl
    · simp [wayB, hx.2]
  have hi := g.si
  have hj := g.sj
  have s1 : srcB (.int i) = true := by simp [srcB, numB]; omega
  have t1 : tgtB (.int j) = true := by simp [tgtB, numB]; omega
  have w : (noneB l && noneB h) = false := by
    cases q : noneB l <;> cases q2 : noneB h <;> simp
    exact g.one ⟨(noneB_iff l).mp q, (noneB_iff h).mp q2⟩
  have k1 : (isI (.int j) 1023 && !noneB l) = false := by
    by_cases q : j = 1023
    · have := (noneB_iff l).mpr (g.out q); simp [this]
    · simp [isI, q]
  have k2 : (sameI (.int i) (.int j) && !noneB h) = false := by
    by_cases q : i = j
    · have := (noneB_iff h).mpr (g.self q); simp [this]
    · simp [sameI, q]
  simp [fourB, s1, t1, f1 l g.wl, f1 h g.wh, w, k1, k2]
theorem goodN_of {tp m : Int} {s t l h : D} (hs : firstOk tp s) (ht : secondOk tp t) (hl : l = .non ∨ goodW m l) (hh : h = .non ∨ goodW m h) (h1 : ¬ (l = .non ∧ h = .non)) (h2 : t = .int 1023 → l = .non) (h3 : s = t → h = .non) : goodN tp m (.tup [s, t, l, h]) := by
  obtain ⟨i, rfl, hi⟩ := hs
  obtain ⟨j, rfl, hj⟩ := ht
  exact ⟨i, j, l, h, rfl, hi, hj, hl, hh, h1, fun z => h2 (by rw [z]), fun z => h3 (by rw [z])⟩
theorem fsm_seen' {w : D} (h : fsm w = true) : seen w = true := by cases w <;> first | rfl | (simp [fsm] at h)
theorem goodWeb_web {mo tp : Int} {w : D} (h : goodWeb mo tp w) (ht : tp ≤ 999) (hm : mo ≤ 4000) : seenWeb w = true ∧ webB w = true := by
  obtain ⟨st, ns, rfl, h1, h2, hst, hns⟩ := h
  have a1 : (ns.all fun n => nodeB n ns.length) = true := List.all_eq_true.mpr fun x hx => by
    obtain ⟨i, j, l, h, rfl, g⟩ := hns x hx
    exact g.four ht
  have a2 : ns.all seenNode = true := List.all_eq_true.mpr fun x hx => by
    obtain ⟨i, j, l, h, rfl, g⟩ := hns x hx
    have q : ∀ x : D, (x = .non ∨ goodW ns.length x) → seen x = true := fun x hx => by
      rcases hx with rfl | hx
      · rfl
      · exact fsm_seen' hx.1
    have e1 := q l g.wl
    have e2 := q h g.wh
    simp only [seenNode, List.all_cons, List.all_nil, Bool.and_true, e1, e2]
    rfl
  have a3 := fsm_seen' hst.1
  refine ⟨?_, by simp only [webB, hst.2, a1, Bool.and_true, decide_eq_true_eq]; omega⟩
  simp only [seenWeb, List.all_cons, List.all_nil, Bool.and_true, a2, Bool.and_eq_true, and_true]
  split
  · next ns' => exact absurd a3 (by have := hst.1; simp [fsm] at this)
  · exact a3
theorem v_web {l : Nat} (hl : l < 2) {mo tp : Int} (ho1 : 1 ≤ mo) (ho2 : mo ≤ 50) (ht1 : 1 ≤ tp) (ht2 : tp ≤ 999) : GvF PM F__law_web [.cell l, .int mo, .int tp] (goodWeb mo tp) := by
  refine f_of (t_sq (x_tp2 (g_tup (gl_cons (R1 := fun d => ∃ m : Int, d = .int m ∧ 1 ≤ m ∧ m ≤ mo) ?_ fun d hd => gl_cons (R1 := fun d => d = .tup []) (g_tup (gl_nil ⟨sz (by simp), rfl⟩)) fun d2 e2 => gl_nil ⟨sz (by simp), _, _, rfl, ?_⟩))))
  · refine g_op (R1 := fun d => d = .int 1) (g_c rfl) fun x hx => g_deal hl rfl (fun μ _ => rfl) (by omega) (by omega) fun f h0 h1 => ?_
    subst hx
    exact ⟨.int (1 + f), fun μ _ => rfl, 1 + f, rfl, by omega, by omega⟩
  obtain ⟨m, rfl, m1, m2⟩ := hd
  subst e2
  refine t_sq (x_for (I := fun ds ρ => ∃ a3 a4 a5 a8 a9 a10 ns, ρ = [.v (.cell l), .v (.int mo), .v (.int tp), a3, a4, a5, .v (.int m), .v (.tup ns), a8, a9, a10] ∧ (∀ x ∈ ns, goodN tp m x) ∧ (ns.length : Int) + ds.length = m) ?_ ?_ ?_)
  · refine gl_r1 (n := m.toNat) (g_v (d := .int m) rfl ⟨by congr 1; omega, by omega, .un, .un, .un, .un, .un, .un, [], rfl, (fun x hx => by cases hx), by simp [rngD]; omega⟩)
  · rintro d ds ρ ⟨a3, a4, a5, a8, a9, a10, ns, rfl, hns, hlen⟩
    have m3 : m ≤ 100 := by omega
    have ngw : ∀ x, goodW m x → x ≠ .non := fun x hx z => by rw [z] at hx; have := hx.2; simp [goalB, endB, numB] at this
    refine x_sq (x_p2 (gl_cons (R1 := firstOk tp) (g_any hl rfl (g_lst (gl_cons (R1 := firstOk tp) (g_deal hl rfl (fun μ _ => rfl) (by omega) (by omega) fun f h0 h1 => ⟨f, rfl, .inl ⟨h0, h1⟩⟩) fun b1 k1 => gl_cons (R1 := firstOk tp) (g_deal hl rfl (fun μ _ => rfl) (by omega) (by omega) fun f h0 h1 => ⟨f, rfl, .inl ⟨h0, h1⟩⟩) fun b2 k2 => gl_cons (R1 := firstOk tp) (g_c ⟨1022, rfl, .inr rfl⟩) fun b3 k3 => gl_nil ⟨sz (by simp), _, .inl rfl, by simp, by simp, fun x hx => mem3 k1 k2 k3 hx⟩))) fun f hf =>
      gl_cons (R1 := fun d => ∃ i : Int, d = .int i ∧ 0 ≤ i ∧ i < tp) (g_deal hl rfl (fun μ _ => rfl) (by omega) (by omega) fun f h0 h1 => ⟨f, rfl, h0, h1⟩) fun s0 hs0 => gl_nil ⟨_, _, rfl, ?_⟩))
    obtain ⟨i, rfl, hi⟩ := hf
    obtain ⟨j0, rfl, hj0⟩ := hs0
    have hj : secondOk tp (.int j0) := ⟨j0, rfl, .inl hj0⟩
    refine x_sq (x_as ((g_any (R := secondOk tp) hl rfl (g_lst (gl_cons (R1 := secondOk tp) (g_v (d := .int j0) rfl hj) fun b1 k1 => gl_cons (R1 := secondOk tp) (g_v (d := .int j0) rfl hj) fun b2 k2 => gl_cons (R1 := secondOk tp) (g_v (d := .int j0) rfl hj) fun b3 k3 => gl_cons (R1 := secondOk tp) (g_ite (g_pure (d := .bl (!decide (i = 1022))) (fun μ _ => by simp [finF, stS, sSq, sAs, sRt, sRtN, sIf, sNx, sEx, evV, evC, evAnd, evOr, evNot, evIte, evOp, evCall, evNil, evCons, evTup, evLst, evBi, evIsi, evChain, evSqT, evSqL, evSlice, evNo, evSo, asInt, pick, gNm, gTp, gLs, gsCons, gsNil, Out.bind, noX, cmpF, binF, isiD, tyName, isSub, ordD, isD, lenD, subscD, seqOf, intD, absD, str_inj, neII]) ⟨_, rfl, fun hb => g_v (d := .int i) rfl ⟨i, rfl, .inl (by simp at hb; omega)⟩, fun _ => g_v (d := .int j0) rfl hj⟩)) fun b4 k4 => gl_cons (R1 := secondOk tp) (g_c ⟨1023, rfl, .inr rfl⟩) fun b5 k5 =>
      gl_nil ⟨sz (by simp), _, .inl rfl, by simp, by simp, fun x hx => mem5 k1 k2 k3 k4 k5 hx⟩))).imp fun t ht => ?_))
    obtain ⟨j, rfl, hj2⟩ := ht
    refine x_sq (x_as (g_lc (R1 := goodW m) (gl_sqT (g_tup (gl_cons (R1 := fun _ => True) (g_c trivial) fun c0 _ => gl_cons (R1 := fun _ => True) (g_c trivial) fun c1 _ => gl_nil ⟨sz (by simp), [c0, c1], rfl, sz (by simp), fun d hd => ?_, fun ys hy1 hy2 => ?_⟩)))))
    · exact g_any hl rfl (g_lst (gl_cons (R1 := goodW m) (g_deal (t := m) hl rfl (fun μ _ => rfl) (by omega) (by omega) fun f h0 h1 => goodW_int h0 h1 m3) fun b1 k1 => gl_cons (R1 := goodW m) (g_deal (t := m) hl rfl (fun μ _ => rfl) (by omega) (by omega) fun f h0 h1 => goodW_int h0 h1 m3) fun b2 k2 => gl_cons (R1 := goodW m) (g_c goodW_end) fun b3 k3 => gl_cons (R1 := goodW m) (g_c goodW_end) fun b4 k4 => gl_nil ⟨sz (by simp), _, .inl rfl, by simp, by simp, fun x hx => mem4 k1 k2 k3 k4 hx⟩))
    obtain ⟨w0, w1, rfl⟩ : ∃ w0 w1, ys = [w0, w1] := by
      match ys, hy1 with
      | [w0, w1], _ => exact ⟨w0, w1, rfl⟩
    have g0 : goodW m w0 := hy2 _ (by simp)
    have g1 : goodW m w1 := hy2 _ (by simp)
    have six : ∀ (a b : D) (hx : goodW m a) (hb : goodW m b) (x : D), x ∈ [a, a, a, a, a, a, .str "ever", b] → goodW m x := fun a b ha hb x hx => by
      simp only [List.mem_cons, List.not_mem_nil, or_false] at hx
      rcases hx with rfl | rfl | rfl | rfl | rfl | rfl | rfl | rfl <;> first | assumption | exact goodW_ever
    refine x_sq (x_as (g_lst (gl_cons (R1 := goodW m) (g_any hl rfl (g_pure (d := .lst [w0, w0, w0, w0, w0, w0, .str "ever", w1]) (fun μ _ => by simp [finF, stS, sSq, sAs, sRt, sRtN, sIf, sNx, sEx, evV, evC, evAnd, evOr, evNot, evIte, evOp, evCall, evNil, evCons, evTup, evLst, evBi, evIsi, evChain, evSqT, evSqL, evSlice, evNo, evSo, asInt, pick, gNm, gTp, gLs, gsCons, gsNil, Out.bind, noX, cmpF, binF, isiD, tyName, isSub, ordD, isD, lenD, subscD, seqOf, intD, absD, str_inj, at0, at1, rep6, add_lst, sizeLine_eq]) ⟨_, .inl rfl, by simp, by simp, six w0 w1 g0 g1⟩)) fun u0 hu0 => gl_cons (R1 := goodW m) (g_any hl rfl (g_pure (d := .lst [w1, w1, w1, w1, w1, w1, .str "ever", w0]) (fun μ _ => by simp [finF, stS, sSq, sAs, sRt, sRtN, sIf, sNx, sEx, evV, evC, evAnd, evOr, evNot, evIte, evOp, evCall, evNil, evCons, evTup, evLst, evBi, evIsi, evChain, evSqT, evSqL, evSlice, evNo, evSo, asInt, pick, gNm, gTp, gLs, gsCons, gsNil, Out.bind, noX, cmpF, binF, isiD, tyName, isSub, ordD, isD, lenD, subscD, seqOf, intD, absD, str_inj, at0, at1, rep6, add_lst, sizeLine_eq]) ⟨_, .inl rfl, by simp, by simp, six w1 w0 g1 g0⟩)) fun u1 hu1 => gl_nil ⟨sz (by simp), ?_⟩)))
    refine x_sq (x_ls2 ((g_any (R := fun d => ∃ x y, d = .lst [x, y] ∧ (x = .non ∨ goodW m x) ∧ (y = .non ∨ goodW m y) ∧ ¬ (x = .non ∧ y = .non)) hl rfl (g_pure (d := .lst [.lst [u0, u1], .lst [u0, u1], .lst [u0, u1], .lst [.non, u1], .lst [u0, .non]]) (fun μ _ => by simp [finF, stS, sSq, sAs, sRt, sRtN, sIf, sNx, sEx, evV, evC, evAnd, evOr, evNot, evIte, evOp, evCall, evNil, evCons, evTup, evLst, evBi, evIsi, evChain, evSqT, evSqL, evSlice, evNo, evSo, asInt, pick, gNm, gTp, gLs, gsCons, gsNil, Out.bind, noX, cmpF, binF, isiD, tyName, isSub, ordD, isD, lenD, subscD, seqOf, intD, absD, str_inj, at0, at1, sizeLine_eq]) ⟨_, .inl rfl, by simp, by simp, fun x hx => ?_⟩)).imp fun dd hdd => ?_))
    · have k1 : ∃ x y, D.lst [u0, u1] = .lst [x, y] ∧ (x = .non ∨ goodW m x) ∧ (y = .non ∨ goodW m y) ∧ ¬ (x = .non ∧ y = .non) := ⟨_, _, rfl, .inr hu0, .inr hu1, fun z => ngw _ hu0 z.1⟩
      exact mem5 (R := fun d => ∃ x y, d = .lst [x, y] ∧ (x = .non ∨ goodW m x) ∧ (y = .non ∨ goodW m y) ∧ ¬ (x = .non ∧ y = .non)) k1 k1 k1 ⟨_, _, rfl, .inl rfl, .inr hu1, fun z => ngw _ hu1 z.2⟩ ⟨_, _, rfl, .inr hu0, .inl rfl, fun z => ngw _ hu0 z.1⟩ hx
    obtain ⟨lo, hi', rfl, c1, c2, c3⟩ := hdd
    refine ⟨lo, hi', rfl, ?_⟩
    -- the end: the node
    have tail : ∀ lo hi' : D, (lo = .non ∨ goodW m lo) → (hi' = .non ∨ goodW m hi') → ¬ (lo = .non ∧ hi' = .non) → (j = 1023 → lo = .non) → (i = j → hi' = .non) → Nx PM (sAs (evOp (fun _ => binF .Add) (evV 7) (evTup (evCons (evTup (evCons (evV 3) (evCons (evV 8) (evCons (evV 5) (evCons (evV 4) evNil))))) evNil))) (gNm 7)) [.v (.cell l), .v (.int mo), .v (.int tp), .v (.int i), .v hi', .v lo, .v (.int m), .v (.tup ns), .v (.int j), .v d, .v (.lst [u0, u1])]
        (fun ρ => ∃ a3 a4 a5 a8 a9 a10 ns, ρ = [.v (.cell l), .v (.int mo), .v (.int tp), a3, a4, a5, .v (.int m), .v (.tup ns), a8, a9, a10] ∧ (∀ x ∈ ns, goodN tp m x) ∧ (ns.length : Int) + ds.length = m) := fun lo hi' c1 c2 c3 c4 c5 => by
      have hlen' : (ns.length : Int) + (ds.length + 1) = m := by simpa using hlen
      refine x_as (g_pure (d := .tup (ns ++ [.tup [.int i, .int j, lo, hi']])) (fun μ _ => ?_) ⟨_, _, _, _, _, _, _, rfl, fun x hx => ?_, by simp; omega⟩)
      · have := add_tup ns [.tup [.int i, .int j, lo, hi']] (by simp; omega)
        simp [finF, stS, sSq, sAs, sRt, sRtN, sIf, sNx, sEx, evV, evC, evAnd, evOr, evNot, evIte, evOp, evCall, evNil, evCons, evTup, evLst, evBi, evIsi, evChain, evSqT, evSqL, evSlice, evNo, evSo, asInt, pick, gNm, gTp, gLs, gsCons, gsNil, Out.bind, noX, cmpF, binF, isiD, tyName, isSub, ordD, isD, lenD, subscD, seqOf, intD, absD, str_inj, this, sizeLine_eq]
      · rcases List.mem_append.mp hx with hx | hx
        · exact hns x hx
        · rw [List.mem_singleton.mp hx]
          exact goodN_of ⟨i, rfl, hi⟩ ⟨j, rfl, hj2⟩ c1 c2 c3 (fun z => c4 (by cases z; rfl)) fun z => c5 (by cases z; rfl)
    have tail2 : ∀ lo hi' : D, (lo = .non ∨ goodW m lo) → (hi' = .non ∨ goodW m hi') → ¬ (lo = .non ∧ hi' = .non) → (j = 1023 → lo = .non) → Nx PM (sSq (sIf (evOp (cmpF .Eq) (evV 3) (evV 8)) (sP2 5 4 (evCons (evOp subscD (evV 10) (evC (.int 0))) (evCons (evC .non) evNil))) sNx) (sAs (evOp (fun _ => binF .Add) (evV 7) (evTup (evCons (evTup (evCons (evV 3) (evCons (evV 8) (evCons (evV 5) (evCons (evV 4) evNil))))) evNil))) (gNm 7))) [.v (.cell l), .v (.int mo), .v (.int tp), .v (.int i), .v hi', .v lo, .v (.int m), .v (.tup ns), .v (.int j), .v d, .v (.lst [u0, u1])]
        (fun ρ => ∃ a3 a4 a5 a8 a9 a10 ns, ρ = [.v (.cell l), .v (.int mo), .v (.int tp), a3, a4, a5, .v (.int m), .v (.tup ns), a8, a9, a10] ∧ (∀ x ∈ ns, goodN tp m x) ∧ (ns.length : Int) + ds.length = m) := fun lo hi' c1 c2 c3 c4 => by
      refine x_sq (x_if (g_pure (d := .bl (decide (i = j))) (fun μ _ => by simp [finF, stS, sSq, sAs, sRt, sRtN, sIf, sNx, sEx, evV, evC, evAnd, evOr, evNot, evIte, evOp, evCall, evNil, evCons, evTup, evLst, evBi, evIsi, evChain, evSqT, evSqL, evSlice, evNo, evSo, asInt, pick, gNm, gTp, gLs, gsCons, gsNil, Out.bind, noX, cmpF, binF, isiD, tyName, isSub, ordD, isD, lenD, subscD, seqOf, intD, absD, str_inj, eqII]) ⟨_, rfl, fun hb => x_p2 (gl_cons (R1 := fun d => d = u0) (g_pure (d := u0) (fun μ _ => by simp [finF, stS, sSq, sAs, sRt, sRtN, sIf, sNx, sEx, evV, evC, evAnd, evOr, evNot, evIte, evOp, evCall, evNil, evCons, evTup, evLst, evBi, evIsi, evChain, evSqT, evSqL, evSlice, evNo, evSo, asInt, pick, gNm, gTp, gLs, gsCons, gsNil, Out.bind, noX, cmpF, binF, isiD, tyName, isSub, ordD, isD, lenD, subscD, seqOf, intD, absD, str_inj, at0]) rfl) fun z1 hz1 => gl_cons (R1 := fun d => d = .non) (g_c rfl) fun z2 hz2 => gl_nil ⟨_, _, rfl, ?_⟩), fun hb => x_nx ?_⟩))
      · subst hz1 hz2
        have e : i = j := by simpa using hb
        exact tail _ _ (.inr hu0) (.inl rfl) (fun z => ngw _ hu0 z.1) (fun z => by omega) fun _ => rfl
      · have e : i ≠ j := by simpa using hb
        exact tail _ _ c1 c2 c3 c4 fun z => absurd z e
    refine x_sq (x_if (g_pure (d := .bl (decide (j = 1023))) (fun μ _ => by simp [finF, stS, sSq, sAs, sRt, sRtN, sIf, sNx, sEx, evV, evC, evAnd, evOr, evNot, evIte, evOp, evCall, evNil, evCons, evTup, evLst, evBi, evIsi, evChain, evSqT, evSqL, evSlice, evNo, evSo, asInt, pick, gNm, gTp, gLs, gsCons, gsNil, Out.bind, noX, cmpF, binF, isiD, tyName, isSub, ordD, isD, lenD, subscD, seqOf, intD, absD, str_inj, eqII]) ⟨_, rfl, fun hb => x_p2 (gl_cons (R1 := fun d => d = .non) (g_c rfl) fun z1 hz1 => gl_cons (R1 := fun d => d = u1) (g_pure (d := u1) (fun μ _ => by simp [finF, stS, sSq, sAs, sRt, sRtN, sIf, sNx, sEx, evV, evC, evAnd, evOr, evNot, evIte, evOp, evCall, evNil, evCons, evTup, evLst, evBi, evIsi, evChain, evSqT, evSqL, evSlice, evNo, evSo, asInt, pick, gNm, gTp, gLs, gsCons, gsNil, Out.bind, noX, cmpF, binF, isiD, tyName, isSub, ordD, isD, lenD, subscD, seqOf, intD, absD, str_inj, at1]) rfl) fun z2 hz2 => gl_nil ⟨_, _, rfl, ?_⟩), fun hb => x_nx ?_⟩))
    · subst hz1 hz2
      exact tail2 _ _ (.inl rfl) (.inr hu1) (fun z => ngw _ hu1 z.2) fun _ => rfl
    · have e : j ≠ 1023 := by simpa using hb
      exact tail2 _ _ c1 c2 c3 fun z => absurd z e
  · rintro ρ ⟨a3, a4, a5, a8, a9, a10, ns, rfl, hns, hlen⟩
    have hlen' : (ns.length : Int) = m := by simpa using hlen
    have m3 : m ≤ 100 := by omega
    have z0 : goodW m (.int 0) := goodW_int (by decide) (by omega) m3
    refine t_rt (g_tup (gl_cons (R1 := goodW m) (g_any hl rfl (g_lst (gl_cons (R1 := goodW m) (g_c z0) fun b1 k1 => gl_cons (R1 := goodW m) (g_c z0) fun b2 k2 => gl_cons (R1 := goodW m) (g_c z0) fun b3 k3 => gl_cons (R1 := goodW m) (g_deal (t := m) hl rfl (fun μ _ => rfl) (by omega) (by omega) fun f h0 h1 => goodW_int h0 h1 m3) fun b4 k4 => gl_cons (R1 := goodW m) (g_any hl rfl (g_lst (gl_cons (R1 := goodW m) (g_c goodW_end) fun e1 q1 => gl_cons (R1 := goodW m) (g_c goodW_ever) fun e2 q2 => gl_cons (R1 := goodW m) (g_c z0) fun e3 q3 => gl_nil ⟨sz (by simp), _, .inl rfl, by simp, by simp, fun x hx => mem3 q1 q2 q3 hx⟩))) fun b5 k5 =>
      gl_nil ⟨sz (by simp), _, .inl rfl, by simp, by simp, fun x hx => mem5 k1 k2 k3 k4 k5 hx⟩))) fun st hst => gl_cons (R1 := fun d => d = .tup ns) (g_v rfl rfl) fun d2 h2 => gl_nil ⟨sz (by simp), ?_⟩))
    subst h2
    refine ⟨st, ns, rfl, by omega, by omega, ?_, ?_⟩
    · rw [hlen']; exact hst
    · rw [hlen']; exact hns
end W74


set_option Elab.async false
set_option linter.all false
set_option maxRecDepth 100000
set_option maxHeartbeats 1000000
namespace W74
open PySem PyI
/-! ### what repr shows of a way -/
theorem shown_ints : ((List.range 2006).all fun k => decide ((PyData.shown (.int ((k : Int) - 5))).length ≤ 10) && (!(("'end'" : Str) == PyData.shown (.int ((k : Int) - 5))) && !(("'ever'" : Str) == PyData.shown (.int ((k : Int) - 5))))) = true := by decide +kernel
theorem shown_int {i : Int} (h0 : -5 ≤ i) (h1 : i ≤ 2000) : (PyData.shown (.int i)).length ≤ 10 ∧ (("'end'" : Str) == PyData.shown (.int i)) = false ∧ (("'ever'" : Str) == PyData.shown (.int i)) = false := by
  have h := List.all_eq_true.mp shown_ints (i + 5).toNat (List.mem_range.mpr (by omega))
  have e : (((i + 5).toNat : Int) - 5) = i := by omega
  rw [e] at h
  simp only [Bool.and_eq_true, decide_eq_true_eq, Bool.not_eq_true'] at h
  exact h
theorem small_log {i : Int} (h0 : -5 ≤ i) (h1 : i ≤ 2000) : i.natAbs.log2 < 1920 := by
  have : i.natAbs < 2 ^ 11 := by omega
  by_cases z : i.natAbs = 0
  · rw [z]; decide
  · exact Nat.lt_of_lt_of_le ((Nat.log2_lt z).mpr this) (by decide)
theorem fsm_seen {w : D} (h : fsm w = true) : seen w = true := by cases w <;> first | rfl | (simp [fsm] at h)
/-! ### what may be shown -/
def Wt (k n : Nat) (d : D) : Prop := ∃ p, toPy d = some p ∧ p.canLay0 = true ∧ p.leavesShort 10 = true ∧ p.showable = true ∧ p.weight ≤ n ∧ p.depth ≤ k
def Wts (k n : Nat) (ds : List D) : Prop := ∃ ps, toPys ds = some ps ∧ PyData.canLayAll0 ps = true ∧ PyData.leavesShortAll 10 ps = true ∧ PyData.showableAll ps = true ∧ PyData.weightAll ps ≤ ds.length * (n + 1) ∧ PyData.depthAll ps ≤ k
theorem Wt.mono {k n k' n' : Nat} {d : D} (h : Wt k n d) (hk : k ≤ k') (hn : n ≤ n') : Wt k' n' d := by
  obtain ⟨p, h1, h2, h3, h4, h5, h6⟩ := h
  exact ⟨p, h1, h2, h3, h4, by omega, by omega⟩
theorem wts_of {k n : Nat} : ∀ {ds : List D}, (∀ d ∈ ds, Wt k n d) → Wts k n ds
  | [], _ => ⟨[], rfl, rfl, rfl, rfl, by simp [PyData.weightAll], by simp [PyData.depthAll]⟩
  | d :: ds, h => by
    obtain ⟨p, h1, h2, h3, h4, h5, h6⟩ := h d (List.mem_cons_self ..)
    obtain ⟨ps, k1, k2, k3, k4, k5, k6⟩ := wts_of fun x hx => h x (List.mem_cons_of_mem _ hx)
    refine ⟨p :: ps, by simp [toPys, h1, k1], by simp [PyData.canLayAll0, h2, k2], by simp [PyData.leavesShortAll, h3, k3], by simp [PyData.showableAll, h4, k4], ?_, by simp only [PyData.depthAll]; omega⟩
    simp only [PyData.weightAll, List.length_cons, Nat.add_mul]
    omega
theorem Wt.tup {k n : Nat} {ds : List D} (h : ∀ d ∈ ds, Wt k n d) : Wt (k + 1) (ds.length * (n + 1)) (.tup ds) := by
  obtain ⟨ps, k1, k2, k3, k4, k5, k6⟩ := wts_of h
  exact ⟨.tuple ps, by simp [toPy, k1], by simpa [PyData.canLay0] using k2, by simpa [PyData.leavesShort] using k3, by simpa [PyData.showable] using k4, by simpa only [PyData.weight] using k5, by simp only [PyData.depth]; omega⟩
theorem Wt.lst {k n : Nat} {ds : List D} (h : ∀ d ∈ ds, Wt k n d) : Wt (k + 1) (ds.length * (n + 1)) (.lst ds) := by
  obtain ⟨ps, k1, k2, k3, k4, k5, k6⟩ := wts_of h
  exact ⟨.list ps, by simp [toPy, k1], by simpa [PyData.canLay0] using k2, by simpa [PyData.leavesShort] using k3, by simpa [PyData.showable] using k4, by simpa only [PyData.weight] using k5, by simp only [PyData.depth]; omega⟩
theorem wt_flat {d : D} (h : fsm d = true) : Wt 0 20 d := by
  cases d with
  | non => exact ⟨_, rfl, rfl, rfl, rfl, by simp [PyData.weight], by simp [PyData.depth]⟩
  | bl b => exact ⟨_, rfl, rfl, rfl, rfl, by simp [PyData.weight], by simp [PyData.depth]⟩
  | int i =>
    have hi : -5 ≤ i ∧ i ≤ 2000 := by simpa [fsm] using h
    have h1 := (shown_int hi.1 hi.2).1
    have h2 := small_log hi.1 hi.2
    have h3 : i.natAbs.log2 < 11 ∨ i.natAbs = 0 := by
      by_cases z : i.natAbs = 0
      · exact .inr z
      · exact .inl ((Nat.log2_lt z).mpr (by omega))
    refine ⟨_, rfl, rfl, by simp [PyData.leavesShort, h1], by simp [PyData.showable, h2], ?_, by simp [PyData.depth]⟩
    simp only [PyData.weight]
    split
    · omega
    · rcases h3 with h3 | h3
      · omega
      · rw [h3]; decide
  | str x =>
    have hx : x = "end" ∨ x = "ever" ∨ x = "off" ∨ x = "0" := by simpa [fsm] using h
    have t : (PyData.canLay0 (.str x) = true ∧ PyData.leavesShort 10 (.str x) = true) ∧ PyData.weight (.str x) ≤ 20 := by
      rcases hx with rfl | rfl | rfl | rfl <;> decide +kernel
    exact ⟨_, rfl, t.1.1, t.1.2, rfl, t.2, by simp [PyData.depth]⟩
  | _ => simp [fsm] at h
theorem wt_repr {k n : Nat} {d : D} (h : Wt k n d) (hk : k ≤ 64) (hn : n ≤ 1048576) (hc : ∀ l, d ≠ .cell l) (μ : Mem) : ∃ r, reprD μ [d] = some (.str r) := by
  obtain ⟨p, h1, h2, h3, h4, h5, h6⟩ := h
  have e : pyOf μ d = some p := by
    cases d <;> first | exact h1 | exact absurd rfl (hc _)
  have z := PyData.shown_fits (B := 10) (by decide) (by decide) h3 (by omega)
  have s : SeqAt.shaped p = true := by simp [SeqAt.shaped, h2]; omega
  refine ⟨p.shown, ?_⟩
  simp [reprD, e, s, h4, z, PyData.hasDict_of_canLay p h2]
theorem m_same {k n : Nat} {d : D} (h : Wt k n d) (hk : k ≤ 64) (hn : n ≤ 1048576) (hc : ∀ l, d ≠ .cell l) (μ : Mem) : F__law_same [d, d] μ = .ok (.bl true) μ := by
  obtain ⟨r, e⟩ := wt_repr h hk hn hc μ
  have e2 : eqD μ (.str r) (.str r) = some (.bl true) := by simp [eqD]
  simp [finF, stS, sSq, sAs, sRt, sRtN, sIf, sNx, sEx, evV, evC, evAnd, evOr, evNot, evIte, evOp, evCall, evNil, evCons, evTup, evLst, evBi, evIsi, evChain, evSqT, evSqL, evSlice, evNo, evSo, asInt, pick, gNm, gTp, gLs, gsCons, gsNil, Out.bind, noX, cmpF, binF, isiD, tyName, isSub, ordD, isD, lenD, subscD, seqOf, intD, absD, str_inj, sP2, sP3, F__law_same, N__law_same, es__law_same, e, e2]
/-! equality of what may be shown; cells added -/
theorem wt_eq {k n : Nat} {d : D} (h : Wt k n d) (hk : k ≤ 64) (hc : ∀ l, d ≠ .cell l) (μ : Mem) : eqD μ d d = some (.bl true) ∧ neD μ d d = some (.bl false) := by
  obtain ⟨p, h1, h2, h3, h4, h5, h6⟩ := h
  have e : pyOf μ d = some p := by
    cases d <;> first | exact h1 | exact absurd rfl (hc _)
  have s : SeqAt.shaped p = true := by simp [SeqAt.shaped, h2]; omega
  have r := SeqAt.eqv_refl p h2
  have q : eqP μ d d = some true := by simp [eqP, e, s, r]
  cases d <;> first | (simp [eqD, neD, q]; done) | (simp [eqD, neD]; done)
theorem PM.app {μ : Mem} (h : PM μ) (ν : Mem) : PM (μ ++ ν) := ⟨by rw [List.length_append]; have := h.1; omega, fun l hl => by
  obtain ⟨a, b, c, e⟩ := h.2 l hl
  exact ⟨a, b, c, by rw [List.getElem?_append_left (by have := h.1; omega)]; exact e⟩⟩
theorem g_app {ea : Ev} {ρ : Sls} {R : D → Prop} {d : D} (h : ∀ μ, PM μ → ∃ ν, ea ρ μ = .ok d (μ ++ ν)) (r : R d) : Gv PM ea ρ R := fun μ p => by
  obtain ⟨ν, e⟩ := h μ p
  exact ⟨d, μ ++ ν, e, p.app ν, r⟩
theorem v_word {ρ : Sls} {l p : Nat} (hl : l < 2) (hp : ρ[p]? = some (.v (.cell l))) {R : D → Prop} {es : Ev} (h : Gv PM es ρ fun s => ∃ xs, ofXs s xs ∧ xs ≠ [] ∧ xs.length < 1000 ∧ ∀ x ∈ xs, R x) : Gv PM (evCall F__law_any 2 0 [some 0, some 1] (evCons (evV p) (evCons es evNil)) evNil) ρ R := g_any hl hp h
end W74


set_option Elab.async false
set_option linter.all false
set_option maxRecDepth 100000
set_option maxHeartbeats 1000000
namespace W74
open PySem PyI

/-! ### nodes -/
structure Nd where
  s : Int
  t : Int
  l : D
  h : D
def Nd.d (n : Nd) : D := .tup [.int n.s, .int n.t, n.l, n.h]
def Nd.len (n : Nd) : Int := if n.s = n.t then 3 else 6
def tot : Int → List Nd → Int
  | a, [] => a
  | a, n :: r => tot (a + n.len) r
def spots : Int → List Nd → List Int
  | _, [] => []
  | a, n :: r => a :: spots (a + n.len) r
/-- a way of a web of m nodes -/
def wOk (m : Nat) (d : D) : Prop := d = .non ∨ d = .str "end" ∨ d = .str "ever" ∨ ∃ k : Nat, d = .int k ∧ k < m
def ever? (d : D) : Bool := match d with
  | .str x => decide (x = "ever")
  | _ => false
def waysEver (st : D) (ns : List Nd) : Bool := ever? st || ns.any fun n => ever? n.l || ever? n.h
def isEnd (d : D) : Bool := match d with
  | .str x => decide (x = "end")
  | _ => false
/-- where a way leads -/
def goI (P : List Int) (e : Int) : D → Int
  | .int k => P.getD k.toNat 0
  | .str x => if x = "ever" then e else 1023
  | _ => 1023
def mv (z c : Int) : Int := if c < 1000 then c + z + 1 else c
def rowI (P : List Int) (e z : Int) (n : Nd) : List Int := [mv z n.s, mv z n.t, goI P e n.l] ++ if n.s = n.t then [] else [z, z, goI P e n.h]
def a2I (st : D) (ns : List Nd) : Int := tot 0 ns + if waysEver st ns then 3 else 0
def zI (st : D) (ns : List Nd) : Int := a2I st ns + if isEnd st then 3 else 0
def bodyI (st : D) (ns : List Nd) : List Int := (ns.flatMap (rowI (spots 0 ns) (tot 0 ns) (zI st ns))) ++ (if waysEver st ns then [zI st ns, zI st ns, tot 0 ns] else []) ++ (if isEnd st then [zI st ns, zI st ns, 1023] else [])
def entryI (st : D) (ns : List Nd) : Int := if isEnd st then a2I st ns else goI (spots 0 ns) (tot 0 ns) st
def imgD (st : D) (ns : List Nd) (cs : List D) : D := .tup [.tup ((bodyI st ns).map .int ++ .int 0 :: cs), .int (entryI st ns)]
def webD (st : D) (ns : List Nd) : D := .tup [st, .tup (ns.map Nd.d)]
theorem spots_len : ∀ (a : Int) (ns : List Nd), (spots a ns).length = ns.length
  | _, [] => rfl
  | a, n :: r => by simp [spots, spots_len]

/-! ### the places -/
def placesK (k : Nat) (a : Int) : List Nd → List (Option L2.Key × D)
  | [] => []
  | n :: r => (some (.inl (k : Nat)), .int a) :: placesK (k + 1) (a + n.len) r
def places0 : List (Option L2.Key × D) := [(none, .int 1023), (some (.inr "end"), .int 1023)]
theorem placesK_len : ∀ (k : Nat) (a : Int) (ns : List Nd), (placesK k a ns).length = ns.length
  | _, _, [] => rfl
  | k, a, n :: r => by simp [placesK, placesK_len]
theorem placesK_any : ∀ (k : Nat) (a : Int) (ns : List Nd) (q : Option L2.Key), (∀ j : Nat, k ≤ j → q ≠ some (.inl (j : Int))) → ((placesK k a ns).any fun kv => decide (kv.1 = q)) = false
  | _, _, [], _, _ => rfl
  | k, a, n :: r, q, h => by
    rw [placesK, List.any_cons, placesK_any (k + 1) _ r q fun j hj => h j (by omega)]
    have := h k (Nat.le_refl _)
    simp [Ne.symm this]
theorem places_new {k0 : Nat} {a0 : Int} {ms : List Nd} {k : Nat} (hk : k = k0 + ms.length) : ((places0 ++ placesK k0 a0 ms).any fun kv => decide (kv.1 = some (.inl ((k : Nat) : Int)))) = false := by
  rw [List.any_append]
  have h1 : (places0.any fun kv => decide (kv.1 = some (.inl ((k : Nat) : Int)))) = false := by simp [places0]
  rw [h1, Bool.false_or]
  have go : ∀ (k0 : Nat) (a0 : Int) (ms : List Nd), k0 + ms.length ≤ k → ((placesK k0 a0 ms).any fun kv => decide (kv.1 = some (.inl ((k : Nat) : Int)))) = false := by
    intro k0 a0 ms
    induction ms generalizing k0 a0 with
    | nil => intro _; rfl
    | cons n r ih =>
      intro h
      rw [List.length_cons] at h
      rw [placesK, List.any_cons, ih (k0 + 1) _ (by omega)]
      have : ¬ ((k0 : Int) = (k : Int)) := by omega
      simp [this]
  exact go k0 a0 ms (by omega)
theorem placesK_snoc : ∀ (k : Nat) (a : Int) (ms : List Nd) (n : Nd), placesK k a (ms ++ [n]) = placesK k a ms ++ [(some (.inl ((k + ms.length : Nat) : Int)), .int (tot a ms))]
  | k, a, [], n => by simp [placesK, tot]
  | k, a, m :: r, n => by
    rw [List.cons_append, placesK, placesK_snoc (k + 1) _ r n, placesK, tot, List.length_cons, List.cons_append]
    congr 5
    congr 1
    omega
theorem tot_snoc : ∀ (a : Int) (ms : List Nd) (n : Nd), tot a (ms ++ [n]) = tot a ms + n.len
  | a, [], n => rfl
  | a, m :: r, n => by rw [List.cons_append, tot, tot, tot_snoc]
/-- the fields ahead of the loop -/
def F4 (st : D) (ns : List Nd) (cs : List D) (p : Nat) : List (Str × D) := [("own_start", st), ("web_nodes", .tup (ns.map Nd.d)), ("own_cells", .tup cs), ("places", .cell p)]
/-- the object -/
def LF (st : D) (ns : List Nd) (cs : List D) (p : Nat) : List (Str × D) := F4 st ns cs p ++ [(("has_ever" : Str), D.bl (waysEver st ns)), ("end_row", .int (a2I st ns)), ("nought", .int (zI st ns))]
def PL (st : D) (ns : List Nd) : List (Option L2.Key × D) := places0 ++ placesK 0 0 ns ++ if waysEver st ns then [(some (.inr "ever"), .int (tot 0 ns))] else []
theorem init_loop (st : D) (all : List Nd) (cs : List D) (μ : Mem) (w c x3 x5 x6 x7 : Sl) (hl : all.length ≤ 5000) : ∃ y3 y5 y6 y7, forL lt_Laying___init___1 lb_Laying___init___1 (enuD (all.map Nd.d)) [.v (.cell μ.length), w, c, x3, .v (.int 0), x5, x6, x7] (μ ++ [.ins 34 (F4 st all cs (μ.length + 1)), .dic places0]) =
    .ok (.nx, [.v (.cell μ.length), w, c, y3, .v (.int (tot 0 all)), y5, y6, y7]) (μ ++ [.ins 34 (F4 st all cs (μ.length + 1)), .dic (places0 ++ placesK 0 0 all)]) := by
  let P : List D → Sls → Mem → Prop := fun ds ρ' μ' => ∃ (ms rs : List Nd) (y3 y5 y6 y7 : Sl), ms ++ rs = all ∧ ds = enuFrom ms.length (rs.map Nd.d) ∧ ρ' = [.v (.cell μ.length), w, c, y3, .v (.int (tot 0 ms)), y5, y6, y7] ∧ μ' = μ ++ [.ins 34 (F4 st all cs (μ.length + 1)), .dic (places0 ++ placesK 0 0 ms)]
  have key : ∀ d ds ρ μ, P (d :: ds) ρ μ → ∃ ρ1 μ1 ρ2 μ2, lt_Laying___init___1 d ρ μ = .ok ρ1 μ1 ∧ lb_Laying___init___1 ρ1 μ1 = .ok (.nx, ρ2) μ2 ∧ P ds ρ2 μ2 := by
    rintro d ds ρ' μ' ⟨ms, rs, y3, y5, y6, y7, h1, h2, rfl, rfl⟩
    cases rs with
    | nil => cases h2
    | cons n rs =>
      rw [List.map_cons, enuFrom] at h2
      cases h2
      have hz : ms.length ≤ 5000 := by rw [← h1, List.length_append] at hl; omega
      have e1 : insAt (μ ++ [.ins 34 (F4 st all cs (μ.length + 1)), .dic (places0 ++ placesK 0 0 ms)]) 34 (.cell μ.length) = some (μ.length, F4 st all cs (μ.length + 1)) := by simp [insAt]
      have e2 : (F4 st all cs (μ.length + 1)).lookup ("places" : Str) = some (.cell (μ.length + 1)) := rfl
      have e3 : dicAt (μ ++ [.ins 34 (F4 st all cs (μ.length + 1)), .dic (places0 ++ placesK 0 0 ms)]) (.cell (μ.length + 1)) = some (μ.length + 1, places0 ++ placesK 0 0 ms) := by simp [dicAt, ga1]
      have e4 : places0.length + (placesK 0 0 ms).length < sizeLine := by rw [placesK_len, sizeLine_eq]; simp [places0]; omega
      have e5 : putG (places0 ++ placesK 0 0 ms) (some (.inl (ms.length : Nat))) (.int (tot 0 ms)) = places0 ++ placesK 0 0 (ms ++ [n]) := by
        rw [putG_new (places_new (by omega)), placesK_snoc, List.append_assoc]
        simp
      refine ⟨[.v (.cell μ.length), w, c, .v n.h, .v (.int (tot 0 ms)), .v (.int (ms.length : Nat)), .v (.int n.s), .v (.int n.t)], μ ++ [.ins 34 (F4 st all cs (μ.length + 1)), .dic (places0 ++ placesK 0 0 ms)],
        [.v (.cell μ.length), w, c, .v n.h, .v (.int (tot 0 (ms ++ [n]))), .v (.int (ms.length : Nat)), .v (.int n.s), .v (.int n.t)], μ ++ [.ins 34 (F4 st all cs (μ.length + 1)), .dic (places0 ++ placesK 0 0 (ms ++ [n]))], ?_, ?_, ms ++ [n], rs, _, _, _, _, by simp [h1], by simp, rfl, rfl⟩
      · simp [finF, stS, sSq, sAs, sRt, sRtN, sIf, sNx, sEx, evV, evC, evAnd, evOr, evNot, evIte, evOp, evCall, evNil, evCons, evTup, evLst, evBi, evIsi, evChain, evSqT, evSqL, evSlice, evNo, evSo, asInt, pick, gNm, gTp, gLs, gsCons, gsNil, Out.bind, noX, cmpF, binF, isiD, tyName, isSub, ordD, isD, lenD, subscD, seqOf, intD, absD, str_inj, Nd.d]
      · by_cases hst : n.s = n.t
        · simp [finF, stS, sSq, sAs, sRt, sRtN, sIf, sNx, sEx, evV, evC, evAnd, evOr, evNot, evIte, evOp, evCall, evNil, evCons, evTup, evLst, evBi, evIsi, evChain, evSqT, evSqL, evSlice, evNo, evSo, asInt, pick, gNm, gTp, gLs, gsCons, gsNil, Out.bind, noX, cmpF, binF, isiD, tyName, isSub, ordD, isD, lenD, subscD, seqOf, intD, absD, str_inj, evFld, e1, e2, gDp, keyD, e3, e4, e5, sa1, hst, eqII, addD, mulD, tot_snoc, Nd.len]
        · simp [finF, stS, sSq, sAs, sRt, sRtN, sIf, sNx, sEx, evV, evC, evAnd, evOr, evNot, evIte, evOp, evCall, evNil, evCons, evTup, evLst, evBi, evIsi, evChain, evSqT, evSqL, evSlice, evNo, evSo, asInt, pick, gNm, gTp, gLs, gsCons, gsNil, Out.bind, noX, cmpF, binF, isiD, tyName, isSub, ordD, isD, lenD, subscD, seqOf, intD, absD, str_inj, evFld, e1, e2, gDp, keyD, e3, e4, e5, sa1, hst, eqII, addD, mulD, tot_snoc, Nd.len]
  obtain ⟨ρ', μ', e, ms, rs, y3, y5, y6, y7, h1, h2, h3, h4⟩ := forL_inv (P := P) (ds := enuD (all.map Nd.d)) (ρ := [.v (.cell μ.length), w, c, x3, .v (.int 0), x5, x6, x7]) (μ := μ ++ [.ins 34 (F4 st all cs (μ.length + 1)), .dic places0]) ⟨[], all, x3, x5, x6, x7, rfl, enuD_from _, rfl, by simp [placesK]⟩ key
  cases rs with
  | nil => rw [List.append_nil] at h1; subst h1; subst h3 h4; exact ⟨y3, y5, y6, y7, e⟩
  | cons n r => cases h2
/-- the ways of all nodes -/
theorem ways_loop (self : D) (ns : List Nd) (xs : List D) (x2 : Sl) (μ : Mem) (h : xs.length + 2 * ns.length ≤ 20000) : ∃ y2, forL lt_Laying_all_ways_1 lb_Laying_all_ways_1 (ns.map Nd.d) [.v self, .ol xs, x2] μ = .ok (.nx, [.v self, .ol (xs ++ ns.flatMap fun n => [n.l, n.h]), y2]) μ := by
  induction ns generalizing xs x2 with
  | nil => exact ⟨x2, by simp [forL]⟩
  | cons n ns ih =>
    rw [List.length_cons] at h
    obtain ⟨y2, e⟩ := ih (xs ++ [n.l, n.h]) (.v n.d) (by simp; omega)
    refine ⟨y2, ?_⟩
    have hs : xs.length + 2 ≤ sizeLine := by rw [sizeLine_eq]; omega
    have c : cutD [.int n.s, .int n.t, n.l, n.h] (some 2) none = [n.l, n.h] := rfl
    have b : lb_Laying_all_ways_1 [.v self, .ol xs, .v n.d] μ = .ok (.nx, [.v self, .ol (xs ++ [n.l, n.h]), .v n.d]) μ := by simp [finF, stS, sSq, sAs, sRt, sRtN, sIf, sNx, sEx, evV, evC, evAnd, evOr, evNot, evIte, evOp, evCall, evNil, evCons, evTup, evLst, evBi, evIsi, evChain, evSqT, evSqL, evSlice, evNo, evSo, asInt, pick, gNm, gTp, gLs, gsCons, gsNil, Out.bind, noX, cmpF, binF, isiD, tyName, isSub, ordD, isD, lenD, subscD, seqOf, intD, absD, str_inj, sExt, Nd.d, sliceD, c, hs]
    rw [List.map_cons]
    simp only [forL, gNm, Out.bind, List.set_cons_succ, List.set_cons_zero, b, e, List.flatMap_cons, List.append_assoc]
theorem m_ways {μ : Mem} {k : Nat} {st : D} {ns : List Nd} {fs : List (Str × D)} (h : μ[k]? = some (.ins 34 fs)) (h1 : fs.lookup ("own_start" : Str) = some st) (h2 : fs.lookup ("web_nodes" : Str) = some (.tup (ns.map Nd.d))) (hz : ns.length ≤ 5000) : F_Laying_all_ways [.cell k] μ = .ok (.lst (st :: ns.flatMap fun n => [n.l, n.h])) μ := by
  obtain ⟨x2, e⟩ := ways_loop (.cell k) ns [st] .un μ (by simp; omega)
  show finF N_Laying_all_ways es_Laying_all_ways _ μ = _
  refine r_fin (r_seq (ρ1 := [.v (.cell k), .ol [st], .un]) (μ1 := μ) ?_ (r_seq (ρ1 := _) (μ1 := μ) ?_ (?_ : Ret _ [.v (.cell k), .ol (st :: ns.flatMap fun n => [n.l, n.h]), x2] μ _ μ)))
  · simp [finF, stS, sSq, sAs, sRt, sRtN, sIf, sNx, sEx, evV, evC, evAnd, evOr, evNot, evIte, evOp, evCall, evNil, evCons, evTup, evLst, evBi, evIsi, evChain, evSqT, evSqL, evSlice, evNo, evSo, asInt, pick, gNm, gTp, gLs, gsCons, gsNil, Out.bind, noX, cmpF, binF, isiD, tyName, isSub, ordD, isD, lenD, subscD, seqOf, intD, absD, str_inj, N_Laying_all_ways, sOw, evFld, insAt, h, h1, sizeLine_eq]
  · have h2' : evSqT (evFld 34 "web_nodes" (evV 0)) [.v (.cell k), .ol [st], .un] μ = .ok (ns.map Nd.d) μ := by simp [finF, stS, sSq, sAs, sRt, sRtN, sIf, sNx, sEx, evV, evC, evAnd, evOr, evNot, evIte, evOp, evCall, evNil, evCons, evTup, evLst, evBi, evIsi, evChain, evSqT, evSqL, evSlice, evNo, evSo, asInt, pick, gNm, gTp, gLs, gsCons, gsNil, Out.bind, noX, cmpF, binF, isiD, tyName, isSub, ordD, isD, lenD, subscD, seqOf, intD, absD, str_inj, evFld, insAt, h, h2]
    simp only [sFor, h2', Out.bind, e]
    rfl
  · exact ⟨[.v (.cell k), .v (.lst (st :: ns.flatMap fun n => [n.l, n.h])), x2], by simp [finF, stS, sSq, sAs, sRt, sRtN, sIf, sNx, sEx, evV, evC, evAnd, evOr, evNot, evIte, evOp, evCall, evNil, evCons, evTup, evLst, evBi, evIsi, evChain, evSqT, evSqL, evSlice, evNo, evSo, asInt, pick, gNm, gTp, gLs, gsCons, gsNil, Out.bind, noX, cmpF, binF, isiD, tyName, isSub, ordD, isD, lenD, subscD, seqOf, intD, absD, str_inj, sFz, frz]⟩
theorem wOk_seen {m : Nat} {d : D} (h : wOk m d) : flatV? d ≠ none := by
  rcases h with rfl | rfl | rfl | ⟨k, rfl, _⟩ <;> simp [flatV?]
theorem in_ever {m : Nat} : ∀ {ds : List D}, (∀ d ∈ ds, wOk m d) → ∃ vs, flatVs ds = some vs ∧ L2.inV (.str "ever") vs = ds.any ever?
  | [], _ => ⟨[], rfl, rfl⟩
  | d :: ds, h => by
    obtain ⟨vs, e1, e2⟩ := in_ever fun x hx => h x (List.mem_cons_of_mem _ hx)
    rcases h d (List.mem_cons_self ..) with rfl | rfl | rfl | ⟨k, rfl, _⟩
    · exact ⟨.non :: vs, by simp [flatVs, flatV?, e1], by rw [List.any_cons, ← e2]; simp [L2.inV, L2.eqV, ever?]⟩
    · exact ⟨.str "end" :: vs, by simp [flatVs, flatV?, e1], by
        rw [List.any_cons, ← e2]
        have q : Str.ofString "end" ≠ Str.ofString "ever" := by decide
        simp [L2.inV, L2.eqV, ever?, q]⟩
    · exact ⟨.str "ever" :: vs, by simp [flatVs, flatV?, e1], by rw [List.any_cons, ← e2]; simp [L2.inV, L2.eqV, ever?]⟩
    · exact ⟨.int k :: vs, by simp [flatVs, flatV?, e1], by rw [List.any_cons, ← e2]; simp [L2.inV, L2.eqV, ever?]⟩
/-- a start that may be -/
def stOk (m : Nat) (d : D) : Prop := d = .str "end" ∨ d = .str "ever" ∨ ∃ k : Nat, d = .int k ∧ k < m
def ndOk (m : Nat) (n : Nd) : Prop := wOk m n.l ∧ wOk m n.h
theorem any_ways (st : D) (ns : List Nd) : (st :: ns.flatMap fun n => [n.l, n.h]).any ever? = waysEver st ns := by
  rw [List.any_cons, List.any_flatMap, waysEver]
  simp
theorem in_ways {μ : Mem} {st : D} {ns : List Nd} (h1 : stOk ns.length st) (h2 : ∀ n ∈ ns, ndOk ns.length n) : inD false μ (.str "ever") (.lst (st :: ns.flatMap fun n => [n.l, n.h])) = some (.bl (waysEver st ns)) := by
  obtain ⟨vs, e1, e2⟩ := in_ever (m := ns.length) (ds := st :: ns.flatMap fun n => [n.l, n.h]) fun d hd => by
    rcases List.mem_cons.mp hd with rfl | hd
    · exact .inr h1
    · obtain ⟨n, hn, hd⟩ := List.mem_flatMap.mp hd
      have := h2 n hn
      simp only [List.mem_cons, List.not_mem_nil, or_false] at hd
      rcases hd with rfl | rfl
      · exact this.1
      · exact this.2
  rw [any_ways] at e2
  simp only [inD, flatV?, seqOf, e1, e2]
  rfl
end W74


set_option Elab.async false
set_option linter.all false
set_option maxRecDepth 100000
set_option maxHeartbeats 1000000
namespace W74
open PySem PyI

theorem eq_start {m : Nat} {st : D} (h : stOk m st) (μ : Mem) : eqD μ st (.str "end") = some (.bl (isEnd st)) := by
  rcases h with rfl | rfl | ⟨k, rfl, _⟩
  · rfl
  · simp [eqStr, isEnd]
  · rw [eqIS _ _ _ lay_end]; rfl
/-- the object with all that it holds -/
structure Obj (μ : Mem) (k : Nat) (st : D) (ns : List Nd) (cs : List D) : Prop where
  o : ∃ p, μ[k]? = some (.ins 34 (LF st ns cs p)) ∧ μ[p]? = some (.dic (PL st ns))
theorem m_init {st : D} {ns : List Nd} {cs : List D} {μ : Mem} (h1 : stOk ns.length st) (h2 : ∀ n ∈ ns, ndOk ns.length n) (hz : ns.length ≤ 5000) : F_Laying___init__ [.cell μ.length, webD st ns, .tup cs] (μ ++ [.ins 34 []]) = .ok .non (μ ++ [.ins 34 (LF st ns cs (μ.length + 1)), .dic (PL st ns)]) := by
  let n := μ.length
  let G0 : List (Str × D) := [("own_start", st), ("web_nodes", .tup (ns.map Nd.d))]
  let G1 : List (Str × D) := G0 ++ [(("own_cells" : Str), D.tup cs)]
  obtain ⟨y3, y5, y6, y7, lp⟩ := init_loop st ns cs μ (.v (webD st ns)) (.v (.tup cs)) .un .un .un .un hz
  let M5 : Mem := μ ++ [.ins 34 (F4 st ns cs (μ.length + 1)), .dic (places0 ++ placesK 0 0 ns)]
  let M6 : Mem := μ ++ [.ins 34 (F4 st ns cs (μ.length + 1) ++ [(("has_ever" : Str), D.bl (waysEver st ns))]), .dic (places0 ++ placesK 0 0 ns)]
  let M7 : Mem := μ ++ [.ins 34 (F4 st ns cs (μ.length + 1) ++ [(("has_ever" : Str), D.bl (waysEver st ns))]), .dic (PL st ns)]
  let M8 : Mem := μ ++ [.ins 34 (F4 st ns cs (μ.length + 1) ++ [(("has_ever" : Str), D.bl (waysEver st ns)), ("end_row", .int (a2I st ns))]), .dic (PL st ns)]
  show finF N_Laying___init__ es_Laying___init__ _ _ = _
  refine f_nx (ρ' := [.v (.cell n), .v (webD st ns), .v (.tup cs), y3, .v (.int (a2I st ns)), y5, y6, y7]) ?_
  refine nx_seq (ρ1 := [.v (.cell n), .v (webD st ns), .v (.tup cs), .un, .un, .un, .un, .un]) (μ1 := μ ++ [.ins 34 G0]) ?_ ?_
  · simp [finF, stS, sSq, sAs, sRt, sRtN, sIf, sNx, sEx, evV, evC, evAnd, evOr, evNot, evIte, evOp, evCall, evNil, evCons, evTup, evLst, evBi, evIsi, evChain, evSqT, evSqL, evSlice, evNo, evSo, asInt, pick, gNm, gTp, gLs, gsCons, gsNil, Out.bind, noX, cmpF, binF, isiD, tyName, isSub, ordD, isD, lenD, subscD, seqOf, intD, absD, str_inj, N_Laying___init__, webD, gFl, insAt, putD, sa0, n, G0]
  refine nx_seq (ρ1 := [.v (.cell n), .v (webD st ns), .v (.tup cs), .un, .un, .un, .un, .un]) (μ1 := μ ++ [.ins 34 G1]) ?_ ?_
  · simp [finF, stS, sSq, sAs, sRt, sRtN, sIf, sNx, sEx, evV, evC, evAnd, evOr, evNot, evIte, evOp, evCall, evNil, evCons, evTup, evLst, evBi, evIsi, evChain, evSqT, evSqL, evSlice, evNo, evSo, asInt, pick, gNm, gTp, gLs, gsCons, gsNil, Out.bind, noX, cmpF, binF, isiD, tyName, isSub, ordD, isD, lenD, subscD, seqOf, intD, absD, str_inj, gFl, insAt, putD, sa0, n, G0, G1]
  refine nx_seq (ρ1 := [.v (.cell n), .v (webD st ns), .v (.tup cs), .un, .un, .un, .un, .un]) (μ1 := μ ++ [.ins 34 (F4 st ns cs (μ.length + 1)), .dic places0]) ?_ ?_
  · simp [finF, stS, sSq, sAs, sRt, sRtN, sIf, sNx, sEx, evV, evC, evAnd, evOr, evNot, evIte, evOp, evCall, evNil, evCons, evTup, evLst, evBi, evIsi, evChain, evSqT, evSqL, evSlice, evNo, evSo, asInt, pick, gNm, gTp, gLs, gsCons, gsNil, Out.bind, noX, cmpF, binF, isiD, tyName, isSub, ordD, isD, lenD, subscD, seqOf, intD, absD, str_inj, evDisp, evPs, keysD, keyD, gFl, insAt, putD, sa0, n, G0, G1, F4, mergeG, putG, places0, ga1, sa1]
  refine nx_seq (ρ1 := [.v (.cell n), .v (webD st ns), .v (.tup cs), .un, .v (.int 0), .un, .un, .un]) (μ1 := μ ++ [.ins 34 (F4 st ns cs (μ.length + 1)), .dic places0]) ?_ ?_
  · simp [finF, stS, sSq, sAs, sRt, sRtN, sIf, sNx, sEx, evV, evC, evAnd, evOr, evNot, evIte, evOp, evCall, evNil, evCons, evTup, evLst, evBi, evIsi, evChain, evSqT, evSqL, evSlice, evNo, evSo, asInt, pick, gNm, gTp, gLs, gsCons, gsNil, Out.bind, noX, cmpF, binF, isiD, tyName, isSub, ordD, isD, lenD, subscD, seqOf, intD, absD, str_inj, ]
  refine nx_seq (ρ1 := [.v (.cell n), .v (webD st ns), .v (.tup cs), y3, .v (.int (tot 0 ns)), y5, y6, y7]) (μ1 := M5) ?_ ?_
  · have h : evEnuT (evFld 34 "web_nodes" (evV 0)) [.v (.cell n), .v (webD st ns), .v (.tup cs), .un, .v (.int 0), .un, .un, .un] (μ ++ [.ins 34 (F4 st ns cs (μ.length + 1)), .dic places0]) = .ok (enuD (ns.map Nd.d)) (μ ++ [.ins 34 (F4 st ns cs (μ.length + 1)), .dic places0]) := by
      have e2 : (F4 st ns cs (μ.length + 1)).lookup ("web_nodes" : Str) = some (.tup (ns.map Nd.d)) := rfl
      simp [finF, stS, sSq, sAs, sRt, sRtN, sIf, sNx, sEx, evV, evC, evAnd, evOr, evNot, evIte, evOp, evCall, evNil, evCons, evTup, evLst, evBi, evIsi, evChain, evSqT, evSqL, evSlice, evNo, evSo, asInt, pick, gNm, gTp, gLs, gsCons, gsNil, Out.bind, noX, cmpF, binF, isiD, tyName, isSub, ordD, isD, lenD, subscD, seqOf, intD, absD, str_inj, evEnuT, evFld, insAt, n, e2]
    simp only [sFor, h, Out.bind]
    exact lp
  refine nx_seq (ρ1 := [.v (.cell n), .v (webD st ns), .v (.tup cs), y3, .v (.int (tot 0 ns)), y5, y6, y7]) (μ1 := M6) ?_ ?_
  · have e1 : insAt M5 34 (.cell μ.length) = some (μ.length, F4 st ns cs (μ.length + 1)) := by simp [insAt, M5]
    have e2 : (F4 st ns cs (μ.length + 1)).lookup ("all_ways" : Str) = none := rfl
    have e3 : F_Laying_all_ways [.cell μ.length] M5 = .ok _ M5 := m_ways (μ := M5) (k := μ.length) (st := st) (ns := ns) (fs := F4 st ns cs (μ.length + 1)) (by simp [M5]) rfl rfl hz
    have e4 := in_ways (μ := M5) h1 h2
    have e5 : M5.set μ.length (.ins 34 (F4 st ns cs (μ.length + 1) ++ [(("has_ever" : Str), D.bl (waysEver st ns))])) = M6 := by simp [M5, M6, sa0]
    have e6 : putD ("has_ever" : Str) (.bl (waysEver st ns)) (F4 st ns cs (μ.length + 1)) = F4 st ns cs (μ.length + 1) ++ [(("has_ever" : Str), D.bl (waysEver st ns))] := rfl
    have e7 : (F4 st ns cs (μ.length + 1)).length < 1000 := by simp [F4]
    simp [finF, stS, sSq, sAs, sRt, sRtN, sIf, sNx, sEx, evV, evC, evAnd, evOr, evNot, evIte, evOp, evCall, evNil, evCons, evTup, evLst, evBi, evIsi, evChain, evSqT, evSqL, evSlice, evNo, evSo, asInt, pick, gNm, gTp, gLs, gsCons, gsNil, Out.bind, noX, cmpF, binF, isiD, tyName, isSub, ordD, isD, lenD, subscD, seqOf, intD, absD, str_inj, evMeth, e1, e2, e3, e4, gFl, n, e6, e7, e5]
  refine nx_seq (ρ1 := [.v (.cell n), .v (webD st ns), .v (.tup cs), y3, .v (.int (a2I st ns)), y5, y6, y7]) (μ1 := M7) ?_ ?_
  · have f1 : (F4 st ns cs (μ.length + 1) ++ [(("has_ever" : Str), D.bl (waysEver st ns))]).lookup ("has_ever" : Str) = some (.bl (waysEver st ns)) := rfl
    have f2 : (F4 st ns cs (μ.length + 1) ++ [(("has_ever" : Str), D.bl (waysEver st ns))]).lookup ("places" : Str) = some (.cell (μ.length + 1)) := rfl
    have e1 : insAt M6 34 (.cell μ.length) = some (μ.length, F4 st ns cs (μ.length + 1) ++ [(("has_ever" : Str), D.bl (waysEver st ns))]) := by simp [insAt, M6]
    have e3 : dicAt M6 (.cell (μ.length + 1)) = some (μ.length + 1, places0 ++ placesK 0 0 ns) := by simp [dicAt, M6, ga1]
    have e4 : places0.length + (placesK 0 0 ns).length < sizeLine := by rw [placesK_len, sizeLine_eq]; simp [places0]; omega
    have e5 : putG (places0 ++ placesK 0 0 ns) (some (.inr "ever")) (.int (tot 0 ns)) = places0 ++ (placesK 0 0 ns ++ [(some (.inr "ever"), .int (tot 0 ns))]) := by
      rw [putG_new, List.append_assoc]
      rw [List.any_append, placesK_any _ _ _ _ (by intro j _ z; cases z)]
      simp [places0, str_inj]
    rcases Bool.eq_false_or_eq_true (waysEver st ns) with q' | q'
    · have e6 : M6.set (μ.length + 1) (.dic (places0 ++ (placesK 0 0 ns ++ [(some (.inr "ever"), .int (tot 0 ns))]))) = M7 := by simp [M6, M7, sa1, PL, q']
      have g1 : evFld 34 "has_ever" (evV 0) [.v (.cell n), .v (webD st ns), .v (.tup cs), y3, .v (.int (tot 0 ns)), y5, y6, y7] M6 = .ok (.bl true) M6 := fld_ok (l := n) rfl (insAt_eq e1).2 (f1.trans (by rw [q']))
      have g2 : evFld 34 "places" (evV 0) [.v (.cell n), .v (webD st ns), .v (.tup cs), y3, .v (.int (tot 0 ns)), y5, y6, y7] M6 = .ok (.cell (μ.length + 1)) M6 := fld_ok (l := n) rfl (insAt_eq e1).2 f2
      simp [finF, stS, sSq, sAs, sRt, sRtN, sIf, sNx, sEx, evV, evC, evAnd, evOr, evNot, evIte, evOp, evCall, evNil, evCons, evTup, evLst, evBi, evIsi, evChain, evSqT, evSqL, evSlice, evNo, evSo, asInt, pick, gNm, gTp, gLs, gsCons, gsNil, Out.bind, noX, cmpF, binF, isiD, tyName, isSub, ordD, isD, lenD, subscD, seqOf, intD, absD, str_inj, g1, g2, gDp, keyD, e3, e4, e5, e6, addD, a2I, q']
    · have e6 : M6 = M7 := by simp [M6, M7, PL, q']
      have g1 : evFld 34 "has_ever" (evV 0) [.v (.cell n), .v (webD st ns), .v (.tup cs), y3, .v (.int (tot 0 ns)), y5, y6, y7] M6 = .ok (.bl false) M6 := fld_ok (l := n) rfl (insAt_eq e1).2 (f1.trans (by rw [q']))
      rw [← e6]
      simp [finF, stS, sSq, sAs, sRt, sRtN, sIf, sNx, sEx, evV, evC, evAnd, evOr, evNot, evIte, evOp, evCall, evNil, evCons, evTup, evLst, evBi, evIsi, evChain, evSqT, evSqL, evSlice, evNo, evSo, asInt, pick, gNm, gTp, gLs, gsCons, gsNil, Out.bind, noX, cmpF, binF, isiD, tyName, isSub, ordD, isD, lenD, subscD, seqOf, intD, absD, str_inj, g1, a2I, q']
  refine nx_seq (ρ1 := [.v (.cell n), .v (webD st ns), .v (.tup cs), y3, .v (.int (a2I st ns)), y5, y6, y7]) (μ1 := M8) ?_ ?_
  · have e1 : insAt M7 34 (.cell μ.length) = some (μ.length, F4 st ns cs (μ.length + 1) ++ [(("has_ever" : Str), D.bl (waysEver st ns))]) := by simp [insAt, M7]
    have e6 : putD ("end_row" : Str) (.int (a2I st ns)) (F4 st ns cs (μ.length + 1) ++ [(("has_ever" : Str), D.bl (waysEver st ns))]) = F4 st ns cs (μ.length + 1) ++ [(("has_ever" : Str), D.bl (waysEver st ns)), ("end_row", .int (a2I st ns))] := rfl
    have e5 : M7.set μ.length (.ins 34 (F4 st ns cs (μ.length + 1) ++ [(("has_ever" : Str), D.bl (waysEver st ns)), ("end_row", .int (a2I st ns))])) = M8 := by simp [M7, M8, sa0]
    have e7 : (F4 st ns cs (μ.length + 1) ++ [(("has_ever" : Str), D.bl (waysEver st ns))]).length < 1000 := by simp [F4]
    simp only [sAs, evV, List.getElem?_cons_succ, List.getElem?_cons_zero, Out.bind, gFl, n, e1, if_pos e7, e6, e5]
  · have e1 : insAt M8 34 (.cell μ.length) = some (μ.length, F4 st ns cs (μ.length + 1) ++ [(("has_ever" : Str), D.bl (waysEver st ns)), ("end_row", .int (a2I st ns))]) := by simp [insAt, M8]
    have f1 : (F4 st ns cs (μ.length + 1) ++ [(("has_ever" : Str), D.bl (waysEver st ns)), ("end_row", .int (a2I st ns))]).lookup ("own_start" : Str) = some st := rfl
    have e7 : (F4 st ns cs (μ.length + 1) ++ [(("has_ever" : Str), D.bl (waysEver st ns)), ("end_row", .int (a2I st ns))]).length < 1000 := by simp [F4]
    have e6 : putD ("nought" : Str) (.int (zI st ns)) (F4 st ns cs (μ.length + 1) ++ [(("has_ever" : Str), D.bl (waysEver st ns)), ("end_row", .int (a2I st ns))]) = LF st ns cs (μ.length + 1) := rfl
    have e5 : M8.set μ.length (.ins 34 (LF st ns cs (μ.length + 1))) = μ ++ [.ins 34 (LF st ns cs (μ.length + 1)), .dic (PL st ns)] := by simp [M8, sa0]
    have e8 := eq_start h1 M8
    have e9 : evOp (fun _ => binF .Add) (evV 4) (evIte (evOp (cmpF .Eq) (evFld 34 "own_start" (evV 0)) (evC (.str "end"))) (evC (.int 3)) (evC (.int 0))) [.v (.cell n), .v (webD st ns), .v (.tup cs), y3, .v (.int (a2I st ns)), y5, y6, y7] M8 = .ok (.int (zI st ns)) M8 := by
      cases q : isEnd st with
      | true => simp [finF, stS, sSq, sAs, sRt, sRtN, sIf, sNx, sEx, evV, evC, evAnd, evOr, evNot, evIte, evOp, evCall, evNil, evCons, evTup, evLst, evBi, evIsi, evChain, evSqT, evSqL, evSlice, evNo, evSo, asInt, pick, gNm, gTp, gLs, gsCons, gsNil, Out.bind, noX, cmpF, binF, isiD, tyName, isSub, ordD, isD, lenD, subscD, seqOf, intD, absD, str_inj, evFld, n, e1, f1, e8, q, addD, zI]
      | false => simp [finF, stS, sSq, sAs, sRt, sRtN, sIf, sNx, sEx, evV, evC, evAnd, evOr, evNot, evIte, evOp, evCall, evNil, evCons, evTup, evLst, evBi, evIsi, evChain, evSqT, evSqL, evSlice, evNo, evSo, asInt, pick, gNm, gTp, gLs, gsCons, gsNil, Out.bind, noX, cmpF, binF, isiD, tyName, isSub, ordD, isD, lenD, subscD, seqOf, intD, absD, str_inj, evFld, n, e1, f1, e8, q, addD, zI]
    simp only [sAs, e9, evV, List.getElem?_cons_succ, List.getElem?_cons_zero, Out.bind, gFl, n, e1, if_pos e7, e6, e5]
/-! the object read -/
section
variable {μ : Mem} {k p : Nat} {st : D} {ns : List Nd} {cs : List D}
theorem L_z (st : D) (ns : List Nd) (cs : List D) (p : Nat) : (LF st ns cs p).lookup ("nought" : Str) = some (.int (zI st ns)) := rfl
theorem L_c (st : D) (ns : List Nd) (cs : List D) (p : Nat) : (LF st ns cs p).lookup ("own_cells" : Str) = some (.tup cs) := rfl
theorem L_n (st : D) (ns : List Nd) (cs : List D) (p : Nat) : (LF st ns cs p).lookup ("web_nodes" : Str) = some (.tup (ns.map Nd.d)) := rfl
theorem L_s (st : D) (ns : List Nd) (cs : List D) (p : Nat) : (LF st ns cs p).lookup ("own_start" : Str) = some st := rfl
theorem L_p (st : D) (ns : List Nd) (cs : List D) (p : Nat) : (LF st ns cs p).lookup ("places" : Str) = some (.cell p) := rfl
theorem L_e (st : D) (ns : List Nd) (cs : List D) (p : Nat) : (LF st ns cs p).lookup ("has_ever" : Str) = some (.bl (waysEver st ns)) := rfl
theorem L_r (st : D) (ns : List Nd) (cs : List D) (p : Nat) : (LF st ns cs p).lookup ("end_row" : Str) = some (.int (a2I st ns)) := rfl
theorem L_m (st : D) (ns : List Nd) (cs : List D) (p : Nat) (m : Str) (h : m = "size" ∨ m = "moved" ∨ m = "node_rows" ∨ m = "laid_image") : (LF st ns cs p).lookup m = none := by
  rcases h with rfl | rfl | rfl | rfl <;> rfl
theorem m_size (h : μ[k]? = some (.ins 34 (LF st ns cs p))) (hz : cs.length ≤ 100000) : F_Laying_size [.cell k] μ = .ok (.int (zI st ns + 1 + cs.length)) μ := by
  have g1 : evFld 34 "nought" (evV 0) [.v (.cell k)] μ = .ok (.int (zI st ns)) μ := fld_ok (l := k) rfl h (L_z ..)
  have g2 : evFld 34 "own_cells" (evV 0) [.v (.cell k)] μ = .ok (.tup cs) μ := fld_ok (l := k) rfl h (L_c ..)
  simp [finF, stS, sSq, sAs, sRt, sRtN, sIf, sNx, sEx, evV, evC, evAnd, evOr, evNot, evIte, evOp, evCall, evNil, evCons, evTup, evLst, evBi, evIsi, evChain, evSqT, evSqL, evSlice, evNo, evSo, asInt, pick, gNm, gTp, gLs, gsCons, gsNil, Out.bind, noX, cmpF, binF, isiD, tyName, isSub, ordD, isD, lenD, subscD, seqOf, intD, absD, str_inj, F_Laying_size, N_Laying_size, es_Laying_size, g1, g2, addD]
theorem m_moved (h : μ[k]? = some (.ins 34 (LF st ns cs p))) (c o : Int) : F_Laying_moved [.cell k, .int c, .int o] μ = .ok (.int (if c = o then o else zI st ns + 1 + c)) μ := by
  have g1 : evFld 34 "nought" (evV 0) [.v (.cell k), .v (.int c), .v (.int o)] μ = .ok (.int (zI st ns)) μ := fld_ok (l := k) rfl h (L_z ..)
  by_cases hc : c = o
  · simp [finF, stS, sSq, sAs, sRt, sRtN, sIf, sNx, sEx, evV, evC, evAnd, evOr, evNot, evIte, evOp, evCall, evNil, evCons, evTup, evLst, evBi, evIsi, evChain, evSqT, evSqL, evSlice, evNo, evSo, asInt, pick, gNm, gTp, gLs, gsCons, gsNil, Out.bind, noX, cmpF, binF, isiD, tyName, isSub, ordD, isD, lenD, subscD, seqOf, intD, absD, str_inj, F_Laying_moved, N_Laying_moved, es_Laying_moved, g1, eqII, hc]
  · simp [finF, stS, sSq, sAs, sRt, sRtN, sIf, sNx, sEx, evV, evC, evAnd, evOr, evNot, evIte, evOp, evCall, evNil, evCons, evTup, evLst, evBi, evIsi, evChain, evSqT, evSqL, evSlice, evNo, evSo, asInt, pick, gNm, gTp, gLs, gsCons, gsNil, Out.bind, noX, cmpF, binF, isiD, tyName, isSub, ordD, isD, lenD, subscD, seqOf, intD, absD, str_inj, F_Laying_moved, N_Laying_moved, es_Laying_moved, g1, eqII, hc, addD]
/-- a way's place -/
theorem valG_app {kvs more : List (Option L2.Key × D)} {q : Option L2.Key} (h : (kvs.any fun kv => decide (kv.1 = q)) = false) : valG (kvs ++ more) q = valG more q := by
  induction kvs with
  | nil => rfl
  | cons a r ih =>
    rw [List.any_cons, Bool.or_eq_false_iff] at h
    have h1 : ¬ a.1 = q := by simpa using h.1
    simp only [List.cons_append, valG, List.find?_cons, h1, decide_false]
    exact ih h.2
theorem valG_places : ∀ (j : Nat) (a : Int) (ns : List Nd) (more : List (Option L2.Key × D)) (i : Nat), i < ns.length → valG (placesK j a ns ++ more) (some (.inl ((j + i : Nat) : Int))) = some (.int ((spots a ns).getD i 0))
  | j, a, n :: r, more, 0, _ => by simp [placesK, valG, List.find?_cons, spots]
  | j, a, n :: r, more, i + 1, h => by
    rw [List.length_cons] at h
    have e := valG_places (j + 1) (a + n.len) r more i (by omega)
    have e2 : j + 1 + i = j + (i + 1) := by omega
    rw [e2] at e
    have h1 : ¬ ((some (.inl ((j : Nat) : Int)) : Option L2.Key) = some (.inl ((j + (i + 1) : Nat) : Int))) := by
      intro z
      have z2 : ((j : Nat) : Int) = ((j + (i + 1) : Nat) : Int) := by injection z with z; injection z
      omega
    simp only [placesK, List.cons_append, valG, List.find?_cons, h1, decide_false, spots, List.getD_cons_succ]
    exact e
theorem val_way {w : D} (hw : wOk ns.length w) (he : ever? w = true → waysEver st ns = true) : ∃ q, keyD w = some q ∧ valG (PL st ns) q = some (.int (goI (spots 0 ns) (tot 0 ns) w)) := by
  rcases hw with rfl | rfl | rfl | ⟨i, rfl, hi⟩
  · exact ⟨_, rfl, by simp [PL, places0, valG, goI]⟩
  · refine ⟨_, rfl, ?_⟩
    simp [PL, places0, valG, goI, str_inj]
  · have e := he rfl
    refine ⟨_, rfl, ?_⟩
    have h1 : (places0.any fun kv => decide (kv.1 = some (.inr ("ever" : Str)))) = false := by simp [places0, str_inj]
    have h2 : ((placesK 0 0 ns).any fun kv => decide (kv.1 = some (.inr ("ever" : Str)))) = false := placesK_any _ _ _ _ (by intro j _ z; cases z)
    rw [PL, List.append_assoc, valG_app h1, valG_app h2, if_pos e]
    simp [valG, goI]
  · refine ⟨_, rfl, ?_⟩
    have h1 : (places0.any fun kv => decide (kv.1 = some (.inl ((i : Nat) : Int)))) = false := by simp [places0]
    rw [PL, List.append_assoc, valG_app h1]
    have e := valG_places 0 0 ns (if waysEver st ns then [(some (.inr "ever"), .int (tot 0 ns))] else []) i hi
    rw [Nat.zero_add] at e
    rw [e]
    simp [goI]
end
end W74


set_option Elab.async false
set_option linter.all false
set_option maxRecDepth 100000
set_option maxHeartbeats 1000000
namespace W74
open PySem PyI

def clOk (n : Nd) : Prop := ((0 ≤ n.s ∧ n.s < 1000) ∨ n.s = 1022) ∧ ((0 ≤ n.t ∧ n.t < 1000) ∨ n.t = 1023)
/-- a web's nodes, a start that may be -/
structure WOk (st : D) (ns : List Nd) : Prop where
  s : stOk ns.length st
  w : ∀ n ∈ ns, ndOk ns.length n
  c : ∀ n ∈ ns, clOk n
  z : ns.length ≤ 5000
section
variable {μ : Mem} {k p : Nat} {st : D} {ns : List Nd} {cs : List D}
theorem WOk.ev (W : WOk st ns) {n : Nd} (hn : n ∈ ns) : (ever? n.l = true → waysEver st ns = true) ∧ (ever? n.h = true → waysEver st ns = true) := by
  constructor <;> intro h <;> (simp only [waysEver, Bool.or_eq_true, List.any_eq_true]; exact .inr ⟨n, hn, by simp [h]⟩)
theorem pl_get {ρ : Sls} {ea : Ev} {w : D} (W : WOk st ns) (h1 : μ[k]? = some (.ins 34 (LF st ns cs p))) (h2 : μ[p]? = some (.dic (PL st ns))) (hk : ρ[0]? = some (.v (.cell k))) (he : ea ρ μ = .ok w μ) (hw : wOk ns.length w) (hv : ever? w = true → waysEver st ns = true) :
    evDGet (evFld 34 "places" (evV 0)) ea ρ μ = .ok (.int (goI (spots 0 ns) (tot 0 ns) w)) μ := by
  have g1 : evFld 34 "places" (evV 0) ρ μ = .ok (.cell p) μ := fld_ok (l := k) (by simp [evV, hk]) h1 (L_p ..)
  obtain ⟨q, e1, e2⟩ := val_way hw hv
  simp [evDGet, g1, Out.bind, he, dicAt, h2, e1, e2]
theorem m_node_rows (W : WOk st ns) (h1 : μ[k]? = some (.ins 34 (LF st ns cs p))) (h2 : μ[p]? = some (.dic (PL st ns))) {n : Nd} (hn : n ∈ ns) : F_Laying_node_rows [.cell k, n.d] μ = .ok (.lst ((rowI (spots 0 ns) (tot 0 ns) (zI st ns) n).map .int)) μ := by
  have mm : ∀ c o ρ, ρ[0]? = some (.v (.cell k)) → ∀ ec : Ev, ec ρ μ = .ok (.int c) μ → evMeth 34 "moved" F_Laying_moved 2 [some 0, some 1, some 2] (evV 0) (evCons ec (evCons (evC (.int o)) evNil)) ρ μ = .ok (.int (if c = o then o else zI st ns + 1 + c)) μ := fun c o ρ hρ ec hc => by
    have e := m_moved h1 c o
    have e2 := L_m st ns cs p "moved" (.inr (.inl rfl))
    simp [evMeth, evV, hρ, Out.bind, insAt, h1, e2, evCons, hc, evC, evNil, pick, e]
  let R2 : Sls := [.v (.cell k), .v n.d, .un, .v n.h, .v n.l, .v (.int n.s), .v (.int n.t)]
  let xs : List Int := [mv (zI st ns) n.s, mv (zI st ns) n.t, goI (spots 0 ns) (tot 0 ns) n.l]
  let R3 : Sls := [.v (.cell k), .v n.d, .v (.lst (xs.map .int)), .v n.h, .v n.l, .v (.int n.s), .v (.int n.t)]
  obtain ⟨w1, w2⟩ := W.w n hn
  obtain ⟨v1, v2⟩ := W.ev hn
  obtain ⟨c1, c2⟩ := W.c n hn
  have m1 : (if n.s = 1022 then 1022 else zI st ns + 1 + n.s) = mv (zI st ns) n.s := by
    unfold mv
    rcases c1 with ⟨a, b⟩ | a
    · rw [if_neg (by omega), if_pos b]; omega
    · rw [if_pos a, if_neg (by omega)]; exact a.symm
  have m2 : (if n.t = 1023 then 1023 else zI st ns + 1 + n.t) = mv (zI st ns) n.t := by
    unfold mv
    rcases c2 with ⟨a, b⟩ | a
    · rw [if_neg (by omega), if_pos b]; omega
    · rw [if_pos a, if_neg (by omega)]; exact a.symm
  show finF N_Laying_node_rows es_Laying_node_rows _ μ = _
  refine r_fin (r_seq (ρ1 := R2) (μ1 := μ) ?_ (r_seq (ρ1 := R3) (μ1 := μ) ?_ (r_ret ?_)))
  · simp [finF, stS, sSq, sAs, sRt, sRtN, sIf, sNx, sEx, evV, evC, evAnd, evOr, evNot, evIte, evOp, evCall, evNil, evCons, evTup, evLst, evBi, evIsi, evChain, evSqT, evSqL, evSlice, evNo, evSo, asInt, pick, gNm, gTp, gLs, gsCons, gsNil, Out.bind, noX, cmpF, binF, isiD, tyName, isSub, ordD, isD, lenD, subscD, seqOf, intD, absD, str_inj, N_Laying_node_rows, Nd.d, R2]
  · have e1 := mm n.s 1022 R2 rfl (evV 5) rfl
    have e2 := mm n.t 1023 R2 rfl (evV 6) rfl
    have e3 := pl_get (ρ := R2) (ea := evV 4) W h1 h2 rfl rfl w1 v1
    rw [m1] at e1
    rw [m2] at e2
    refine n_as (ρ := R2) (i := 2) (d := .lst (xs.map .int)) ?_
    have hz : [D.int (mv (zI st ns) n.s), .int (mv (zI st ns) n.t), .int (goI (spots 0 ns) (tot 0 ns) n.l)].length ≤ sizeLine := szl (by simp)
    simp only [evLst, evCons, e1, e2, e3, evNil, Out.bind, if_pos hz]
    rfl
  · have g1 : evFld 34 "nought" (evV 0) R3 μ = .ok (.int (zI st ns)) μ := fld_ok (l := k) rfl h1 (L_z ..)
    have e3 := pl_get (ρ := R3) (ea := evV 3) W h1 h2 rfl rfl w2 v2
    by_cases hst : n.s = n.t
    · refine k_iteT (μ1 := μ) (by simp [finF, stS, sSq, sAs, sRt, sRtN, sIf, sNx, sEx, evV, evC, evAnd, evOr, evNot, evIte, evOp, evCall, evNil, evCons, evTup, evLst, evBi, evIsi, evChain, evSqT, evSqL, evSlice, evNo, evSo, asInt, pick, gNm, gTp, gLs, gsCons, gsNil, Out.bind, noX, cmpF, binF, isiD, tyName, isSub, ordD, isD, lenD, subscD, seqOf, intD, absD, str_inj, R3, eqII, hst]) ?_
      simp [evV, R3, rowI, hst, xs]
    · refine k_iteF (μ1 := μ) (by simp [finF, stS, sSq, sAs, sRt, sRtN, sIf, sNx, sEx, evV, evC, evAnd, evOr, evNot, evIte, evOp, evCall, evNil, evCons, evTup, evLst, evBi, evIsi, evChain, evSqT, evSqL, evSlice, evNo, evSo, asInt, pick, gNm, gTp, gLs, gsCons, gsNil, Out.bind, noX, cmpF, binF, isiD, tyName, isSub, ordD, isD, lenD, subscD, seqOf, intD, absD, str_inj, R3, eqII, hst]) ?_
      have s1 : seqOf μ (.lst (xs.map .int)) = some (false, xs.map .int) := rfl
      have hz : (xs.map D.int ++ [D.int (zI st ns), .int (zI st ns), .int (goI (spots 0 ns) (tot 0 ns) n.h)]).length ≤ sizeLine := szl (by simp [xs])
      have v2 : evV 2 R3 μ = .ok (.lst (xs.map .int)) μ := rfl
      simp only [evLst, evStar, v2, s1, evCons, g1, e3, evNil, Out.bind, if_pos hz]
      simp [rowI, hst, xs]
theorem row_len (P : List Int) (e z : Int) (n : Nd) : (rowI P e z n).length ≤ 6 := by
  unfold rowI
  split <;> simp
theorem rows_loop (W : WOk st ns) (h1 : μ[k]? = some (.ins 34 (LF st ns cs p))) (h2 : μ[p]? = some (.dic (PL st ns))) (rs : List Nd) (hr : ∀ n ∈ rs, n ∈ ns) (xs : List D) (x1 x3 : Sl) (h : xs.length + 6 * rs.length ≤ 60000) : ∃ y3, forL lt_Laying_laid_image_1 lb_Laying_laid_image_1 (rs.map Nd.d) [.v (.cell k), x1, .ol xs, x3] μ =
    .ok (.nx, [.v (.cell k), x1, .ol (xs ++ (rs.flatMap (rowI (spots 0 ns) (tot 0 ns) (zI st ns))).map .int), y3]) μ := by
  induction rs generalizing xs x3 with
  | nil => exact ⟨x3, by simp [forL]⟩
  | cons n rs ih =>
    rw [List.length_cons] at h
    have hl := row_len (spots 0 ns) (tot 0 ns) (zI st ns) n
    obtain ⟨y3, e⟩ := ih (fun m hm => hr m (List.mem_cons_of_mem _ hm)) (xs ++ (rowI (spots 0 ns) (tot 0 ns) (zI st ns) n).map .int) (.v n.d) (by simp; omega)
    refine ⟨y3, ?_⟩
    have e1 := m_node_rows W h1 h2 (hr n (List.mem_cons_self ..))
    have e2 := L_m st ns cs p "node_rows" (.inr (.inr (.inl rfl)))
    have em : evMeth 34 "node_rows" F_Laying_node_rows 1 [some 0, some 1] (evV 0) (evCons (evV 3) evNil) [.v (.cell k), x1, .ol xs, .v n.d] μ = .ok (.lst ((rowI (spots 0 ns) (tot 0 ns) (zI st ns) n).map .int)) μ := by
      simp [evMeth, evV, Out.bind, insAt, h1, e2, evCons, evNil, pick, e1]
    have hs : xs.length + ((rowI (spots 0 ns) (tot 0 ns) (zI st ns) n).map D.int).length ≤ sizeLine := by rw [List.length_map, sizeLine_eq]; omega
    have b : lb_Laying_laid_image_1 [.v (.cell k), x1, .ol xs, .v n.d] μ = .ok (.nx, [.v (.cell k), x1, .ol (xs ++ (rowI (spots 0 ns) (tot 0 ns) (zI st ns) n).map .int), .v n.d]) μ := by
      simp only [sExt, List.getElem?_cons_succ, List.getElem?_cons_zero, em, Out.bind, seqOf, if_pos hs, List.set_cons_succ, List.set_cons_zero]
    rw [List.map_cons]
    simp only [forL, gNm, Out.bind, List.set_cons_succ, List.set_cons_zero, b, e, List.flatMap_cons, List.append_assoc, List.map_append]
theorem start_ways (W : WOk st ns) : isEnd st = false → wOk ns.length st ∧ (ever? st = true → waysEver st ns = true) := fun h => by
  refine ⟨?_, fun he => by simp [waysEver, he]⟩
  rcases W.s with rfl | rfl | hk
  · simp [isEnd] at h
  · exact .inr (.inr (.inl rfl))
  · exact .inr (.inr (.inr hk))
theorem flat_len (P : List Int) (e z : Int) : ∀ ns : List Nd, (ns.flatMap (rowI P e z)).length ≤ 6 * ns.length
  | [] => by simp
  | n :: r => by
    have h1 := row_len P e z n
    have h2 := flat_len P e z r
    rw [List.flatMap_cons, List.length_append, List.length_cons]
    omega
theorem m_laid_image (W : WOk st ns) (h1 : μ[k]? = some (.ins 34 (LF st ns cs p))) (h2 : μ[p]? = some (.dic (PL st ns))) (hz : cs.length ≤ 60000) : F_Laying_laid_image [.cell k] μ = .ok (imgD st ns cs) μ := by
  have hns := W.z
  let B := ns.flatMap (rowI (spots 0 ns) (tot 0 ns) (zI st ns))
  let E := if waysEver st ns then [zI st ns, zI st ns, tot 0 ns] else []
  let T := if isEnd st then [zI st ns, zI st ns, 1023] else []
  have hB : B.length ≤ 30000 := by have := flat_len (spots 0 ns) (tot 0 ns) (zI st ns) ns; show (ns.flatMap _).length ≤ _; omega
  have hE : E.length ≤ 3 := by show (if waysEver st ns then [zI st ns, zI st ns, tot 0 ns] else []).length ≤ 3; split <;> simp
  have hT : T.length ≤ 3 := by show (if isEnd st then [zI st ns, zI st ns, 1023] else []).length ≤ 3; split <;> simp
  obtain ⟨y3, e⟩ := rows_loop (cs := cs) W h1 h2 ns (fun _ h => h) [] .un .un (by simp; omega)
  rw [List.nil_append] at e
  have fl : ∀ (f : Str) (d : D) (ρ : Sls), (LF st ns cs p).lookup f = some d → ρ[0]? = some (.v (.cell k)) → evFld 34 f (evV 0) ρ μ = .ok d μ := fun f d ρ h hρ => fld_ok (l := k) (by simp [evV, hρ]) h1 h
  show finF N_Laying_laid_image es_Laying_laid_image _ μ = _
  refine r_fin (r_seq (ρ1 := [.v (.cell k), .un, .ol [], .un]) (μ1 := μ) ?_ (r_seq (ρ1 := [.v (.cell k), .un, .ol (B.map .int), y3]) (μ1 := μ) ?_ (r_seq (ρ1 := [.v (.cell k), .un, .ol ((B ++ E).map .int), y3]) (μ1 := μ) ?_ (r_seq (ρ1 := [.v (.cell k), .un, .ol ((B ++ E ++ T).map .int), y3]) (μ1 := μ) ?_ (r_seq (ρ1 := [.v (.cell k), .v (.int (entryI st ns)), .ol ((B ++ E ++ T).map .int), y3]) (μ1 := μ) ?_ ?_)))))
  · simp [finF, stS, sSq, sAs, sRt, sRtN, sIf, sNx, sEx, evV, evC, evAnd, evOr, evNot, evIte, evOp, evCall, evNil, evCons, evTup, evLst, evBi, evIsi, evChain, evSqT, evSqL, evSlice, evNo, evSo, asInt, pick, gNm, gTp, gLs, gsCons, gsNil, Out.bind, noX, cmpF, binF, isiD, tyName, isSub, ordD, isD, lenD, subscD, seqOf, intD, absD, str_inj, N_Laying_laid_image, sOw, sizeLine_eq]
  · have h : evSqT (evFld 34 "web_nodes" (evV 0)) [.v (.cell k), .un, .ol [], .un] μ = .ok (ns.map Nd.d) μ := by
      have := fl "web_nodes" _ [.v (.cell k), .un, .ol [], .un] (L_n ..) rfl
      simp [finF, stS, sSq, sAs, sRt, sRtN, sIf, sNx, sEx, evV, evC, evAnd, evOr, evNot, evIte, evOp, evCall, evNil, evCons, evTup, evLst, evBi, evIsi, evChain, evSqT, evSqL, evSlice, evNo, evSo, asInt, pick, gNm, gTp, gLs, gsCons, gsNil, Out.bind, noX, cmpF, binF, isiD, tyName, isSub, ordD, isD, lenD, subscD, seqOf, intD, absD, str_inj, this]
    simp only [sFor, h, Out.bind]
    exact e
  · have g0 := fl "has_ever" _ [.v (.cell k), .un, .ol (B.map .int), y3] (L_e ..) rfl
    rcases Bool.eq_false_or_eq_true (waysEver st ns) with q | q
    · rw [q] at g0
      have g1 := fl "nought" _ [.v (.cell k), .un, .ol (B.map .int), y3] (L_z ..) rfl
      have g2 := pl_get (ρ := [.v (.cell k), .un, .ol (B.map .int), y3]) (ea := evC (.str "ever")) W h1 h2 rfl rfl (.inr (.inr (.inl rfl))) (fun _ => q)
      have hE' : E = [zI st ns, zI st ns, tot 0 ns] := by show (if waysEver st ns then _ else _) = _; rw [q]; rfl
      have go : goI (spots 0 ns) (tot 0 ns) (.str "ever") = tot 0 ns := by simp [goI]
      rw [go] at g2
      rw [n_ifT g0, hE']
      have hz3 : [D.int (zI st ns), .int (zI st ns), .int (tot 0 ns)].length ≤ sizeLine := szl (by simp)
      have hs : (B.map D.int).length + [D.int (zI st ns), .int (zI st ns), .int (tot 0 ns)].length ≤ sizeLine := by rw [List.length_map]; exact szl (by simp; omega)
      simp only [sExt, List.getElem?_cons_succ, List.getElem?_cons_zero, evLst, evCons, g1, g2, evNil, Out.bind, if_pos hz3, seqOf, if_pos hs, List.set_cons_succ, List.set_cons_zero]
      simp
    · rw [q] at g0
      have hE' : E = [] := by show (if waysEver st ns then _ else _) = _; rw [q]; rfl
      rw [n_ifF g0, hE']
      simp [sNx]
  · have g0 := fl "own_start" _ [.v (.cell k), .un, .ol ((B ++ E).map .int), y3] (L_s ..) rfl
    have g3 : evOp (cmpF .Eq) (evFld 34 "own_start" (evV 0)) (evC (.str "end")) [.v (.cell k), .un, .ol ((B ++ E).map .int), y3] μ = .ok (.bl (isEnd st)) μ := k_op g0 rfl (eq_start W.s μ)
    rcases Bool.eq_false_or_eq_true (isEnd st) with q | q
    · rw [q] at g3
      have g1 := fl "nought" _ [.v (.cell k), .un, .ol ((B ++ E).map .int), y3] (L_z ..) rfl
      have hT' : T = [zI st ns, zI st ns, 1023] := by show (if isEnd st then _ else _) = _; rw [q]; rfl
      rw [n_ifT g3, hT']
      have hz3 : [D.int (zI st ns), .int (zI st ns), .int 1023].length ≤ sizeLine := szl (by simp)
      have hs : ((B ++ E).map D.int).length + [D.int (zI st ns), .int (zI st ns), .int 1023].length ≤ sizeLine := by rw [List.length_map]; exact szl (by simp; omega)
      simp only [sExt, List.getElem?_cons_succ, List.getElem?_cons_zero, evLst, evCons, g1, evC, evNil, Out.bind, if_pos hz3, seqOf, if_pos hs, List.set_cons_succ, List.set_cons_zero]
      simp
    · rw [q] at g3
      have hT' : T = [] := by show (if isEnd st then _ else _) = _; rw [q]; rfl
      rw [n_ifF g3, hT']
      simp [sNx]
  · have g0 := fl "own_start" _ [.v (.cell k), .un, .ol ((B ++ E ++ T).map .int), y3] (L_s ..) rfl
    have g3 : evOp (cmpF .Eq) (evFld 34 "own_start" (evV 0)) (evC (.str "end")) [.v (.cell k), .un, .ol ((B ++ E ++ T).map .int), y3] μ = .ok (.bl (isEnd st)) μ := k_op g0 rfl (eq_start W.s μ)
    have g4 := fl "end_row" _ [.v (.cell k), .un, .ol ((B ++ E ++ T).map .int), y3] (L_r ..) rfl
    refine n_as (ρ := [.v (.cell k), .un, .ol ((B ++ E ++ T).map .int), y3]) (i := 1) (d := .int (entryI st ns)) ?_
    rcases Bool.eq_false_or_eq_true (isEnd st) with q | q
    · rw [q] at g3
      refine k_iteT g3 ?_
      rw [g4]
      simp [entryI, q]
    · rw [q] at g3
      obtain ⟨w1, w2⟩ := start_ways W q
      have g5 := pl_get (ρ := [.v (.cell k), .un, .ol ((B ++ E ++ T).map .int), y3]) W h1 h2 rfl g0 w1 w2
      refine k_iteF g3 ?_
      rw [g5]
      simp [entryI, q]
  · have g5 := fl "own_cells" _ [.v (.cell k), .v (.int (entryI st ns)), .v (.lst ((B ++ E ++ T).map .int)), y3] (L_c ..) rfl
    refine ⟨[.v (.cell k), .v (.int (entryI st ns)), .v (.lst ((B ++ E ++ T).map .int)), y3], ?_⟩
    have hz1 : ((B ++ E ++ T).map D.int ++ D.int 0 :: (cs ++ [])).length ≤ sizeLine := szl (by simp; omega)
    have hz2 : [D.tup ((B ++ E ++ T).map D.int ++ D.int 0 :: (cs ++ [])), D.int (entryI st ns)].length ≤ sizeLine := szl (by simp)
    have v2 : evV 2 [.v (.cell k), .v (.int (entryI st ns)), .v (.lst ((B ++ E ++ T).map .int)), y3] μ = .ok (.lst ((B ++ E ++ T).map .int)) μ := rfl
    have v1 : evV 1 [.v (.cell k), .v (.int (entryI st ns)), .v (.lst ((B ++ E ++ T).map .int)), y3] μ = .ok (.int (entryI st ns)) μ := rfl
    have fz : frz 2 [.v (.cell k), .v (.int (entryI st ns)), .ol ((B ++ E ++ T).map .int), y3] = [.v (.cell k), .v (.int (entryI st ns)), .v (.lst ((B ++ E ++ T).map .int)), y3] := rfl
    simp only [sFz, fz, sRt, evTup, evCons, evStar, v2, v1, g5, seqOf, evC, evNil, Out.bind, if_pos hz1, if_pos hz2]
    rw [List.append_nil]
    rfl
end
end W74


set_option Elab.async false
set_option linter.all false
set_option maxRecDepth 100000
set_option maxHeartbeats 1000000
namespace W74
open PySem PyI

/-- the cells behind a web that is laid -/
def addL (st : D) (ns : List Nd) (cs : List D) (k : Nat) : Mem := [.ins 34 (LF st ns cs (k + 1)), .dic (PL st ns)]
def sizeI (st : D) (ns : List Nd) (cs : List D) : Int := zI st ns + 1 + cs.length
section
variable {μ : Mem} {st : D} {ns : List Nd} {cs : List D}
theorem make_L {ρ : Sls} {ea eb : Ev} (W : WOk st ns) (h1 : ea ρ μ = .ok (webD st ns) μ) (h2 : eb ρ μ = .ok (.tup cs) μ) : evMake 34 F_Laying___init__ 2 [some 0, some 1, some 2] (evCons ea (evCons eb evNil)) ρ μ = .ok (.cell μ.length) (μ ++ addL st ns cs μ.length) := by
  have e := m_init (μ := μ) (cs := cs) W.s W.w W.z
  simp [evMake, evCons, h1, h2, evNil, Out.bind, pick, e, addL]
theorem size_L {ρ : Sls} {eo : Ev} {k : Nat} {ν : Mem} (hz : cs.length ≤ 100000) (h : eo ρ μ = .ok (.cell k) ν) (h1 : ν[k]? = some (.ins 34 (LF st ns cs (k + 1)))) : evMeth 34 "size" F_Laying_size 0 [some 0] eo evNil ρ μ = .ok (.int (sizeI st ns cs)) ν := by
  have e := m_size h1 hz
  have e2 := L_m st ns cs (k + 1) "size" (.inl rfl)
  simp [evMeth, h, Out.bind, insAt, h1, e2, evNil, pick, e, sizeI]
theorem at_L (μ : Mem) (st : D) (ns : List Nd) (cs : List D) : (μ ++ addL st ns cs μ.length)[μ.length]? = some (.ins 34 (LF st ns cs (μ.length + 1))) ∧ (μ ++ addL st ns cs μ.length)[μ.length + 1]? = some (.dic (PL st ns)) := by
  rw [ga0, ga1]
  exact ⟨rfl, rfl⟩
theorem m_room (W : WOk st ns) (hz : cs.length ≤ 60000) (hs : sizeI st ns cs ≤ 1000) : F_image_with_room [webD st ns, .tup cs] μ = .ok (imgD st ns cs) (μ ++ addL st ns cs μ.length) := by
  obtain ⟨a1, a2⟩ := at_L μ st ns cs
  show finF N_image_with_room es_image_with_room _ μ = _
  have sz := size_L (ρ := [.v (webD st ns), .v (.tup cs), .v (.cell μ.length)]) (μ := μ ++ addL st ns cs μ.length) (eo := evV 2) (k := μ.length) (ν := μ ++ addL st ns cs μ.length) (by omega) rfl a1
  refine r_fin (r_seq (ρ1 := [.v (webD st ns), .v (.tup cs), .v (.cell μ.length)]) (μ1 := μ ++ addL st ns cs μ.length) (n_as (make_L W rfl rfl)) (r_seq (ρ1 := [.v (webD st ns), .v (.tup cs), .v (.cell μ.length)]) (μ1 := μ ++ addL st ns cs μ.length) (n_pass (k_op sz rfl ?_)) (r_ret ?_)))
  · simp [cmpF, ordD, hs]
  · have e := m_laid_image W a1 a2 hz
    have e2 := L_m st ns cs (μ.length + 1) "laid_image" (.inr (.inr (.inr rfl)))
    simp [evMeth, evV, Out.bind, insAt, a1, e2, evNil, pick, e]
theorem m_room_great (W : WOk st ns) (hz : cs.length ≤ 60000) (hs : 1000 < sizeI st ns cs) : F_image_with_room [webD st ns, .tup cs] μ = .exc 4 [.int (sizeI st ns cs)] (μ ++ addL st ns cs μ.length) := by
  obtain ⟨a1, a2⟩ := at_L μ st ns cs
  show finF N_image_with_room es_image_with_room _ μ = _
  have sz := size_L (ρ := [.v (webD st ns), .v (.tup cs), .v (.cell μ.length)]) (μ := μ ++ addL st ns cs μ.length) (eo := evV 2) (k := μ.length) (ν := μ ++ addL st ns cs μ.length) (by omega) rfl a1
  refine e_fin (e_seq (ρ1 := [.v (webD st ns), .v (.tup cs), .v (.cell μ.length)]) (μ1 := μ ++ addL st ns cs μ.length) (n_as (make_L W rfl rfl)) (e_seqR ?_))
  rw [n_ifT (k_op sz rfl (by simp [cmpF, ordD, hs] : cmpF .Gt _ (.int (sizeI st ns cs)) (.int 1000) = some (.bl true)))]
  exact e_raise sz
end
/-! ### what is asked of the arguments -/
def wordD (d : D) : Prop := ∃ i : Int, d = .int i ∧ 0 ≤ i ∧ i ≤ 1023
structure COk (cs : List D) : Prop where
  w : ∀ c ∈ cs, wordD c
  l : 3 ≤ cs.length
  u : cs.length ≤ 1000
theorem m_word {d : D} (h : wordD d) (μ : Mem) : F_is_word [d] μ = .ok (.bl true) μ := by
  obtain ⟨i, rfl, h0, h1⟩ := h
  have e := m_number (d := .int i) rfl 0 (some 1023) μ
  have e2 : numB (.int i) 0 (some 1023) = true := by simp [numB, h0, h1]
  rw [e2] at e
  have e : F_is_number [.int i, .int 0, .int 1023] μ = .ok (.bl true) μ := e
  simp [finF, stS, sSq, sAs, sRt, sRtN, sIf, sNx, sEx, evV, evC, evAnd, evOr, evNot, evIte, evOp, evCall, evNil, evCons, evTup, evLst, evBi, evIsi, evChain, evSqT, evSqL, evSlice, evNo, evSo, asInt, pick, gNm, gTp, gLs, gsCons, gsNil, Out.bind, noX, cmpF, binF, isiD, tyName, isSub, ordD, isD, lenD, subscD, seqOf, intD, absD, str_inj, F_is_word, N_is_word, es_is_word, subD, e]
theorem first_loop (f : D) (hf : f = .fn 14) : ∀ (ds : List D) (k : Nat) (a x2 x3 : Sl) (μ : Mem), (∀ d ∈ ds, wordD d) → ∃ y2 y3, forL lt_first_wrong_1 lb_first_wrong_1 (enuFrom k ds) [a, .v f, x2, x3] μ = .ok (.nx, [a, .v f, y2, y3]) μ
  | [], k, a, x2, x3, μ, _ => ⟨x2, x3, rfl⟩
  | d :: ds, k, a, x2, x3, μ, h => by
    subst hf
    obtain ⟨y2, y3, e⟩ := first_loop (.fn 14) rfl ds (k + 1) a (.v (.int k)) (.v d) μ fun x hx => h x (List.mem_cons_of_mem _ hx)
    refine ⟨y2, y3, ?_⟩
    have ew := m_word (h d (List.mem_cons_self ..)) μ
    have b : lb_first_wrong_1 [a, .v (.fn 14), .v (.int k), .v d] μ = .ok (.nx, [a, .v (.fn 14), .v (.int k), .v d]) μ := by
      refine n_pass (k_not (b := true) ?_)
      simp [finF, stS, sSq, sAs, sRt, sRtN, sIf, sNx, sEx, evV, evC, evAnd, evOr, evNot, evIte, evOp, evCall, evNil, evCons, evTup, evLst, evBi, evIsi, evChain, evSqT, evSqL, evSlice, evNo, evSo, asInt, pick, gNm, gTp, gLs, gsCons, gsNil, Out.bind, noX, cmpF, binF, isiD, tyName, isSub, ordD, isD, lenD, subscD, seqOf, intD, absD, str_inj, evCallP, T_first_wrong_is_right, ew]
    rw [enuFrom]
    have t : lt_first_wrong_1 (.tup [.int k, d]) [a, .v (.fn 14), x2, x3] μ = .ok [a, .v (.fn 14), .v (.int k), .v d] μ := by simp [finF, stS, sSq, sAs, sRt, sRtN, sIf, sNx, sEx, evV, evC, evAnd, evOr, evNot, evIte, evOp, evCall, evNil, evCons, evTup, evLst, evBi, evIsi, evChain, evSqT, evSqL, evSlice, evNo, evSo, asInt, pick, gNm, gTp, gLs, gsCons, gsNil, Out.bind, noX, cmpF, binF, isiD, tyName, isSub, ordD, isD, lenD, subscD, seqOf, intD, absD, str_inj, ]
    simp only [forL, t, b, Out.bind, e]
theorem m_first {ds : List D} (h : ∀ d ∈ ds, wordD d) (μ : Mem) : F_first_wrong [.tup ds, .fn 14] μ = .ok (.lst []) μ := by
  obtain ⟨y2, y3, e⟩ := first_loop (.fn 14) rfl ds 0 (.v (.tup ds)) .un .un μ h
  show finF N_first_wrong es_first_wrong _ μ = _
  refine r_fin (r_seq (ρ1 := [.v (.tup ds), .v (.fn 14), y2, y3]) (μ1 := μ) ?_ (r_ret ?_))
  · have q : evEnuT (evV 0) (stS N_first_wrong [.tup ds, .fn 14]) μ = .ok (enuFrom 0 ds) μ := by rw [← enuD_from]; rfl
    simp only [sFor, q, Out.bind]
    exact e
  · simp [finF, stS, sSq, sAs, sRt, sRtN, sIf, sNx, sEx, evV, evC, evAnd, evOr, evNot, evIte, evOp, evCall, evNil, evCons, evTup, evLst, evBi, evIsi, evChain, evSqT, evSqL, evSlice, evNo, evSo, asInt, pick, gNm, gTp, gLs, gsCons, gsNil, Out.bind, noX, cmpF, binF, isiD, tyName, isSub, ordD, isD, lenD, subscD, seqOf, intD, absD, str_inj, sizeLine_eq]
theorem m_wrong {cs : List D} (h : COk cs) (μ : Mem) : F_wrong_cells [.tup cs] μ = .ok (.lst []) μ := by
  have hl := h.l
  have hu := h.u
  have hc : cutD cs none (some 1000) = cs := cutD_all (m := cs.length) rfl (by rfl) (by simp [HT.sIx]; omega)
  have e := m_first h.w μ
  show finF N_wrong_cells es_wrong_cells _ μ = _
  refine r_fin (r_seq (ρ1 := [.v (.tup cs), .un]) (μ1 := μ) (n_pass (by simp [finF, stS, sSq, sAs, sRt, sRtN, sIf, sNx, sEx, evV, evC, evAnd, evOr, evNot, evIte, evOp, evCall, evNil, evCons, evTup, evLst, evBi, evIsi, evChain, evSqT, evSqL, evSlice, evNo, evSo, asInt, pick, gNm, gTp, gLs, gsCons, gsNil, Out.bind, noX, cmpF, binF, isiD, tyName, isSub, ordD, isD, lenD, subscD, seqOf, intD, absD, str_inj, N_wrong_cells])) (r_seq (ρ1 := [.v (.tup cs), .un]) (μ1 := μ) ?_ (r_seq (ρ1 := [.v (.tup cs), .un]) (μ1 := μ) (n_pass ?_) (r_ret ?_))))
  · have q : evSqL (evCall F_first_wrong 2 0 [some 0, some 1] (evCons (evSlice (evV 0) evNo (evSo (evC (.int 1000)))) (evCons (evC (.fn 14)) evNil)) evNil) [.v (.tup cs), .un] μ = .ok [] μ := by
      have q1 : evSlice (evV 0) evNo (evSo (evC (.int 1000))) [.v (.tup cs), .un] μ = .ok (.tup cs) μ := by simp [finF, stS, sSq, sAs, sRt, sRtN, sIf, sNx, sEx, evV, evC, evAnd, evOr, evNot, evIte, evOp, evCall, evNil, evCons, evTup, evLst, evBi, evIsi, evChain, evSqT, evSqL, evSlice, evNo, evSo, asInt, pick, gNm, gTp, gLs, gsCons, gsNil, Out.bind, noX, cmpF, binF, isiD, tyName, isSub, ordD, isD, lenD, subscD, seqOf, intD, absD, str_inj, sliceD, hc]
      simp only [evSqL, c2 (fn := F_first_wrong) q1 (rfl : evC (.fn 14) _ μ = .ok (.fn 14) μ) e, Out.bind]
    simp only [sFor, q, Out.bind, forL]
  · simp [finF, stS, sSq, sAs, sRt, sRtN, sIf, sNx, sEx, evV, evC, evAnd, evOr, evNot, evIte, evOp, evCall, evNil, evCons, evTup, evLst, evBi, evIsi, evChain, evSqT, evSqL, evSlice, evNo, evSo, asInt, pick, gNm, gTp, gLs, gsCons, gsNil, Out.bind, noX, cmpF, binF, isiD, tyName, isSub, ordD, isD, lenD, subscD, seqOf, intD, absD, str_inj, ]
    omega
  · refine k_iteF (μ1 := μ) ?_ ?_
    · simp [finF, stS, sSq, sAs, sRt, sRtN, sIf, sNx, sEx, evV, evC, evAnd, evOr, evNot, evIte, evOp, evCall, evNil, evCons, evTup, evLst, evBi, evIsi, evChain, evSqT, evSqL, evSlice, evNo, evSo, asInt, pick, gNm, gTp, gLs, gsCons, gsNil, Out.bind, noX, cmpF, binF, isiD, tyName, isSub, ordD, isD, lenD, subscD, seqOf, intD, absD, str_inj, ]
      omega
    · simp [finF, stS, sSq, sAs, sRt, sRtN, sIf, sNx, sEx, evV, evC, evAnd, evOr, evNot, evIte, evOp, evCall, evNil, evCons, evTup, evLst, evBi, evIsi, evChain, evSqT, evSqL, evSlice, evNo, evSo, asInt, pick, gNm, gTp, gLs, gsCons, gsNil, Out.bind, noX, cmpF, binF, isiD, tyName, isSub, ordD, isD, lenD, subscD, seqOf, intD, absD, str_inj, sizeLine_eq]
theorem m_check_cells {cs : List D} (h : COk cs) (μ : Mem) : F_check_cells [.tup cs] μ = .ok .non μ := by
  have e := m_wrong h μ
  show finF N_check_cells es_check_cells _ μ = _
  refine f_nx (ρ' := [.v (.tup cs), .un]) ?_
  have q : evSqL (evCall F_wrong_cells 1 0 [some 0] (evCons (evV 0) evNil) evNil) (stS N_check_cells [.tup cs]) μ = .ok [] μ := by
    simp only [evSqL, c1 (fn := F_wrong_cells) (rfl : evV 0 (stS N_check_cells [.tup cs]) μ = .ok (.tup cs) μ) e, Out.bind]
  simp only [sFor, q, Out.bind, forL]
  rfl
theorem m_check_web {w : D} (h : seenWeb w = true) (hw : webB w = true) (μ : Mem) : F_check_web [w] μ = .ok .non μ := by
  have e := m_web_form h μ
  rw [hw] at e
  show finF N_check_web es_check_web _ μ = _
  exact f_nx (ρ' := [.v w]) (n_pass (k_not (b := true) (c1 rfl e)))
theorem m_check_both {w : D} {cs : List D} (h : seenWeb w = true) (hw : webB w = true) (hc : COk cs) (μ : Mem) : F_check_both [w, .tup cs] μ = .ok .non μ := by
  show finF N_check_both es_check_both _ μ = _
  exact f_nx (ρ' := [.v w, .v (.tup cs)]) (nx_seq (n_ex (c1 rfl (m_check_web h hw μ))) (n_ex (c1 rfl (m_check_cells hc μ))))
/-- all cells are there -/
theorem has_loop (m : Nat) (a b : Sl) : ∀ (ns : List Nd) (x2 x4 x5 : Sl) (μ : Mem), (∀ n ∈ ns, (n.s < m ∨ n.s = 1022) ∧ (n.t < m ∨ n.t = 1023)) → ∃ y2 y4 y5, forL lt_has_all_cells_1 lb_has_all_cells_1 (ns.map Nd.d) [a, b, x2, .v (.int m), x4, x5] μ = .ok (.nx, [a, b, y2, .v (.int m), y4, y5]) μ
  | [], x2, x4, x5, μ, _ => ⟨x2, x4, x5, rfl⟩
  | n :: ns, x2, x4, x5, μ, h => by
    obtain ⟨y2, y4, y5, e⟩ := has_loop m a b ns (.v n.h) (.v (.int n.s)) (.v (.int n.t)) μ fun x hx => h x (List.mem_cons_of_mem _ hx)
    refine ⟨y2, y4, y5, ?_⟩
    obtain ⟨h1, h2⟩ := h n (List.mem_cons_self ..)
    have t : lt_has_all_cells_1 n.d [a, b, x2, .v (.int m), x4, x5] μ = .ok [a, b, .v n.h, .v (.int m), .v (.int n.s), .v (.int n.t)] μ := by simp [finF, stS, sSq, sAs, sRt, sRtN, sIf, sNx, sEx, evV, evC, evAnd, evOr, evNot, evIte, evOp, evCall, evNil, evCons, evTup, evLst, evBi, evIsi, evChain, evSqT, evSqL, evSlice, evNo, evSo, asInt, pick, gNm, gTp, gLs, gsCons, gsNil, Out.bind, noX, cmpF, binF, isiD, tyName, isSub, ordD, isD, lenD, subscD, seqOf, intD, absD, str_inj, Nd.d]
    have bb : lb_has_all_cells_1 [a, b, .v n.h, .v (.int m), .v (.int n.s), .v (.int n.t)] μ = .ok (.nx, [a, b, .v n.h, .v (.int m), .v (.int n.s), .v (.int n.t)]) μ := by
      refine n_pass ?_
      have e1 : (!decide (n.s = 1022) && decide ((m : Int) ≤ n.s)) = false := by
        rcases h1 with h1 | h1
        · have : ¬ (m : Int) ≤ n.s := by omega
          simp [this]
        · simp [h1]
      have e2 : (!decide (n.t = 1023) && decide ((m : Int) ≤ n.t)) = false := by
        rcases h2 with h2 | h2
        · have : ¬ (m : Int) ≤ n.t := by omega
          simp [this]
        · simp [h2]
      refine k_or (a := false) (b := false) ?_ fun _ => ?_
      · rw [← e1]; exact k_and (by simp [finF, stS, sSq, sAs, sRt, sRtN, sIf, sNx, sEx, evV, evC, evAnd, evOr, evNot, evIte, evOp, evCall, evNil, evCons, evTup, evLst, evBi, evIsi, evChain, evSqT, evSqL, evSlice, evNo, evSo, asInt, pick, gNm, gTp, gLs, gsCons, gsNil, Out.bind, noX, cmpF, binF, isiD, tyName, isSub, ordD, isD, lenD, subscD, seqOf, intD, absD, str_inj, neII]) fun _ => by simp [finF, stS, sSq, sAs, sRt, sRtN, sIf, sNx, sEx, evV, evC, evAnd, evOr, evNot, evIte, evOp, evCall, evNil, evCons, evTup, evLst, evBi, evIsi, evChain, evSqT, evSqL, evSlice, evNo, evSo, asInt, pick, gNm, gTp, gLs, gsCons, gsNil, Out.bind, noX, cmpF, binF, isiD, tyName, isSub, ordD, isD, lenD, subscD, seqOf, intD, absD, str_inj, ]
      · rw [← e2]; exact k_and (by simp [finF, stS, sSq, sAs, sRt, sRtN, sIf, sNx, sEx, evV, evC, evAnd, evOr, evNot, evIte, evOp, evCall, evNil, evCons, evTup, evLst, evBi, evIsi, evChain, evSqT, evSqL, evSlice, evNo, evSo, asInt, pick, gNm, gTp, gLs, gsCons, gsNil, Out.bind, noX, cmpF, binF, isiD, tyName, isSub, ordD, isD, lenD, subscD, seqOf, intD, absD, str_inj, neII]) fun _ => by simp [finF, stS, sSq, sAs, sRt, sRtN, sIf, sNx, sEx, evV, evC, evAnd, evOr, evNot, evIte, evOp, evCall, evNil, evCons, evTup, evLst, evBi, evIsi, evChain, evSqT, evSqL, evSlice, evNo, evSo, asInt, pick, gNm, gTp, gLs, gsCons, gsNil, Out.bind, noX, cmpF, binF, isiD, tyName, isSub, ordD, isD, lenD, subscD, seqOf, intD, absD, str_inj, ]
    rw [List.map_cons]
    simp only [forL, t, bb, Out.bind, e]
theorem m_fits {st : D} {ns : List Nd} {cs : List D} (h : ∀ n ∈ ns, (n.s < cs.length ∨ n.s = 1022) ∧ (n.t < cs.length ∨ n.t = 1023)) (hz : cs.length ≤ 100000) (μ : Mem) : F_check_fit [webD st ns, .tup cs] μ = .ok .non μ := by
  obtain ⟨y2, y4, y5, e⟩ := has_loop cs.length (.v (webD st ns)) (.v (.tup cs)) ns .un .un .un μ h
  have e2 : F_has_all_cells [webD st ns, .tup cs] μ = .ok (.bl true) μ := by
    show finF N_has_all_cells es_has_all_cells _ μ = _
    refine r_fin (r_seq (ρ1 := [.v (webD st ns), .v (.tup cs), .un, .v (.int cs.length), .un, .un]) (μ1 := μ) ?_ (r_seq (ρ1 := [.v (webD st ns), .v (.tup cs), y2, .v (.int cs.length), y4, y5]) (μ1 := μ) ?_ (r_ret rfl)))
    · simp [finF, stS, sSq, sAs, sRt, sRtN, sIf, sNx, sEx, evV, evC, evAnd, evOr, evNot, evIte, evOp, evCall, evNil, evCons, evTup, evLst, evBi, evIsi, evChain, evSqT, evSqL, evSlice, evNo, evSo, asInt, pick, gNm, gTp, gLs, gsCons, gsNil, Out.bind, noX, cmpF, binF, isiD, tyName, isSub, ordD, isD, lenD, subscD, seqOf, intD, absD, str_inj, N_has_all_cells]
    · have q : evSqT (evOp subscD (evV 0) (evC (.int 1))) [.v (webD st ns), .v (.tup cs), .un, .v (.int cs.length), .un, .un] μ = .ok (ns.map Nd.d) μ := by simp [finF, stS, sSq, sAs, sRt, sRtN, sIf, sNx, sEx, evV, evC, evAnd, evOr, evNot, evIte, evOp, evCall, evNil, evCons, evTup, evLst, evBi, evIsi, evChain, evSqT, evSqL, evSlice, evNo, evSo, asInt, pick, gNm, gTp, gLs, gsCons, gsNil, Out.bind, noX, cmpF, binF, isiD, tyName, isSub, ordD, isD, lenD, subscD, seqOf, intD, absD, str_inj, webD, at1]
      simp only [sFor, q, Out.bind]
      exact e
  show finF N_check_fit es_check_fit _ μ = _
  exact f_nx (ρ' := [.v (webD st ns), .v (.tup cs)]) (n_pass (k_not (b := true) (c2 rfl rfl e2)))
theorem m_misfit {st : D} {n : Nd} {ns : List Nd} {cs : List D} (h : (cs.length : Int) ≤ n.s) (h2 : n.s ≠ 1022) (hz : cs.length ≤ 100000) (μ : Mem) : F_check_fit [webD st (n :: ns), .tup cs] μ = .exc 3 [webD st (n :: ns)] μ := by
  have e2 : F_has_all_cells [webD st (n :: ns), .tup cs] μ = .ok (.bl false) μ := by
    show finF N_has_all_cells es_has_all_cells _ μ = _
    refine r_fin (r_seq (ρ1 := [.v (webD st (n :: ns)), .v (.tup cs), .un, .v (.int cs.length), .un, .un]) (μ1 := μ) ?_ (r_seqR ?_))
    · simp [finF, stS, sSq, sAs, sRt, sRtN, sIf, sNx, sEx, evV, evC, evAnd, evOr, evNot, evIte, evOp, evCall, evNil, evCons, evTup, evLst, evBi, evIsi, evChain, evSqT, evSqL, evSlice, evNo, evSo, asInt, pick, gNm, gTp, gLs, gsCons, gsNil, Out.bind, noX, cmpF, binF, isiD, tyName, isSub, ordD, isD, lenD, subscD, seqOf, intD, absD, str_inj, N_has_all_cells]
    · have q : evSqT (evOp subscD (evV 0) (evC (.int 1))) [.v (webD st (n :: ns)), .v (.tup cs), .un, .v (.int cs.length), .un, .un] μ = .ok (n.d :: ns.map Nd.d) μ := by simp [finF, stS, sSq, sAs, sRt, sRtN, sIf, sNx, sEx, evV, evC, evAnd, evOr, evNot, evIte, evOp, evCall, evNil, evCons, evTup, evLst, evBi, evIsi, evChain, evSqT, evSqL, evSlice, evNo, evSo, asInt, pick, gNm, gTp, gLs, gsCons, gsNil, Out.bind, noX, cmpF, binF, isiD, tyName, isSub, ordD, isD, lenD, subscD, seqOf, intD, absD, str_inj, webD, at1]
      have t : lt_has_all_cells_1 n.d [.v (webD st (n :: ns)), .v (.tup cs), .un, .v (.int cs.length), .un, .un] μ = .ok [.v (webD st (n :: ns)), .v (.tup cs), .v n.h, .v (.int cs.length), .v (.int n.s), .v (.int n.t)] μ := by simp [finF, stS, sSq, sAs, sRt, sRtN, sIf, sNx, sEx, evV, evC, evAnd, evOr, evNot, evIte, evOp, evCall, evNil, evCons, evTup, evLst, evBi, evIsi, evChain, evSqT, evSqL, evSlice, evNo, evSo, asInt, pick, gNm, gTp, gLs, gsCons, gsNil, Out.bind, noX, cmpF, binF, isiD, tyName, isSub, ordD, isD, lenD, subscD, seqOf, intD, absD, str_inj, Nd.d]
      have bb : lb_has_all_cells_1 [.v (webD st (n :: ns)), .v (.tup cs), .v n.h, .v (.int cs.length), .v (.int n.s), .v (.int n.t)] μ = .ok (.rt (.bl false), [.v (webD st (n :: ns)), .v (.tup cs), .v n.h, .v (.int cs.length), .v (.int n.s), .v (.int n.t)]) μ := by
        exact (n_ifT (k_or (a := true) (b := true) (k_and (a := true) (b := true) (by simp [finF, stS, sSq, sAs, sRt, sRtN, sIf, sNx, sEx, evV, evC, evAnd, evOr, evNot, evIte, evOp, evCall, evNil, evCons, evTup, evLst, evBi, evIsi, evChain, evSqT, evSqL, evSlice, evNo, evSo, asInt, pick, gNm, gTp, gLs, gsCons, gsNil, Out.bind, noX, cmpF, binF, isiD, tyName, isSub, ordD, isD, lenD, subscD, seqOf, intD, absD, str_inj, neII, h2]) fun _ => by simp [finF, stS, sSq, sAs, sRt, sRtN, sIf, sNx, sEx, evV, evC, evAnd, evOr, evNot, evIte, evOp, evCall, evNil, evCons, evTup, evLst, evBi, evIsi, evChain, evSqT, evSqL, evSlice, evNo, evSo, asInt, pick, gNm, gTp, gLs, gsCons, gsNil, Out.bind, noX, cmpF, binF, isiD, tyName, isSub, ordD, isD, lenD, subscD, seqOf, intD, absD, str_inj, h]) fun z => nomatch z)).trans rfl
      refine ⟨[.v (webD st (n :: ns)), .v (.tup cs), .v n.h, .v (.int cs.length), .v (.int n.s), .v (.int n.t)], ?_⟩
      simp only [sFor, q, Out.bind, forL, t, bb]
  show finF N_check_fit es_check_fit _ μ = _
  refine e_fin ?_
  exact (n_ifT (k_not (b := false) (c2 rfl rfl e2))).trans (e_raise rfl)
/-! ### laid, its size -/
section
variable {μ : Mem} {st : D} {ns : List Nd} {cs : List D}
theorem m_laid (W : WOk st ns) (h : seenWeb (webD st ns) = true) (hw : webB (webD st ns) = true) (hc : COk cs) (hf : ∀ n ∈ ns, (n.s < cs.length ∨ n.s = 1022) ∧ (n.t < cs.length ∨ n.t = 1023)) (hs : sizeI st ns cs ≤ 1000) : F_laid [webD st ns, .tup cs] μ = .ok (imgD st ns cs) (μ ++ addL st ns cs μ.length) := by
  have hz : cs.length ≤ 60000 := by have := hc.u; omega
  show finF N_laid es_laid _ μ = _
  exact r_fin (r_seq (ρ1 := [.v (webD st ns), .v (.tup cs)]) (μ1 := μ) (n_ex (c2 rfl rfl (m_check_both h hw hc μ))) (r_seq (ρ1 := [.v (webD st ns), .v (.tup cs)]) (μ1 := μ) (n_ex (c2 rfl rfl (m_fits hf (by omega) μ))) (r_ret (c2 rfl rfl (m_room W hz hs)))))
theorem m_laid_great (W : WOk st ns) (h : seenWeb (webD st ns) = true) (hw : webB (webD st ns) = true) (hc : COk cs) (hf : ∀ n ∈ ns, (n.s < cs.length ∨ n.s = 1022) ∧ (n.t < cs.length ∨ n.t = 1023)) (hs : 1000 < sizeI st ns cs) : F_laid [webD st ns, .tup cs] μ = .exc 4 [.int (sizeI st ns cs)] (μ ++ addL st ns cs μ.length) := by
  have hz : cs.length ≤ 60000 := by have := hc.u; omega
  show finF N_laid es_laid _ μ = _
  exact e_fin (e_seq (ρ1 := [.v (webD st ns), .v (.tup cs)]) (μ1 := μ) (n_ex (c2 rfl rfl (m_check_both h hw hc μ))) (e_seq (ρ1 := [.v (webD st ns), .v (.tup cs)]) (μ1 := μ) (n_ex (c2 rfl rfl (m_fits hf (by omega) μ))) (e_rt (c2 rfl rfl (m_room_great W hz hs)))))
theorem m_laid_misfit {n : Nd} (h : seenWeb (webD st (n :: ns)) = true) (hw : webB (webD st (n :: ns)) = true) (hc : COk cs) (hf : (cs.length : Int) ≤ n.s) (h2 : n.s ≠ 1022) : F_laid [webD st (n :: ns), .tup cs] μ = .exc 3 [webD st (n :: ns)] μ := by
  have hz : cs.length ≤ 60000 := by have := hc.u; omega
  show finF N_laid es_laid _ μ = _
  exact e_fin (e_seq (ρ1 := [.v (webD st (n :: ns)), .v (.tup cs)]) (μ1 := μ) (n_ex (c2 rfl rfl (m_check_both h hw hc μ))) (e_seqR (e_ex (c2 rfl rfl (m_misfit hf h2 (by omega) μ)))))
theorem m_laid_size (W : WOk st ns) (h : seenWeb (webD st ns) = true) (hw : webB (webD st ns) = true) (hc : COk cs) : F_laid_size [webD st ns, .tup cs] μ = .ok (.int (sizeI st ns cs)) (μ ++ addL st ns cs μ.length) := by
  have hz : cs.length ≤ 60000 := by have := hc.u; omega
  obtain ⟨a1, a2⟩ := at_L μ st ns cs
  show finF N_laid_size es_laid_size _ μ = _
  exact r_fin (r_seq (ρ1 := [.v (webD st ns), .v (.tup cs)]) (μ1 := μ) (n_ex (c2 rfl rfl (m_check_both h hw hc μ))) (r_ret (size_L (by omega) (make_L W rfl rfl) a1)))
end
end W74


set_option Elab.async false
set_option linter.all false
set_option maxRecDepth 100000
set_option maxHeartbeats 1000000
namespace W74
open PySem PyI

/-! ### the law's own image -/
/-- the law's slots -/
def Q (w c x2 x3 x4 x5 x6 x7 x8 x9 x10 x11 x12 x13 x14 x15 x16 x17 x18 x19 : Sl) : Sls := [w, c, x2, x3, x4, x5, x6, x7, x8, x9, x10, x11, x12, x13, x14, x15, x16, x17, x18, x19, .un, .un]
section
variable {μ : Mem} {st : D} {ns : List Nd} {cs : List D} {w c x2 x3 x4 x5 x6 x7 x8 x9 x10 x11 x12 x13 x14 x15 x16 x17 x18 x19 : Sl}
theorem l_ways : ∀ (rs : List Nd) (xs : List D) (x13 : Sl), xs.length + 2 * rs.length ≤ 20000 → ∃ y13, forL lt__law_laid_1 lb__law_laid_1 (rs.map Nd.d) (Q w c x2 x3 x4 x5 x6 x7 x8 x9 x10 x11 x12 x13 x14 x15 x16 x17 x18 (.v (.lst xs))) μ = .ok (.nx, Q w c x2 x3 x4 x5 x6 x7 x8 x9 x10 x11 x12 y13 x14 x15 x16 x17 x18 (.v (.lst (xs ++ rs.flatMap fun n => [n.l, n.h])))) μ
  | [], xs, x13, _ => ⟨x13, by simp [forL]⟩
  | n :: rs, xs, x13, h => by
    rw [List.length_cons] at h
    obtain ⟨y13, e⟩ := l_ways rs (xs ++ [n.l, n.h]) (.v n.d) (by simp; omega)
    refine ⟨y13, ?_⟩
    have cc : cutD [.int n.s, .int n.t, n.l, n.h] (some 2) none = [n.l, n.h] := rfl
    have hs : addD (.lst xs) (.lst [n.l, n.h]) = some (.lst (xs ++ [n.l, n.h])) := if_pos (szl (by simp; omega))
    have b : lb__law_laid_1 (Q w c x2 x3 x4 x5 x6 x7 x8 x9 x10 x11 x12 (.v n.d) x14 x15 x16 x17 x18 (.v (.lst xs))) μ = .ok (.nx, Q w c x2 x3 x4 x5 x6 x7 x8 x9 x10 x11 x12 (.v n.d) x14 x15 x16 x17 x18 (.v (.lst (xs ++ [n.l, n.h])))) μ := by simp [finF, stS, sSq, sAs, sRt, sRtN, sIf, sNx, sEx, evV, evC, evAnd, evOr, evNot, evIte, evOp, evCall, evNil, evCons, evTup, evLst, evBi, evIsi, evChain, evSqT, evSqL, evSlice, evNo, evSo, asInt, pick, gNm, gTp, gLs, gsCons, gsNil, Out.bind, noX, cmpF, binF, isiD, tyName, isSub, ordD, isD, lenD, subscD, seqOf, intD, absD, str_inj, sP2, sP3, Q, Nd.d, sliceD, cc, listD, hs, sizeLine_eq]
    have t : lt__law_laid_1 n.d (Q w c x2 x3 x4 x5 x6 x7 x8 x9 x10 x11 x12 x13 x14 x15 x16 x17 x18 (.v (.lst xs))) μ = .ok (Q w c x2 x3 x4 x5 x6 x7 x8 x9 x10 x11 x12 (.v n.d) x14 x15 x16 x17 x18 (.v (.lst xs))) μ := rfl
    rw [List.map_cons]
    simp only [forL, t, Out.bind, b, e, List.flatMap_cons, List.append_assoc]
theorem l_spots : ∀ (rs : List Nd) (xs : List Int) (a : Int) (x13 : Sl), xs.length + rs.length ≤ 20000 → ∃ y13, forL lt__law_laid_2 lb__law_laid_2 (rs.map Nd.d) (Q w c (.v (.int a)) x3 x4 x5 x6 x7 x8 x9 x10 x11 x12 x13 x14 x15 x16 (.v (.cell μ.length)) x18 x19) (μ ++ [.lst (xs.map .int)]) =
    .ok (.nx, Q w c (.v (.int (tot a rs))) x3 x4 x5 x6 x7 x8 x9 x10 x11 x12 y13 x14 x15 x16 (.v (.cell μ.length)) x18 x19) (μ ++ [.lst ((xs ++ spots a rs).map .int)])
  | [], xs, a, x13, _ => ⟨x13, by simp [forL, spots, tot]⟩
  | n :: rs, xs, a, x13, h => by
    rw [List.length_cons] at h
    obtain ⟨y13, e⟩ := l_spots rs (xs ++ [a]) (a + n.len) (.v n.d) (by simp; omega)
    refine ⟨y13, ?_⟩
    have t : lt__law_laid_2 n.d (Q w c (.v (.int a)) x3 x4 x5 x6 x7 x8 x9 x10 x11 x12 x13 x14 x15 x16 (.v (.cell μ.length)) x18 x19) (μ ++ [.lst (xs.map .int)]) = .ok (Q w c (.v (.int a)) x3 x4 x5 x6 x7 x8 x9 x10 x11 x12 (.v n.d) x14 x15 x16 (.v (.cell μ.length)) x18 x19) (μ ++ [.lst (xs.map .int)]) := rfl
    have hz : xs.length < sizeLine := by rw [sizeLine_eq]; omega
    have b : lb__law_laid_2 (Q w c (.v (.int a)) x3 x4 x5 x6 x7 x8 x9 x10 x11 x12 (.v n.d) x14 x15 x16 (.v (.cell μ.length)) x18 x19) (μ ++ [.lst (xs.map .int)]) = .ok (.nx, Q w c (.v (.int (a + n.len))) x3 x4 x5 x6 x7 x8 x9 x10 x11 x12 (.v n.d) x14 x15 x16 (.v (.cell μ.length)) x18 x19) (μ ++ [.lst ((xs ++ [a]).map .int)]) := by
      refine nx_seq (ρ1 := Q w c (.v (.int a)) x3 x4 x5 x6 x7 x8 x9 x10 x11 x12 (.v n.d) x14 x15 x16 (.v (.cell μ.length)) x18 x19) (μ1 := μ ++ [.lst ((xs ++ [a]).map .int)]) ?_ ?_
      · simp [finF, stS, sSq, sAs, sRt, sRtN, sIf, sNx, sEx, evV, evC, evAnd, evOr, evNot, evIte, evOp, evCall, evNil, evCons, evTup, evLst, evBi, evIsi, evChain, evSqT, evSqL, evSlice, evNo, evSo, asInt, pick, gNm, gTp, gLs, gsCons, gsNil, Out.bind, noX, cmpF, binF, isiD, tyName, isSub, ordD, isD, lenD, subscD, seqOf, intD, absD, str_inj, sP2, sP3, Q, evApC, lstAt, sa0, hz]
      · have a40 : ∀ a b c d : D, L2.atI [a, b, c, d] 0 = some a := fun _ _ _ _ => rfl
        have a41 : ∀ a b c d : D, L2.atI [a, b, c, d] 1 = some b := fun _ _ _ _ => rfl
        by_cases hst : n.s = n.t
        · simp [finF, stS, sSq, sAs, sRt, sRtN, sIf, sNx, sEx, evV, evC, evAnd, evOr, evNot, evIte, evOp, evCall, evNil, evCons, evTup, evLst, evBi, evIsi, evChain, evSqT, evSqL, evSlice, evNo, evSo, asInt, pick, gNm, gTp, gLs, gsCons, gsNil, Out.bind, noX, cmpF, binF, isiD, tyName, isSub, ordD, isD, lenD, subscD, seqOf, intD, absD, str_inj, sP2, sP3, Q, Nd.d, a40, a41, eqII, hst, addD, Nd.len]
        · simp [finF, stS, sSq, sAs, sRt, sRtN, sIf, sNx, sEx, evV, evC, evAnd, evOr, evNot, evIte, evOp, evCall, evNil, evCons, evTup, evLst, evBi, evIsi, evChain, evSqT, evSqL, evSlice, evNo, evSo, asInt, pick, gNm, gTp, gLs, gsCons, gsNil, Out.bind, noX, cmpF, binF, isiD, tyName, isSub, ordD, isD, lenD, subscD, seqOf, intD, absD, str_inj, sP2, sP3, Q, Nd.d, a40, a41, eqII, hst, addD, Nd.len]
    rw [List.map_cons]
    simp only [forL, t, Out.bind, b, e, spots, tot, List.append_assoc, List.singleton_append]
theorem c_way {ρ : Sls} {l : Nat} {P : List Int} {e : Int} {d : D} (h21 : ρ[21]? = some (.v d)) (h4 : ρ[4]? = some (.v (.int e))) (h17 : ρ[17]? = some (.v (.cell l))) (hl : μ[l]? = some (.lst (P.map .int))) (hw : wOk P.length d) : ce__law_laid_2 ρ μ = .ok (.int (goI P e d)) μ := by
  rcases hw with rfl | rfl | rfl | ⟨k, rfl, hk⟩
  · exact k_iteT (μ1 := μ) (by simp [evOr, evOp, evV, h21, evC, Out.bind, cmpF, isD, isNone]) rfl
  · exact k_iteT (μ1 := μ) (by simp [evOr, evOp, evV, h21, evC, Out.bind, cmpF, isD, isNone, eqStr]) (by simp [goI, evC, str_inj])
  · refine k_iteF (μ1 := μ) (by simp [evOr, evOp, evV, h21, evC, Out.bind, cmpF, isD, isNone, eqStr, str_inj]) (k_iteT (μ1 := μ) (by simp [evOp, evV, h21, evC, Out.bind, cmpF, eqStr]) (by simp [evV, h4, goI]))
  · refine k_iteF (μ1 := μ) (by simp [evOr, evOp, evV, h21, evC, Out.bind, cmpF, isD, isNone, eqIS _ _ _ lay_end]) (k_iteF (μ1 := μ) (by simp [evOp, evV, h21, evC, Out.bind, cmpF, eqIS _ _ _ lay_ever]) ?_)
    have ha : L2.atI (P.map D.int) (k : Int) = some (.int (P.getD k 0)) := by
      have h0 : (0 : Int) ≤ k := by omega
      have h1 : (k : Int) < (P.map D.int).length := by simp; omega
      unfold L2.atI L2.ixN
      rw [if_pos h0, if_pos h1]
      simp [List.getElem?_eq_getElem hk, List.getD_eq_getElem?_getD]
    simp [evOp, evV, h17, h21, Out.bind, subscD, seqOf, hl, ha, goI]
theorem l_rows (hP : ∀ n ∈ ns, clOk n) {P : List Int} (hw : ∀ n ∈ ns, ndOk P.length n) {l : Nat} {e z : Int} (hl : μ[l]? = some (.lst (P.map .int))) : ∀ (rs : List Nd) (xs : List D) (x5 x7 x8 x12 x15 x16 : Sl), (∀ n ∈ rs, n ∈ ns) → xs.length + 6 * rs.length ≤ 60000 → ∃ y5 y7 y8 y12 y15 y16, forL lt__law_laid_3 lb__law_laid_3 (rs.map Nd.d) (Q w c (.v (.int z)) x3 (.v (.int e)) x5 (.v (.lst xs)) x7 x8 x9 x10 x11 x12 x13 x14 x15 x16 (.v (.cell l)) x18 x19) μ =
    .ok (.nx, Q w c (.v (.int z)) x3 (.v (.int e)) y5 (.v (.lst (xs ++ (rs.flatMap (rowI P e z)).map .int))) y7 y8 x9 x10 x11 y12 x13 x14 y15 y16 (.v (.cell l)) x18 x19) μ
  | [], xs, x5, x7, x8, x12, x15, x16, _, _ => ⟨x5, x7, x8, x12, x15, x16, by simp [forL]⟩
  | n :: rs, xs, x5, x7, x8, x12, x15, x16, hr, h => by
    rw [List.length_cons] at h
    have hn := hr n (List.mem_cons_self ..)
    have hlen := row_len P e z n
    obtain ⟨w1, w2⟩ := hw n hn
    let pr : D := .lst [.int (mv z n.s), .int (mv z n.t)]
    let go : D := .lst [.int (goI P e n.l), .int (goI P e n.h)]
    obtain ⟨y5, y7, y8, y12, y15, y16, e2⟩ := l_rows hP hw hl rs (xs ++ (rowI P e z n).map .int) (.v (.int n.s)) (.v go) (.v n.h) (.v n.l) (.v pr) (.v (.int n.t)) (fun m hm => hr m (List.mem_cons_of_mem _ hm)) (by simp; omega)
    refine ⟨y5, y7, y8, y12, y15, y16, ?_⟩
    have t : lt__law_laid_3 n.d (Q w c (.v (.int z)) x3 (.v (.int e)) x5 (.v (.lst xs)) x7 x8 x9 x10 x11 x12 x13 x14 x15 x16 (.v (.cell l)) x18 x19) μ = .ok (Q w c (.v (.int z)) x3 (.v (.int e)) (.v (.int n.s)) (.v (.lst xs)) x7 (.v n.h) x9 x10 x11 (.v n.l) x13 x14 x15 (.v (.int n.t)) (.v (.cell l)) x18 x19) μ := by simp [finF, stS, sSq, sAs, sRt, sRtN, sIf, sNx, sEx, evV, evC, evAnd, evOr, evNot, evIte, evOp, evCall, evNil, evCons, evTup, evLst, evBi, evIsi, evChain, evSqT, evSqL, evSlice, evNo, evSo, asInt, pick, gNm, gTp, gLs, gsCons, gsNil, Out.bind, noX, cmpF, binF, isiD, tyName, isSub, ordD, isD, lenD, subscD, seqOf, intD, absD, str_inj, sP2, sP3, Q, Nd.d]
    have b : lb__law_laid_3 (Q w c (.v (.int z)) x3 (.v (.int e)) (.v (.int n.s)) (.v (.lst xs)) x7 (.v n.h) x9 x10 x11 (.v n.l) x13 x14 x15 (.v (.int n.t)) (.v (.cell l)) x18 x19) μ =
        .ok (.nx, Q w c (.v (.int z)) x3 (.v (.int e)) (.v (.int n.s)) (.v (.lst (xs ++ (rowI P e z n).map .int))) (.v go) (.v n.h) x9 x10 x11 (.v n.l) x13 x14 (.v pr) (.v (.int n.t)) (.v (.cell l)) x18 x19) μ := by
      refine nx_seq (ρ1 := Q w c (.v (.int z)) x3 (.v (.int e)) (.v (.int n.s)) (.v (.lst xs)) x7 (.v n.h) x9 x10 x11 (.v n.l) x13 x14 (.v pr) (.v (.int n.t)) (.v (.cell l)) x18 x19) (μ1 := μ) ?_ (nx_seq (ρ1 := Q w c (.v (.int z)) x3 (.v (.int e)) (.v (.int n.s)) (.v (.lst xs)) (.v go) (.v n.h) x9 x10 x11 (.v n.l) x13 x14 (.v pr) (.v (.int n.t)) (.v (.cell l)) x18 x19) (μ1 := μ) ?_ ?_)
      · have q : ∀ i : Int, ce__law_laid_1 ((Q w c (.v (.int z)) x3 (.v (.int e)) (.v (.int n.s)) (.v (.lst xs)) x7 (.v n.h) x9 x10 x11 (.v n.l) x13 x14 x15 (.v (.int n.t)) (.v (.cell l)) x18 x19).set 20 (.v (.int i))) μ = .ok (.int (mv z i)) μ := fun i => by
          by_cases hi : i < 1000
          · simp [finF, stS, sSq, sAs, sRt, sRtN, sIf, sNx, sEx, evV, evC, evAnd, evOr, evNot, evIte, evOp, evCall, evNil, evCons, evTup, evLst, evBi, evIsi, evChain, evSqT, evSqL, evSlice, evNo, evSo, asInt, pick, gNm, gTp, gLs, gsCons, gsNil, Out.bind, noX, cmpF, binF, isiD, tyName, isSub, ordD, isD, lenD, subscD, seqOf, intD, absD, str_inj, sP2, sP3, Q, hi, addD, mv]
          · simp [finF, stS, sSq, sAs, sRt, sRtN, sIf, sNx, sEx, evV, evC, evAnd, evOr, evNot, evIte, evOp, evCall, evNil, evCons, evTup, evLst, evBi, evIsi, evChain, evSqT, evSqL, evSlice, evNo, evSo, asInt, pick, gNm, gTp, gLs, gsCons, gsNil, Out.bind, noX, cmpF, binF, isiD, tyName, isSub, ordD, isD, lenD, subscD, seqOf, intD, absD, str_inj, sP2, sP3, Q, hi, addD, mv]
        refine n_as (d := pr) ?_
        have hz2 : [D.int n.s, .int n.t].length ≤ sizeLine := szl (by simp)
        have it : evSqT (evTup (evCons (evV 5) (evCons (evV 16) evNil))) (Q w c (.v (.int z)) x3 (.v (.int e)) (.v (.int n.s)) (.v (.lst xs)) x7 (.v n.h) x9 x10 x11 (.v n.l) x13 x14 x15 (.v (.int n.t)) (.v (.cell l)) x18 x19) μ = .ok [.int n.s, .int n.t] μ := by simp [finF, stS, sSq, sAs, sRt, sRtN, sIf, sNx, sEx, evV, evC, evAnd, evOr, evNot, evIte, evOp, evCall, evNil, evCons, evTup, evLst, evBi, evIsi, evChain, evSqT, evSqL, evSlice, evNo, evSo, asInt, pick, gNm, gTp, gLs, gsCons, gsNil, Out.bind, noX, cmpF, binF, isiD, tyName, isSub, ordD, isD, lenD, subscD, seqOf, intD, absD, str_inj, sP2, sP3, Q, sizeLine_eq]
        have wp : ∀ i : Int, (wipeS (Q w c (.v (.int z)) x3 (.v (.int e)) (.v (.int n.s)) (.v (.lst xs)) x7 (.v n.h) x9 x10 x11 (.v n.l) x13 x14 x15 (.v (.int n.t)) (.v (.cell l)) x18 x19) [20]).set 20 (.v (.int i)) = (Q w c (.v (.int z)) x3 (.v (.int e)) (.v (.int n.s)) (.v (.lst xs)) x7 (.v n.h) x9 x10 x11 (.v n.l) x13 x14 x15 (.v (.int n.t)) (.v (.cell l)) x18 x19).set 20 (.v (.int i)) := fun _ => rfl
        simp only [evLc, it, Out.bind, if_pos hz2, lcL, gNm, wp, evC, noX, q]
        rfl
      · refine n_as (d := go) ?_
        have hz2 : [n.l, n.h].length ≤ sizeLine := szl (by simp)
        have it : evSqT (evTup (evCons (evV 12) (evCons (evV 8) evNil))) (Q w c (.v (.int z)) x3 (.v (.int e)) (.v (.int n.s)) (.v (.lst xs)) x7 (.v n.h) x9 x10 x11 (.v n.l) x13 x14 (.v pr) (.v (.int n.t)) (.v (.cell l)) x18 x19) μ = .ok [n.l, n.h] μ := by simp [finF, stS, sSq, sAs, sRt, sRtN, sIf, sNx, sEx, evV, evC, evAnd, evOr, evNot, evIte, evOp, evCall, evNil, evCons, evTup, evLst, evBi, evIsi, evChain, evSqT, evSqL, evSlice, evNo, evSo, asInt, pick, gNm, gTp, gLs, gsCons, gsNil, Out.bind, noX, cmpF, binF, isiD, tyName, isSub, ordD, isD, lenD, subscD, seqOf, intD, absD, str_inj, sP2, sP3, Q, sizeLine_eq]
        have q : ∀ d : D, wOk P.length d → ce__law_laid_2 ((wipeS (Q w c (.v (.int z)) x3 (.v (.int e)) (.v (.int n.s)) (.v (.lst xs)) x7 (.v n.h) x9 x10 x11 (.v n.l) x13 x14 (.v pr) (.v (.int n.t)) (.v (.cell l)) x18 x19) [21]).set 21 (.v d)) μ = .ok (.int (goI P e d)) μ := fun d hd => c_way rfl rfl rfl hl hd
        have q1 := q n.l w1
        have q2 := q n.h w2
        simp only [evLc, it, Out.bind, if_pos hz2, lcL, gNm, evC, noX, q1, q2]
        rfl
      · have s1 : cutD [D.int (goI P e n.l), .int (goI P e n.h)] none (some 1) = [.int (goI P e n.l)] := rfl
        have g1 : L2.atI [D.int (goI P e n.l), .int (goI P e n.h)] 1 = some (.int (goI P e n.h)) := rfl
        have h1 : xs.length + 2 ≤ sizeLine := by rw [sizeLine_eq]; omega
        have h2 : xs.length + (2 + 1) ≤ sizeLine := by rw [sizeLine_eq]; omega
        have h3 : xs.length + (2 + 1 + 3) ≤ sizeLine := by rw [sizeLine_eq]; omega
        have h4 : xs.length + (2 + 1 + 0) ≤ sizeLine := by rw [sizeLine_eq]; omega
        have A1 : addD (.lst xs) pr = some (.lst (xs ++ [.int (mv z n.s), .int (mv z n.t)])) := if_pos (szl (by simp; omega))
        have A2 : addD (.lst (xs ++ [.int (mv z n.s), .int (mv z n.t)])) (.lst [.int (goI P e n.l)]) = some (.lst (xs ++ [.int (mv z n.s), .int (mv z n.t)] ++ [.int (goI P e n.l)])) := if_pos (szl (by simp; omega))
        have A3 : addD (.lst (xs ++ [.int (mv z n.s), .int (mv z n.t)] ++ [.int (goI P e n.l)])) (.lst [.int z, .int z, .int (goI P e n.h)]) = some (.lst (xs ++ [.int (mv z n.s), .int (mv z n.t)] ++ [.int (goI P e n.l)] ++ [.int z, .int z, .int (goI P e n.h)])) := if_pos (szl (by simp; omega))
        have A4 : addD (.lst (xs ++ [.int (mv z n.s), .int (mv z n.t)] ++ [.int (goI P e n.l)])) (.lst []) = some (.lst (xs ++ [.int (mv z n.s), .int (mv z n.t)] ++ [.int (goI P e n.l)] ++ [])) := if_pos (szl (by simp; omega))
        by_cases hst : n.s = n.t
        · have hrow : (rowI P e z n).map D.int = [.int (mv z n.s), .int (mv z n.t), .int (goI P e n.l)] := by simp [rowI, hst]
          rw [hrow]
          refine n_as (k_op (k_op (k_op (rfl : evV 6 _ μ = .ok (.lst xs) μ) (rfl : evV 15 _ μ = .ok pr μ) A1) (y := .lst [.int (goI P e n.l)]) (μ1 := μ) (by simp [finF, stS, sSq, sAs, sRt, sRtN, sIf, sNx, sEx, evV, evC, evAnd, evOr, evNot, evIte, evOp, evCall, evNil, evCons, evTup, evLst, evBi, evIsi, evChain, evSqT, evSqL, evSlice, evNo, evSo, asInt, pick, gNm, gTp, gLs, gsCons, gsNil, Out.bind, noX, cmpF, binF, isiD, tyName, isSub, ordD, isD, lenD, subscD, seqOf, intD, absD, str_inj, sP2, sP3, Q, go, sliceD, s1]) A2) (y := .lst []) (μ1 := μ) (k_iteF (μ1 := μ) (by simp [finF, stS, sSq, sAs, sRt, sRtN, sIf, sNx, sEx, evV, evC, evAnd, evOr, evNot, evIte, evOp, evCall, evNil, evCons, evTup, evLst, evBi, evIsi, evChain, evSqT, evSqL, evSlice, evNo, evSo, asInt, pick, gNm, gTp, gLs, gsCons, gsNil, Out.bind, noX, cmpF, binF, isiD, tyName, isSub, ordD, isD, lenD, subscD, seqOf, intD, absD, str_inj, sP2, sP3, Q, neII, hst]) (by simp [finF, stS, sSq, sAs, sRt, sRtN, sIf, sNx, sEx, evV, evC, evAnd, evOr, evNot, evIte, evOp, evCall, evNil, evCons, evTup, evLst, evBi, evIsi, evChain, evSqT, evSqL, evSlice, evNo, evSo, asInt, pick, gNm, gTp, gLs, gsCons, gsNil, Out.bind, noX, cmpF, binF, isiD, tyName, isSub, ordD, isD, lenD, subscD, seqOf, intD, absD, str_inj, sP2, sP3, sizeLine_eq])) (A4.trans (by simp)))
        · have hrow : (rowI P e z n).map D.int = [.int (mv z n.s), .int (mv z n.t), .int (goI P e n.l), .int z, .int z, .int (goI P e n.h)] := by simp [rowI, hst]
          rw [hrow]
          refine n_as (k_op (k_op (k_op (rfl : evV 6 _ μ = .ok (.lst xs) μ) (rfl : evV 15 _ μ = .ok pr μ) A1) (y := .lst [.int (goI P e n.l)]) (μ1 := μ) (by simp [finF, stS, sSq, sAs, sRt, sRtN, sIf, sNx, sEx, evV, evC, evAnd, evOr, evNot, evIte, evOp, evCall, evNil, evCons, evTup, evLst, evBi, evIsi, evChain, evSqT, evSqL, evSlice, evNo, evSo, asInt, pick, gNm, gTp, gLs, gsCons, gsNil, Out.bind, noX, cmpF, binF, isiD, tyName, isSub, ordD, isD, lenD, subscD, seqOf, intD, absD, str_inj, sP2, sP3, Q, go, sliceD, s1]) A2) (y := .lst [.int z, .int z, .int (goI P e n.h)]) (μ1 := μ) (k_iteT (μ1 := μ) (by simp [finF, stS, sSq, sAs, sRt, sRtN, sIf, sNx, sEx, evV, evC, evAnd, evOr, evNot, evIte, evOp, evCall, evNil, evCons, evTup, evLst, evBi, evIsi, evChain, evSqT, evSqL, evSlice, evNo, evSo, asInt, pick, gNm, gTp, gLs, gsCons, gsNil, Out.bind, noX, cmpF, binF, isiD, tyName, isSub, ordD, isD, lenD, subscD, seqOf, intD, absD, str_inj, sP2, sP3, Q, neII, hst]) (by simp [finF, stS, sSq, sAs, sRt, sRtN, sIf, sNx, sEx, evV, evC, evAnd, evOr, evNot, evIte, evOp, evCall, evNil, evCons, evTup, evLst, evBi, evIsi, evChain, evSqT, evSqL, evSlice, evNo, evSo, asInt, pick, gNm, gTp, gLs, gsCons, gsNil, Out.bind, noX, cmpF, binF, isiD, tyName, isSub, ordD, isD, lenD, subscD, seqOf, intD, absD, str_inj, sP2, sP3, Q, go, g1, sizeLine_eq])) (A3.trans (by simp)))
    rw [List.append_assoc] at e2
    rw [List.map_cons]
    simp only [forL, t, Out.bind, b, List.flatMap_cons, List.map_append]
    exact e2
end
theorem m_law_laid {μ : Mem} {st : D} {ns : List Nd} {cs : List D} (W : WOk st ns) (hz : cs.length ≤ 60000) : F__law_laid [webD st ns, .tup cs] μ = .ok (imgD st ns cs) (μ ++ [.lst ((spots 0 ns).map .int)]) := by
  have hns := W.z
  let ND : D := .tup (ns.map Nd.d)
  let ws : List D := st :: ns.flatMap fun n => [n.l, n.h]
  let ev := waysEver st ns
  let en := isEnd st
  let M : Mem := μ ++ [.lst ((spots 0 ns).map .int)]
  let P := spots 0 ns
  let e0 := tot 0 ns
  let z := zI st ns
  let a2 := a2I st ns
  let B := ns.flatMap (rowI P e0 z)
  let E := if waysEver st ns then [z, z, e0] else []
  let T := if isEnd st then [z, z, 1023] else []
  have hB : B.length ≤ 30000 := by have := flat_len P e0 z ns; show (ns.flatMap _).length ≤ _; omega
  have hE : E.length ≤ 3 := by show (if waysEver st ns then [z, z, e0] else []).length ≤ 3; split <;> simp
  have hT : T.length ≤ 3 := by show (if isEnd st then [z, z, 1023] else []).length ≤ 3; split <;> simp
  obtain ⟨y13, lw⟩ := l_ways (μ := μ) (w := .v (webD st ns)) (c := .v (.tup cs)) (x2 := .un) (x3 := .un) (x4 := .un) (x5 := .un) (x6 := .un) (x7 := .un) (x8 := .un) (x9 := .un) (x10 := .un) (x11 := .un) (x12 := .un) (x14 := .v ND) (x15 := .un) (x16 := .un) (x17 := .un) (x18 := .v st) ns [st] .un (by simp; omega)
  obtain ⟨y13', ls⟩ := l_spots (μ := μ) (w := .v (webD st ns)) (c := .v (.tup cs)) (x3 := .un) (x4 := .un) (x5 := .un) (x6 := .un) (x7 := .un) (x8 := .un) (x9 := .v (.bl en)) (x10 := .v (.bl ev)) (x11 := .un) (x12 := .un) (x14 := .v ND) (x15 := .un) (x16 := .un) (x18 := .v st) (x19 := .v (.lst ws)) ns [] 0 y13 (by simp; omega)
  have hP : P.length = ns.length := spots_len _ _
  have hM : M[μ.length]? = some (.lst (P.map .int)) := by show (μ ++ _)[μ.length]? = _; rw [ga0]; rfl
  obtain ⟨y5, y7, y8, y12, y15, y16, lr⟩ := l_rows (μ := M) (ns := ns) (w := .v (webD st ns)) (c := .v (.tup cs)) (x3 := .un) (x9 := .v (.bl en)) (x10 := .v (.bl ev)) (x11 := .v (.int a2)) (x13 := y13') (x14 := .v ND) (x18 := .v st) (x19 := .v (.lst ws)) W.c (P := P) (by rw [hP]; exact W.w) (l := μ.length) (e := e0) (z := z) hM ns [] .un .un .un .un .un .un (fun _ h => h) (by simp; omega)
  rw [List.nil_append] at ls lr
  have st3 : stS N__law_laid [webD st ns, .tup cs] = Q (.v (webD st ns)) (.v (.tup cs)) .un .un .un .un .un .un .un .un .un .un .un .un .un .un .un .un .un .un := rfl
  show finF N__law_laid es__law_laid _ μ = _
  refine r_fin (r_seq (ρ1 := Q (.v (webD st ns)) (.v (.tup cs)) .un .un .un .un .un .un .un .un .un .un .un .un (.v ND) .un .un .un (.v st) .un) (μ1 := μ) ?_
    (r_seq (ρ1 := Q (.v (webD st ns)) (.v (.tup cs)) .un .un .un .un .un .un .un .un .un .un .un .un (.v ND) .un .un .un (.v st) (.v (.lst [st]))) (μ1 := μ) ?_
    (r_seq (ρ1 := Q (.v (webD st ns)) (.v (.tup cs)) .un .un .un .un .un .un .un .un .un .un .un y13 (.v ND) .un .un .un (.v st) (.v (.lst ws))) (μ1 := μ) ?_
    (r_seq (ρ1 := Q (.v (webD st ns)) (.v (.tup cs)) .un .un .un .un .un .un .un (.v (.bl en)) (.v (.bl ev)) .un .un y13 (.v ND) .un .un .un (.v st) (.v (.lst ws))) (μ1 := μ) ?_
    (r_seq (ρ1 := Q (.v (webD st ns)) (.v (.tup cs)) (.v (.int 0)) .un .un .un .un .un .un (.v (.bl en)) (.v (.bl ev)) .un .un y13 (.v ND) .un .un (.v (.cell μ.length)) (.v st) (.v (.lst ws))) (μ1 := μ ++ [.lst []]) ?_
    (r_seq (ρ1 := Q (.v (webD st ns)) (.v (.tup cs)) (.v (.int e0)) .un .un .un .un .un .un (.v (.bl en)) (.v (.bl ev)) .un .un y13' (.v ND) .un .un (.v (.cell μ.length)) (.v st) (.v (.lst ws))) (μ1 := M) ?_
    (r_seq (ρ1 := Q (.v (webD st ns)) (.v (.tup cs)) (.v (.int a2)) .un (.v (.int e0)) .un .un .un .un (.v (.bl en)) (.v (.bl ev)) .un .un y13' (.v ND) .un .un (.v (.cell μ.length)) (.v st) (.v (.lst ws))) (μ1 := M) ?_
    (r_seq (ρ1 := Q (.v (webD st ns)) (.v (.tup cs)) (.v (.int z)) .un (.v (.int e0)) .un .un .un .un (.v (.bl en)) (.v (.bl ev)) (.v (.int a2)) .un y13' (.v ND) .un .un (.v (.cell μ.length)) (.v st) (.v (.lst ws))) (μ1 := M) ?_
    (r_seq (ρ1 := Q (.v (webD st ns)) (.v (.tup cs)) (.v (.int z)) .un (.v (.int e0)) .un (.v (.lst [])) .un .un (.v (.bl en)) (.v (.bl ev)) (.v (.int a2)) .un y13' (.v ND) .un .un (.v (.cell μ.length)) (.v st) (.v (.lst ws))) (μ1 := M) ?_
    (r_seq (ρ1 := Q (.v (webD st ns)) (.v (.tup cs)) (.v (.int z)) .un (.v (.int e0)) y5 (.v (.lst (B.map .int))) y7 y8 (.v (.bl en)) (.v (.bl ev)) (.v (.int a2)) y12 y13' (.v ND) y15 y16 (.v (.cell μ.length)) (.v st) (.v (.lst ws))) (μ1 := M) ?_
    (r_seq (ρ1 := Q (.v (webD st ns)) (.v (.tup cs)) (.v (.int z)) .un (.v (.int e0)) y5 (.v (.lst ((B ++ E ++ T).map .int))) y7 y8 (.v (.bl en)) (.v (.bl ev)) (.v (.int a2)) y12 y13' (.v ND) y15 y16 (.v (.cell μ.length)) (.v st) (.v (.lst ws))) (μ1 := M) ?_
    (r_seq (ρ1 := Q (.v (webD st ns)) (.v (.tup cs)) (.v (.int z)) (.v (.int (entryI st ns))) (.v (.int e0)) y5 (.v (.lst ((B ++ E ++ T).map .int))) y7 y8 (.v (.bl en)) (.v (.bl ev)) (.v (.int a2)) y12 y13' (.v ND) y15 y16 (.v (.cell μ.length)) (.v st) (.v (.lst ws))) (μ1 := M) ?_
    (r_ret ?_)))))))))))))
  · rw [st3]
    simp [finF, stS, sSq, sAs, sRt, sRtN, sIf, sNx, sEx, evV, evC, evAnd, evOr, evNot, evIte, evOp, evCall, evNil, evCons, evTup, evLst, evBi, evIsi, evChain, evSqT, evSqL, evSlice, evNo, evSo, asInt, pick, gNm, gTp, gLs, gsCons, gsNil, Out.bind, noX, cmpF, binF, isiD, tyName, isSub, ordD, isD, lenD, subscD, seqOf, intD, absD, str_inj, sP2, sP3, Q, webD, at0, at1, ND]
  · simp [finF, stS, sSq, sAs, sRt, sRtN, sIf, sNx, sEx, evV, evC, evAnd, evOr, evNot, evIte, evOp, evCall, evNil, evCons, evTup, evLst, evBi, evIsi, evChain, evSqT, evSqL, evSlice, evNo, evSo, asInt, pick, gNm, gTp, gLs, gsCons, gsNil, Out.bind, noX, cmpF, binF, isiD, tyName, isSub, ordD, isD, lenD, subscD, seqOf, intD, absD, str_inj, sP2, sP3, Q, sizeLine_eq]
  · have q : evSqT (evV 14) (Q (.v (webD st ns)) (.v (.tup cs)) .un .un .un .un .un .un .un .un .un .un .un .un (.v ND) .un .un .un (.v st) (.v (.lst [st]))) μ = .ok (ns.map Nd.d) μ := rfl
    simp only [sFor, q, Out.bind]
    exact lw
  · have e4 := in_ways (μ := μ) W.s W.w
    have e5 := eq_start W.s μ
    simp [finF, stS, sSq, sAs, sRt, sRtN, sIf, sNx, sEx, evV, evC, evAnd, evOr, evNot, evIte, evOp, evCall, evNil, evCons, evTup, evLst, evBi, evIsi, evChain, evSqT, evSqL, evSlice, evNo, evSo, asInt, pick, gNm, gTp, gLs, gsCons, gsNil, Out.bind, noX, cmpF, binF, isiD, tyName, isSub, ordD, isD, lenD, subscD, seqOf, intD, absD, str_inj, sP2, sP3, Q, ws, e4, e5, ev, en]
  · simp [finF, stS, sSq, sAs, sRt, sRtN, sIf, sNx, sEx, evV, evC, evAnd, evOr, evNot, evIte, evOp, evCall, evNil, evCons, evTup, evLst, evBi, evIsi, evChain, evSqT, evSqL, evSlice, evNo, evSo, asInt, pick, gNm, gTp, gLs, gsCons, gsNil, Out.bind, noX, cmpF, binF, isiD, tyName, isSub, ordD, isD, lenD, subscD, seqOf, intD, absD, str_inj, sP2, sP3, Q, evLstC, sizeLine_eq]
  · have q : ∀ μ, evSqT (evV 14) (Q (.v (webD st ns)) (.v (.tup cs)) (.v (.int 0)) .un .un .un .un .un .un (.v (.bl en)) (.v (.bl ev)) .un .un y13 (.v ND) .un .un (.v (.cell μ.length)) (.v st) (.v (.lst ws))) (μ ++ [.lst []]) = .ok (ns.map Nd.d) (μ ++ [.lst []]) := fun _ => rfl
    simp only [sFor, q, Out.bind]
    exact ls
  · have key : evOp (fun _ => binF .Add) (evV 2) (evIte (evV 10) (evC (.int 3)) (evC (.int 0))) (Q (.v (webD st ns)) (.v (.tup cs)) (.v (.int e0)) .un .un .un .un .un .un (.v (.bl en)) (.v (.bl ev)) .un .un y13' (.v ND) .un .un (.v (.cell μ.length)) (.v st) (.v (.lst ws))) M = .ok (.int a2) M := by
      rcases Bool.eq_false_or_eq_true (waysEver st ns) with q | q
      · exact k_op (x := .int e0) (y := .int 3) (μ1 := M) rfl (k_iteT (μ1 := M) (by show evV 10 _ M = _; rw [← q]; rfl) rfl) (by simp [binF, addD, a2, a2I, q, e0])
      · exact k_op (x := .int e0) (y := .int 0) (μ1 := M) rfl (k_iteF (μ1 := M) (by show evV 10 _ M = _; rw [← q]; rfl) rfl) (by simp [binF, addD, a2, a2I, q, e0])
    have hz2 : [D.int e0, .int a2].length ≤ sizeLine := szl (by simp)
    have v2 : evV 2 (Q (.v (webD st ns)) (.v (.tup cs)) (.v (.int e0)) .un .un .un .un .un .un (.v (.bl en)) (.v (.bl ev)) .un .un y13' (.v ND) .un .un (.v (.cell μ.length)) (.v st) (.v (.lst ws))) M = .ok (.int e0) M := rfl
    simp only [sAs, evTup, evCons, v2, key, evNil, Out.bind, if_pos hz2]
    rfl
  · have key : evOp (fun _ => binF .Add) (evV 2) (evIte (evV 9) (evC (.int 3)) (evC (.int 0))) (Q (.v (webD st ns)) (.v (.tup cs)) (.v (.int a2)) .un (.v (.int e0)) .un .un .un .un (.v (.bl en)) (.v (.bl ev)) .un .un y13' (.v ND) .un .un (.v (.cell μ.length)) (.v st) (.v (.lst ws))) M = .ok (.int z) M := by
      rcases Bool.eq_false_or_eq_true (isEnd st) with q | q
      · exact k_op (x := .int a2) (y := .int 3) (μ1 := M) rfl (k_iteT (μ1 := M) (by show evV 9 _ M = _; rw [← q]; rfl) rfl) (by simp [binF, addD, z, zI, q, a2])
      · exact k_op (x := .int a2) (y := .int 0) (μ1 := M) rfl (k_iteF (μ1 := M) (by show evV 9 _ M = _; rw [← q]; rfl) rfl) (by simp [binF, addD, z, zI, q, a2])
    have hz2 : [D.int a2, .int z].length ≤ sizeLine := szl (by simp)
    have v2 : evV 2 (Q (.v (webD st ns)) (.v (.tup cs)) (.v (.int a2)) .un (.v (.int e0)) .un .un .un .un (.v (.bl en)) (.v (.bl ev)) .un .un y13' (.v ND) .un .un (.v (.cell μ.length)) (.v st) (.v (.lst ws))) M = .ok (.int a2) M := rfl
    simp only [sAs, evTup, evCons, v2, key, evNil, Out.bind, if_pos hz2]
    rfl
  · simp [finF, stS, sSq, sAs, sRt, sRtN, sIf, sNx, sEx, evV, evC, evAnd, evOr, evNot, evIte, evOp, evCall, evNil, evCons, evTup, evLst, evBi, evIsi, evChain, evSqT, evSqL, evSlice, evNo, evSo, asInt, pick, gNm, gTp, gLs, gsCons, gsNil, Out.bind, noX, cmpF, binF, isiD, tyName, isSub, ordD, isD, lenD, subscD, seqOf, intD, absD, str_inj, sP2, sP3, Q, sizeLine_eq]
  · have q : evSqT (evV 14) (Q (.v (webD st ns)) (.v (.tup cs)) (.v (.int z)) .un (.v (.int e0)) .un (.v (.lst [])) .un .un (.v (.bl en)) (.v (.bl ev)) (.v (.int a2)) .un y13' (.v ND) .un .un (.v (.cell μ.length)) (.v st) (.v (.lst ws))) M = .ok (ns.map Nd.d) M := rfl
    simp only [sFor, q, Out.bind]
    exact lr
  · have A1 : addD (.lst (B.map .int)) (.lst (E.map .int)) = some (.lst (B.map .int ++ E.map .int)) := if_pos (szl (by simp; omega))
    have A2 : addD (.lst (B.map .int ++ E.map .int)) (.lst (T.map .int)) = some (.lst (B.map .int ++ E.map .int ++ T.map .int)) := if_pos (szl (by simp; omega))
    refine n_as (k_op (k_op (rfl : evV 6 _ M = .ok (.lst (B.map .int)) M) (y := .lst (E.map .int)) (μ1 := M) ?_ A1) (y := .lst (T.map .int)) (μ1 := M) ?_ (A2.trans (by simp)))
    · rcases Bool.eq_false_or_eq_true (waysEver st ns) with q | q
      · have hE' : E = [z, z, e0] := by show (if waysEver st ns then _ else _) = _; rw [q]; rfl
        rw [hE']
        exact k_iteT (μ1 := M) (by show evV 10 _ M = _; rw [← q]; rfl) (by simp [finF, stS, sSq, sAs, sRt, sRtN, sIf, sNx, sEx, evV, evC, evAnd, evOr, evNot, evIte, evOp, evCall, evNil, evCons, evTup, evLst, evBi, evIsi, evChain, evSqT, evSqL, evSlice, evNo, evSo, asInt, pick, gNm, gTp, gLs, gsCons, gsNil, Out.bind, noX, cmpF, binF, isiD, tyName, isSub, ordD, isD, lenD, subscD, seqOf, intD, absD, str_inj, sP2, sP3, Q, sizeLine_eq])
      · have hE' : E = [] := by show (if waysEver st ns then _ else _) = _; rw [q]; rfl
        rw [hE']
        exact k_iteF (μ1 := M) (by show evV 10 _ M = _; rw [← q]; rfl) (by simp [finF, stS, sSq, sAs, sRt, sRtN, sIf, sNx, sEx, evV, evC, evAnd, evOr, evNot, evIte, evOp, evCall, evNil, evCons, evTup, evLst, evBi, evIsi, evChain, evSqT, evSqL, evSlice, evNo, evSo, asInt, pick, gNm, gTp, gLs, gsCons, gsNil, Out.bind, noX, cmpF, binF, isiD, tyName, isSub, ordD, isD, lenD, subscD, seqOf, intD, absD, str_inj, sP2, sP3, Q, sizeLine_eq])
    · rcases Bool.eq_false_or_eq_true (isEnd st) with q | q
      · have hT' : T = [z, z, 1023] := by show (if isEnd st then _ else _) = _; rw [q]; rfl
        rw [hT']
        exact k_iteT (μ1 := M) (by show evV 9 _ M = _; rw [← q]; rfl) (by simp [finF, stS, sSq, sAs, sRt, sRtN, sIf, sNx, sEx, evV, evC, evAnd, evOr, evNot, evIte, evOp, evCall, evNil, evCons, evTup, evLst, evBi, evIsi, evChain, evSqT, evSqL, evSlice, evNo, evSo, asInt, pick, gNm, gTp, gLs, gsCons, gsNil, Out.bind, noX, cmpF, binF, isiD, tyName, isSub, ordD, isD, lenD, subscD, seqOf, intD, absD, str_inj, sP2, sP3, Q, sizeLine_eq])
      · have hT' : T = [] := by show (if isEnd st then _ else _) = _; rw [q]; rfl
        rw [hT']
        exact k_iteF (μ1 := M) (by show evV 9 _ M = _; rw [← q]; rfl) (by simp [finF, stS, sSq, sAs, sRt, sRtN, sIf, sNx, sEx, evV, evC, evAnd, evOr, evNot, evIte, evOp, evCall, evNil, evCons, evTup, evLst, evBi, evIsi, evChain, evSqT, evSqL, evSlice, evNo, evSo, asInt, pick, gNm, gTp, gLs, gsCons, gsNil, Out.bind, noX, cmpF, binF, isiD, tyName, isSub, ordD, isD, lenD, subscD, seqOf, intD, absD, str_inj, sP2, sP3, Q, sizeLine_eq])
  · refine n_as (d := .int (entryI st ns)) ?_
    rcases Bool.eq_false_or_eq_true (isEnd st) with q | q
    · exact k_iteT (μ1 := M) (by show evV 9 _ M = _; rw [← q]; rfl) (by show _ = Out.ok (D.int (if isEnd st then a2I st ns else _)) M; rw [q]; rfl)
    · refine k_iteF (μ1 := M) (by show evV 9 _ M = _; rw [← q]; rfl) ?_
      have en' : entryI st ns = goI P e0 st := by simp [entryI, q, P, e0]
      rw [en']
      rcases W.s with rfl | rfl | ⟨k, rfl, hk⟩
      · simp [isEnd] at q
      · exact k_iteT (μ1 := M) (by simp [finF, stS, sSq, sAs, sRt, sRtN, sIf, sNx, sEx, evV, evC, evAnd, evOr, evNot, evIte, evOp, evCall, evNil, evCons, evTup, evLst, evBi, evIsi, evChain, evSqT, evSqL, evSlice, evNo, evSo, asInt, pick, gNm, gTp, gLs, gsCons, gsNil, Out.bind, noX, cmpF, binF, isiD, tyName, isSub, ordD, isD, lenD, subscD, seqOf, intD, absD, str_inj, sP2, sP3, Q, eqStr]) (by simp [goI]; rfl)
      · refine k_iteF (μ1 := M) (by simp [finF, stS, sSq, sAs, sRt, sRtN, sIf, sNx, sEx, evV, evC, evAnd, evOr, evNot, evIte, evOp, evCall, evNil, evCons, evTup, evLst, evBi, evIsi, evChain, evSqT, evSqL, evSlice, evNo, evSo, asInt, pick, gNm, gTp, gLs, gsCons, gsNil, Out.bind, noX, cmpF, binF, isiD, tyName, isSub, ordD, isD, lenD, subscD, seqOf, intD, absD, str_inj, sP2, sP3, Q, eqIS _ _ _ lay_ever]) ?_
        have hk' : k < P.length := by rw [hP]; exact hk
        have ha : L2.atI (P.map D.int) (k : Int) = some (.int (P.getD k 0)) := by
          have h0 : (0 : Int) ≤ k := by omega
          have h1 : (k : Int) < (P.map D.int).length := by simp; omega
          unfold L2.atI L2.ixN
          rw [if_pos h0, if_pos h1]
          simp [List.getElem?_eq_getElem hk', List.getD_eq_getElem?_getD]
        exact k_op (x := .cell μ.length) (y := .int k) (μ1 := M) rfl rfl (by simp [subscD, seqOf, hM, ha, goI])
  · let V : List Int := B ++ E ++ T
    have hV : V.length ≤ 30006 := by simp [V]; omega
    have A1 : addD (.lst (V.map .int)) (.lst [.int 0]) = some (.lst (V.map D.int ++ [D.int 0])) := if_pos (szl (by simp; omega))
    have A2 : addD (.lst (V.map D.int ++ [D.int 0])) (.lst cs) = some (.lst (V.map D.int ++ [D.int 0] ++ cs)) := if_pos (szl (by simp; omega))
    have k1 : evOp (fun _ => binF .Add) (evOp (fun _ => binF .Add) (evV 6) (evLst (evCons (evC (.int 0)) evNil))) (evBi listD (evCons (evV 1) evNil)) (Q (.v (webD st ns)) (.v (.tup cs)) (.v (.int z)) (.v (.int (entryI st ns))) (.v (.int e0)) y5 (.v (.lst (V.map .int))) y7 y8 (.v (.bl en)) (.v (.bl ev)) (.v (.int a2)) y12 y13' (.v ND) y15 y16 (.v (.cell μ.length)) (.v st) (.v (.lst ws))) M = .ok (.lst (V.map D.int ++ [D.int 0] ++ cs)) M :=
      k_op (k_op (rfl : evV 6 _ M = .ok (.lst (V.map .int)) M) (y := .lst [.int 0]) (μ1 := M) (by simp [finF, stS, sSq, sAs, sRt, sRtN, sIf, sNx, sEx, evV, evC, evAnd, evOr, evNot, evIte, evOp, evCall, evNil, evCons, evTup, evLst, evBi, evIsi, evChain, evSqT, evSqL, evSlice, evNo, evSo, asInt, pick, gNm, gTp, gLs, gsCons, gsNil, Out.bind, noX, cmpF, binF, isiD, tyName, isSub, ordD, isD, lenD, subscD, seqOf, intD, absD, str_inj, sP2, sP3, sizeLine_eq]) A1) (y := .lst cs) (μ1 := M) (by have hc1 : cs.length ≤ sizeLine := szl (by omega); simp [finF, stS, sSq, sAs, sRt, sRtN, sIf, sNx, sEx, evV, evC, evAnd, evOr, evNot, evIte, evOp, evCall, evNil, evCons, evTup, evLst, evBi, evIsi, evChain, evSqT, evSqL, evSlice, evNo, evSo, asInt, pick, gNm, gTp, gLs, gsCons, gsNil, Out.bind, noX, cmpF, binF, isiD, tyName, isSub, ordD, isD, lenD, subscD, seqOf, intD, absD, str_inj, sP2, sP3, Q, listD, hc1]) A2
    have hz3 : (V.map D.int ++ [D.int 0] ++ cs).length ≤ sizeLine := szl (by simp; omega)
    have hz2 : [D.tup (V.map D.int ++ [D.int 0] ++ cs), D.int (entryI st ns)].length ≤ sizeLine := szl (by simp)
    have tp : tupleD M [.lst (V.map D.int ++ [D.int 0] ++ cs)] = some (.tup (V.map D.int ++ [D.int 0] ++ cs)) := rfl
    have v3 : evV 3 (Q (.v (webD st ns)) (.v (.tup cs)) (.v (.int z)) (.v (.int (entryI st ns))) (.v (.int e0)) y5 (.v (.lst (V.map .int))) y7 y8 (.v (.bl en)) (.v (.bl ev)) (.v (.int a2)) y12 y13' (.v ND) y15 y16 (.v (.cell μ.length)) (.v st) (.v (.lst ws))) M = .ok (.int (entryI st ns)) M := rfl
    have k2 : evBi tupleD (evCons (evOp (fun _ => binF .Add) (evOp (fun _ => binF .Add) (evV 6) (evLst (evCons (evC (.int 0)) evNil))) (evBi listD (evCons (evV 1) evNil))) evNil) (Q (.v (webD st ns)) (.v (.tup cs)) (.v (.int z)) (.v (.int (entryI st ns))) (.v (.int e0)) y5 (.v (.lst (V.map .int))) y7 y8 (.v (.bl en)) (.v (.bl ev)) (.v (.int a2)) y12 y13' (.v ND) y15 y16 (.v (.cell μ.length)) (.v st) (.v (.lst ws))) M = .ok (.tup (V.map D.int ++ [D.int 0] ++ cs)) M := by
      simp only [evBi, evCons, k1, evNil, Out.bind, tp]
    have fin : evTup (evCons (evBi tupleD (evCons (evOp (fun _ => binF .Add) (evOp (fun _ => binF .Add) (evV 6) (evLst (evCons (evC (.int 0)) evNil))) (evBi listD (evCons (evV 1) evNil))) evNil)) (evCons (evV 3) evNil)) (Q (.v (webD st ns)) (.v (.tup cs)) (.v (.int z)) (.v (.int (entryI st ns))) (.v (.int e0)) y5 (.v (.lst (V.map .int))) y7 y8 (.v (.bl en)) (.v (.bl ev)) (.v (.int a2)) y12 y13' (.v ND) y15 y16 (.v (.cell μ.length)) (.v st) (.v (.lst ws))) M = .ok (.tup [.tup (V.map D.int ++ [D.int 0] ++ cs), .int (entryI st ns)]) M := by
      simp only [evTup, evCons, k2, v3, evNil, Out.bind, if_pos hz2]
    refine fin.trans ?_
    have e : V = bodyI st ns := rfl
    rw [e, imgD, List.append_assoc]
    rfl
end W74


set_option Elab.async false
set_option linter.all false
set_option maxRecDepth 100000
set_option maxHeartbeats 1000000
namespace W74
open PySem PyI

/-! ### drawn webs, typed -/
theorem typed_nodes {tp m : Int} : ∀ {xs : List D}, (∀ x ∈ xs, goodN tp m x) → ∃ ns : List Nd, xs = ns.map Nd.d ∧ ∀ n ∈ ns, GN tp m n.s n.t n.l n.h
  | [], _ => ⟨[], rfl, fun _ h => nomatch h⟩
  | x :: xs, h => by
    obtain ⟨ns, e, g⟩ := typed_nodes fun y hy => h y (List.mem_cons_of_mem _ hy)
    obtain ⟨i, j, l, hh, rfl, g1⟩ := h x (List.mem_cons_self ..)
    exact ⟨⟨i, j, l, hh⟩ :: ns, by rw [List.map_cons, e]; rfl, fun n hn => by
      rcases List.mem_cons.mp hn with rfl | hn
      · exact g1
      · exact g n hn⟩
structure TW (mo tp : Int) (st : D) (ns : List Nd) : Prop where
  l1 : 1 ≤ ns.length
  l2 : (ns.length : Int) ≤ mo
  s : goodW ns.length st
  n : ∀ n ∈ ns, GN tp ns.length n.s n.t n.l n.h
theorem typed {mo tp : Int} {w : D} (h : goodWeb mo tp w) : ∃ st ns, w = webD st ns ∧ TW mo tp st ns := by
  obtain ⟨st, xs, rfl, h1, h2, hs, hn⟩ := h
  obtain ⟨ns, rfl, g⟩ := typed_nodes hn
  rw [List.length_map] at *
  exact ⟨st, ns, rfl, h1, h2, hs, g⟩
theorem goodW_st {m : Nat} {d : D} (h : goodW m d) : stOk m d := by
  obtain ⟨h1, h2⟩ := h
  cases d with
  | str x =>
    have hx : x = "end" ∨ x = "ever" ∨ x = "off" ∨ x = "0" := by simpa [fsm] using h1
    rcases hx with rfl | rfl | rfl | rfl
    · exact .inl rfl
    · exact .inr (.inl rfl)
    · simp [goalB, endB, numB, str_inj] at h2
    · simp [goalB, endB, numB, str_inj] at h2
  | int i =>
    have h3 : 0 ≤ i ∧ i ≤ (m : Int) - 1 := by simpa [goalB, endB, numB] using h2
    exact .inr (.inr ⟨i.toNat, by congr 1; omega, by omega⟩)
  | _ => simp [goalB, endB, numB] at h2
theorem goodW_w {m : Nat} {d : D} (h : d = .non ∨ goodW m d) : wOk m d := by
  rcases h with rfl | h
  · exact .inl rfl
  · rcases goodW_st h with h | h | h
    · exact .inr (.inl h)
    · exact .inr (.inr (.inl h))
    · exact .inr (.inr (.inr h))
theorem TW.wok {mo tp : Int} {st : D} {ns : List Nd} (t : TW mo tp st ns) (h : tp ≤ 999) (hm : mo ≤ 4000) : WOk st ns :=
  ⟨goodW_st t.s, fun n hn => ⟨goodW_w (t.n n hn).wl, goodW_w (t.n n hn).wh⟩, fun n hn => by
    have a := (t.n n hn).si
    have b := (t.n n hn).sj
    exact ⟨by omega, by omega⟩, by have := t.l2; omega⟩
theorem TW.good {mo tp : Int} {st : D} {ns : List Nd} (t : TW mo tp st ns) : goodWeb mo tp (webD st ns) :=
  ⟨st, ns.map Nd.d, rfl, by rw [List.length_map]; exact t.l1, by rw [List.length_map]; exact t.l2, by rw [List.length_map]; exact t.s, fun x hx => by
    obtain ⟨n, hn, rfl⟩ := List.mem_map.mp hx
    rw [List.length_map]
    exact ⟨_, _, _, _, rfl, t.n n hn⟩⟩
theorem TW.fit {mo tp : Int} {st : D} {ns : List Nd} (t : TW mo tp st ns) {cs : List D} (h : tp ≤ cs.length) : ∀ n ∈ ns, (n.s < cs.length ∨ n.s = 1022) ∧ (n.t < cs.length ∨ n.t = 1023) := fun n hn => by
  have a := (t.n n hn).si
  have b := (t.n n hn).sj
  exact ⟨by omega, by omega⟩
/-! ### the sizes -/
theorem len_pos (n : Nd) : n.len = 3 ∨ n.len = 6 := by unfold Nd.len; split <;> simp
theorem tot_le : ∀ (ns : List Nd) (a : Int), a ≤ tot a ns ∧ tot a ns ≤ a + 6 * ns.length
  | [], a => ⟨Int.le_refl _, by simp [tot]⟩
  | n :: r, a => by
    have h1 := len_pos n
    have h2 := tot_le r (a + n.len)
    simp only [tot, List.length_cons]
    omega
theorem spots_in : ∀ (ns : List Nd) (a x : Int), x ∈ spots a ns → a ≤ x ∧ x ≤ a + 6 * ns.length
  | [], a, x, h => nomatch h
  | n :: r, a, x, h => by
    have h1 := len_pos n
    rcases List.mem_cons.mp h with rfl | h
    · simp only [List.length_cons]; omega
    · have := spots_in r (a + n.len) x h
      simp only [List.length_cons]; omega
theorem row_flat (P : List Int) (e z : Int) : ∀ (ns : List Nd) (a : Int), (((ns.flatMap (rowI P e z)).length : Nat) : Int) = tot a ns - a
  | [], a => by simp [tot]
  | n :: r, a => by
    have h := row_flat P e z r (a + n.len)
    have h1 : ((rowI P e z n).length : Int) = n.len := by
      unfold rowI Nd.len
      split <;> simp
    rw [List.flatMap_cons, List.length_append, tot]
    omega
theorem body_len (st : D) (ns : List Nd) : ((bodyI st ns).length : Int) = zI st ns := by
  have h := row_flat (spots 0 ns) (tot 0 ns) (zI st ns) ns 0
  unfold bodyI
  rw [List.length_append, List.length_append]
  have h2 : ((if waysEver st ns then [zI st ns, zI st ns, tot 0 ns] else []).length : Int) = if waysEver st ns then 3 else 0 := by split <;> simp
  have h3 : ((if isEnd st then [zI st ns, zI st ns, 1023] else []).length : Int) = if isEnd st then 3 else 0 := by split <;> simp
  have h4 : zI st ns = tot 0 ns + (if waysEver st ns then 3 else 0) + if isEnd st then 3 else 0 := rfl
  omega
theorem go_in {ns : List Nd} {d : D} (hw : wOk ns.length d) (hl : ns.length ≤ 171) : 0 ≤ goI (spots 0 ns) (tot 0 ns) d ∧ goI (spots 0 ns) (tot 0 ns) d ≤ 1030 := by
  have h := tot_le ns 0
  rcases hw with rfl | rfl | rfl | ⟨k, rfl, hk⟩
  · simp [goI]
  · simp [goI, str_inj]
  · simp [goI]; omega
  · have hl : k < (spots 0 ns).length := by rw [spots_len]; exact hk
    have := spots_in ns 0 _ (List.getElem_mem hl)
    simp only [goI, Int.toNat_natCast, List.getD_eq_getElem?_getD, List.getElem?_eq_getElem hl, Option.getD_some]
    omega
theorem z_in (st : D) (ns : List Nd) : 0 ≤ zI st ns ∧ zI st ns ≤ 6 * ns.length + 6 := by
  have h := tot_le ns 0
  unfold zI a2I
  split <;> split <;> omega
theorem body_in {tp : Int} {st : D} {ns : List Nd} {mo : Int} (t : TW mo tp st ns) (ht : tp ≤ 70) (hm : mo ≤ 4000) (hl : ns.length ≤ 171) {x : Int} (hx : x ∈ bodyI st ns) : 0 ≤ x ∧ x ≤ 2050 - 1 - 1 - 1 - 47 := by
  have hz := z_in st ns
  have ht0 := tot_le ns 0
  have W := t.wok (by omega) hm
  unfold bodyI at hx
  rcases List.mem_append.mp hx with hx | hx
  · rcases List.mem_append.mp hx with hx | hx
    · obtain ⟨n, hn, hx⟩ := List.mem_flatMap.mp hx
      have a := (t.n n hn).si
      have b := (t.n n hn).sj
      have g1 := go_in (W.w n hn).1 hl
      have g2 := go_in (W.w n hn).2 hl
      unfold rowI mv at hx
      rcases List.mem_append.mp hx with hx | hx
      · simp only [List.mem_cons, List.not_mem_nil, or_false] at hx
        rcases hx with rfl | rfl | rfl
        · split <;> omega
        · split <;> omega
        · omega
      · split at hx
        · cases hx
        · simp only [List.mem_cons, List.not_mem_nil, or_false] at hx
          rcases hx with rfl | rfl | rfl <;> omega
    · split at hx
      · simp only [List.mem_cons, List.not_mem_nil, or_false] at hx
        rcases hx with rfl | rfl | rfl <;> omega
      · cases hx
  · split at hx
    · simp only [List.mem_cons, List.not_mem_nil, or_false] at hx
      rcases hx with rfl | rfl | rfl <;> omega
    · cases hx
theorem wt_int {i : Int} (h : 0 ≤ i) (h2 : i ≤ 2000) : Wt 0 20 (.int i) := wt_flat (by simp [fsm]; omega)
theorem entry_in {tp mo : Int} {st : D} {ns : List Nd} (t : TW mo tp st ns) (ht : tp ≤ 70) (hm : mo ≤ 4000) (hl : ns.length ≤ 171) : 0 ≤ entryI st ns ∧ entryI st ns ≤ 2000 := by
  have W := t.wok (by omega) hm
  have ht0 := tot_le ns 0
  unfold entryI
  split
  · unfold a2I; split <;> omega
  · next q =>
    have := go_in (start_ways W (by simpa using q)).1 hl
    omega
theorem wt_img {tp mo : Int} {st : D} {ns : List Nd} {cs : List D} (t : TW mo tp st ns) (ht : tp ≤ 70) (hm : mo ≤ 4000) (hl : ns.length ≤ 171) (hc : COk cs) : Wt 2 (2 * ((ns.length * 6 + 7 + cs.length) * 21 + 21)) (imgD st ns cs) := by
  have h1 : Wt 1 ((ns.length * 6 + 7 + cs.length) * 21) (.tup ((bodyI st ns).map .int ++ .int 0 :: cs)) := by
    refine (Wt.tup (k := 0) (n := 20) fun d hd => ?_).mono (by omega) ?_
    · rcases List.mem_append.mp hd with hd | hd
      · obtain ⟨x, hx, rfl⟩ := List.mem_map.mp hd
        have := body_in t ht hm hl hx
        exact wt_int this.1 (by omega)
      · rcases List.mem_cons.mp hd with rfl | hd
        · exact wt_int (by decide) (by decide)
        · obtain ⟨i, rfl, a, b⟩ := hc.w d hd
          exact wt_int a (by omega)
    · have h2 := body_len st ns
      have h3 := z_in st ns
      rw [List.length_append, List.length_map, List.length_cons]
      refine Nat.mul_le_mul_right _ ?_
      omega
  refine (Wt.tup (k := 1) (n := (ns.length * 6 + 7 + cs.length) * 21 + 20) fun d hd => ?_).mono (by omega) (by simp)
  have e := entry_in t ht hm hl
  exact mem2 (R := Wt 1 ((ns.length * 6 + 7 + cs.length) * 21 + 20)) (h1.mono (by omega) (by omega)) ((wt_int e.1 e.2).mono (by omega) (by omega)) hd
end W74


set_option Elab.async false
set_option linter.all false
set_option maxRecDepth 100000
set_option maxHeartbeats 2000000
namespace W74
open PySem PyI

theorem word_i {i : Int} (h : 0 ≤ i) (h2 : i ≤ 1023) : wordD (.int i) := ⟨i, rfl, h, h2⟩
theorem v_cells {l : Nat} (hl : l < 2) {n : Nat} (hn : n ≤ 200) : GvF PM F__law_cells [.cell l, .int n] fun d => ∃ cs, d = .tup cs ∧ cs.length = n ∧ ∀ c ∈ cs, wordD c := by
  refine f_of (t_rt (g_bi (gl_cons (R1 := fun d => ∃ ys, d = .lst ys ∧ ys.length = n ∧ ∀ y ∈ ys, wordD y) (g_lc (R1 := wordD) (gl_r1 (n := n) (g_v rfl ⟨rfl, by omega, szl (by simp [rngD]; omega), fun d hd => ?_, fun ys h1 h2 => ⟨ys, rfl, by rw [h1]; simp [rngD], h2⟩⟩))) fun d ⟨ys, hd, h1, h2⟩ => gl_nil ⟨.tup ys, fun μ _ => by subst hd; rfl, ys, rfl, h1, h2⟩)))
  exact g_any hl rfl (g_lst (gl_cons (R1 := wordD) (g_c (word_i (by decide) (by decide))) fun b1 k1 => gl_cons (R1 := wordD) (g_c (word_i (by decide) (by decide))) fun b2 k2 => gl_cons (R1 := wordD) (g_c (word_i (by decide) (by decide))) fun b3 k3 => gl_cons (R1 := wordD) (g_c (word_i (by decide) (by decide))) fun b4 k4 => gl_cons (R1 := wordD) (g_c (word_i (by decide) (by decide))) fun b5 k5 => gl_cons (R1 := wordD) (g_c (word_i (by decide) (by decide))) fun b6 k6 =>
    gl_cons (R1 := wordD) (g_deal (t := 1024) hl rfl (fun μ _ => rfl) (by decide) (by decide) fun f h0 h1 => word_i h0 (by omega)) fun b7 k7 => gl_nil ⟨sz (by simp), _, .inl rfl, by simp, by simp, fun x hx => by
      simp only [List.mem_cons, List.not_mem_nil, or_false] at hx
      rcases hx with rfl | rfl | rfl | rfl | rfl | rfl | rfl <;> assumption⟩))
/-! ### all that is used of a web that fits -/
section
variable {mo tp : Int} {st : D} {ns : List Nd} {cs : List D}
theorem img_len (st : D) (ns : List Nd) (cs : List D) : (((bodyI st ns).map D.int ++ .int 0 :: cs).length : Int) = sizeI st ns cs := by
  have := body_len st ns
  rw [List.length_append, List.length_map, List.length_cons, sizeI]
  omega
structure Fit (mo tp : Int) (st : D) (ns : List Nd) (cs : List D) : Prop where
  t : TW mo tp st ns
  ht : tp ≤ 70
  hm : mo ≤ 171
  c : COk cs
  f : tp ≤ cs.length
theorem Fit.nl (F : Fit mo tp st ns cs) : ns.length ≤ 171 := by have := F.t.l2; have := F.hm; omega
theorem Fit.wok (F : Fit mo tp st ns cs) : WOk st ns := F.t.wok (by have := F.ht; omega) (by have := F.hm; omega)
theorem Fit.web (F : Fit mo tp st ns cs) : seenWeb (webD st ns) = true ∧ webB (webD st ns) = true := goodWeb_web F.t.good (by have := F.ht; omega) (by have := F.hm; omega)
theorem Fit.laid (F : Fit mo tp st ns cs) (hs : sizeI st ns cs ≤ 1000) (μ : Mem) : F_laid [webD st ns, .tup cs] μ = .ok (imgD st ns cs) (μ ++ addL st ns cs μ.length) := m_laid F.wok F.web.1 F.web.2 F.c (F.t.fit F.f) hs
theorem Fit.great (F : Fit mo tp st ns cs) (hs : 1000 < sizeI st ns cs) (μ : Mem) : F_laid [webD st ns, .tup cs] μ = .exc 4 [.int (sizeI st ns cs)] (μ ++ addL st ns cs μ.length) := m_laid_great F.wok F.web.1 F.web.2 F.c (F.t.fit F.f) hs
theorem Fit.size (F : Fit mo tp st ns cs) (μ : Mem) : F_laid_size [webD st ns, .tup cs] μ = .ok (.int (sizeI st ns cs)) (μ ++ addL st ns cs μ.length) := m_laid_size F.wok F.web.1 F.web.2 F.c
theorem Fit.own (F : Fit mo tp st ns cs) (μ : Mem) : F__law_laid [webD st ns, .tup cs] μ = .ok (imgD st ns cs) (μ ++ [.lst ((spots 0 ns).map .int)]) := m_law_laid F.wok (by have := F.c.u; omega)
theorem Fit.wt (F : Fit mo tp st ns cs) : Wt 2 90000 (imgD st ns cs) := (wt_img F.t F.ht (by have := F.hm; omega) F.nl F.c).mono (by omega) (by have := F.nl; have := F.c.u; omega)
theorem Fit.zle (F : Fit mo tp st ns cs) : sizeI st ns cs ≤ 6 * mo + 7 + cs.length ∧ 0 ≤ sizeI st ns cs := by have := z_in st ns; have := F.t.l2; unfold sizeI; omega
end
theorem m_swapped {x t : D} {xs : List D} (hz : xs.length ≤ 1000) (μ : Mem) : F__law_swapped [.tup (x :: xs), .int 0, t] μ = .ok (.tup (t :: xs)) μ := by
  have c0 : cutD (x :: xs) none (some 0) = [] := by simp [cutD, HT.sIx]
  have c1' : cutD (x :: xs) (some 1) none = xs := by
    have : HT.sIx (x :: xs).length 0 (some 1) = 1 := by simp [HT.sIx]
    simp [cutD, this, HT.sIx]
  have A1 : addD (.tup []) (.tup [t]) = some (.tup [t]) := by simp [addD, sizeLine_eq]
  have A2 : addD (.tup [t]) (.tup xs) = some (.tup (t :: xs)) := if_pos (szl (by simp; omega))
  show finF N__law_swapped es__law_swapped _ μ = _
  refine r_fin (r_ret (k_op (k_op (x := .tup []) (y := .tup [t]) (μ1 := μ) ?_ ?_ A1) (y := .tup xs) (μ1 := μ) ?_ A2))
  · simp [finF, stS, sSq, sAs, sRt, sRtN, sIf, sNx, sEx, evV, evC, evAnd, evOr, evNot, evIte, evOp, evCall, evNil, evCons, evTup, evLst, evBi, evIsi, evChain, evSqT, evSqL, evSlice, evNo, evSo, asInt, pick, gNm, gTp, gLs, gsCons, gsNil, Out.bind, noX, cmpF, binF, isiD, tyName, isSub, ordD, isD, lenD, subscD, seqOf, intD, absD, str_inj, sP2, sP3, N__law_swapped, sliceD, c0]
  · simp [finF, stS, sSq, sAs, sRt, sRtN, sIf, sNx, sEx, evV, evC, evAnd, evOr, evNot, evIte, evOp, evCall, evNil, evCons, evTup, evLst, evBi, evIsi, evChain, evSqT, evSqL, evSlice, evNo, evSo, asInt, pick, gNm, gTp, gLs, gsCons, gsNil, Out.bind, noX, cmpF, binF, isiD, tyName, isSub, ordD, isD, lenD, subscD, seqOf, intD, absD, str_inj, sP2, sP3, N__law_swapped, sizeLine_eq]
  · simp [finF, stS, sSq, sAs, sRt, sRtN, sIf, sNx, sEx, evV, evC, evAnd, evOr, evNot, evIte, evOp, evCall, evNil, evCons, evTup, evLst, evBi, evIsi, evChain, evSqT, evSqL, evSlice, evNo, evSo, asInt, pick, gNm, gTp, gLs, gsCons, gsNil, Out.bind, noX, cmpF, binF, isiD, tyName, isSub, ordD, isD, lenD, subscD, seqOf, intD, absD, str_inj, sP2, sP3, N__law_swapped, sliceD, c1', addD]
theorem wt_lit {x : Str} (h : (PyData.canLay0 (.str x) = true ∧ PyData.leavesShort 10 (.str x) = true) ∧ PyData.weight (.str x) ≤ 20) : Wt 0 20 (.str x) := ⟨_, rfl, h.1.1, h.1.2, rfl, h.2, by simp [PyData.depth]⟩
theorem wt_fit : Wt 0 20 (.str "fit") := wt_lit (by decide +kernel)
theorem wt_great : Wt 0 20 (.str "great") := wt_lit (by decide +kernel)
theorem goodW_fsm {m : Int} {d : D} (h : d = .non ∨ goodW m d) : fsm d = true := by
  rcases h with rfl | h
  · rfl
  · exact h.1
theorem wt_webD {mo tp : Int} {st : D} {ns : List Nd} (t : TW mo tp st ns) (ht : tp ≤ 70) : Wt 3 (2 * (ns.length * 85 + 21)) (webD st ns) := by
  have hn : ∀ x ∈ ns.map Nd.d, Wt 1 84 x := fun x hx => by
    obtain ⟨n, hn, rfl⟩ := List.mem_map.mp hx
    have g := t.n n hn
    have a := g.si
    have b := g.sj
    exact (Wt.tup (k := 0) (n := 20) fun d hd => mem4 (R := Wt 0 20) (wt_int (by omega) (by omega)) (wt_int (by omega) (by omega)) (wt_flat (goodW_fsm g.wl)) (wt_flat (goodW_fsm g.wh)) hd).mono (by omega) (by simp)
  have h1 : Wt 2 (ns.length * 85) (.tup (ns.map Nd.d)) := (Wt.tup hn).mono (by omega) (by simp)
  exact (Wt.tup (k := 2) (n := ns.length * 85 + 20) fun d hd => mem2 (R := Wt 2 (ns.length * 85 + 20)) ((wt_flat t.s.1).mono (by omega) (by omega)) (h1.mono (by omega) (by omega)) hd).mono (by omega) (by simp)
theorem tw_swap {mo tp : Int} {st : D} {n : Nd} {rs : List Nd} (t : TW mo tp st (n :: rs)) {i : Int} (h0 : tp ≤ i) (h1 : 1 ≤ tp) : TW mo (i + 1) st (⟨i, 0, .str "end", .str "end"⟩ :: rs) :=
  ⟨t.l1, t.l2, t.s, fun x hx => by
    rcases List.mem_cons.mp hx with rfl | hx
    · exact ⟨by simp; omega, by simp; omega, .inr goodW_end, .inr goodW_end, (fun z => nomatch z.1), (fun z => by simp at z), fun z => by simp at z; omega⟩
    · have g := t.n x (List.mem_cons_of_mem _ hx)
      have a := g.si
      have b := g.sj
      exact ⟨by omega, by omega, g.wl, g.wh, g.one, g.out, g.self⟩⟩
/-! the great web -/
def nd0 : Nd := ⟨0, 1, .str "end", .str "end"⟩
theorem tw_great {n : Nat} (h1 : 1 ≤ n) (h2 : n ≤ 171) : TW 171 2 (.int 0) (List.replicate n nd0) :=
  ⟨by simp; omega, by simp; omega, ⟨by simp [fsm], by simp [goalB, endB, numB]; omega⟩, fun x hx => by
    have e := List.eq_of_mem_replicate hx
    subst e
    exact ⟨by simp [nd0], by simp [nd0], .inr goodW_end, .inr goodW_end, (fun z => nomatch z.1), (fun z => by simp [nd0] at z), fun z => by simp [nd0] at z⟩⟩
theorem v_right {l : Nat} (hl : l < 2) : GvF PM F__law_right [.cell l] fun d => d = .bl true := by
  refine f_of (t_sq (x_for (I := fun ds ρ => ∃ a1 a2 a3 a4 a5 a6 a7 a8 a9 a10, ρ = [.v (.cell l), a1, a2, a3, a4, a5, a6, a7, a8, a9, a10]) (gl_r1 (n := 3) (g_c ⟨rfl, by decide, _, _, _, _, _, _, _, _, _, _, rfl⟩)) ?_ ?_))
  · rintro d ds ρ ⟨a1, a2, a3, a4, a5, a6, a7, a8, a9, a10, rfl⟩
    refine x_sq (x_as (g_op (R1 := fun d => d = .int 3) (g_c rfl) fun x hx => g_deal (t := 4) hl rfl (fun μ _ => rfl) (by decide) (by decide) fun f h0 h1 => ⟨.int (3 + f), fun μ _ => by subst hx; rfl, ?_⟩))
    obtain ⟨m, em, m1, m2⟩ : ∃ m : Nat, (3 + f) = (m : Int) ∧ 3 ≤ m ∧ m ≤ 6 := ⟨(3 + f).toNat, by omega, by omega, by omega⟩
    rw [em]
    refine x_sq (x_tp2 (g_tup (gl_cons (R1 := goodWeb 7 m) (g_call (gl_cons (R1 := fun d => d = .cell l) (g_v rfl rfl) fun d1 h1 => gl_cons (R1 := fun d => d = .int 7) (g_c rfl) fun d2 h2 => gl_cons (R1 := fun d => d = .int m) (g_v rfl rfl) fun d3 h3 => gl_nil (gl_nil ⟨rfl, rfl, by subst h1 h2 h3; exact v_web hl (by decide) (by decide) (by omega) (by omega)⟩))) fun w hw =>
      gl_cons (R1 := fun d => ∃ cs, d = .tup cs ∧ cs.length = m ∧ ∀ c ∈ cs, wordD c) (g_call (gl_cons (R1 := fun d => d = .cell l) (g_v rfl rfl) fun d1 h1 => gl_cons (R1 := fun d => d = .int m) (g_v rfl rfl) fun d3 h3 => gl_nil (gl_nil ⟨rfl, rfl, by subst h1 h3; exact v_cells hl (by omega)⟩))) fun c hc => gl_nil ⟨sz (by simp), w, c, rfl, ?_⟩)))
    obtain ⟨st, ns, rfl, tw⟩ := typed hw
    obtain ⟨cs, rfl, lc, wc⟩ := hc
    have F : Fit 7 m st ns cs := ⟨tw, by omega, by decide, ⟨wc, by omega, by omega⟩, by omega⟩
    have hsz : sizeI st ns cs ≤ 1000 := by have := F.zle; omega
    have own := F.own
    have laid := F.laid hsz
    have size := F.size
    refine x_sq (x_as (g_app (d := imgD st ns cs) (fun μ _ => ⟨_, c2 rfl rfl (own μ)⟩) ?_))
    refine x_sq (x_as (g_lst (gl_cons (R1 := fun d => d = imgD st ns cs) (g_app (fun μ _ => ⟨_, c2 rfl rfl (laid μ)⟩) rfl) fun d1 e1 => gl_cons (R1 := fun d => d = imgD st ns cs) (g_app (fun μ _ => ⟨_, c11 rfl rfl (laid μ)⟩) rfl) fun d2 e2 =>
      gl_cons (R1 := fun d => d = .int (sizeI st ns cs)) (g_app (fun μ _ => ⟨_, c2 rfl rfl (size μ)⟩) rfl) fun d3 e3 => gl_cons (R1 := fun d => d = .int (sizeI st ns cs)) (g_app (fun μ _ => ⟨_, c11 rfl rfl (size μ)⟩) rfl) fun d4 e4 => gl_nil ⟨sz (by simp), ?_⟩)))
    subst e1 e2 e3 e4
    have wi : Wt 2 90000 (.int (sizeI st ns cs)) := (wt_int (by have := F.zle; omega) (by omega)).mono (by omega) (by omega)
    have w4 : Wt 3 1000000 (.lst [imgD st ns cs, imgD st ns cs, .int (sizeI st ns cs), .int (sizeI st ns cs)]) := (Wt.lst (k := 2) (n := 90000) fun x hx => mem4 F.wt F.wt wi wi hx).mono (by omega) (by simp)
    refine x_sq (x_pass (g_pure (d := .bl false) (fun μ _ => ?_) ⟨rfl, ?_⟩))
    · have lenI : ∀ ρ : Sls, ρ[2]? = some (.v (imgD st ns cs)) → evBi lenD (evCons (evOp subscD (evV 2) (evC (.int 0))) evNil) ρ μ = .ok (.int (sizeI st ns cs)) μ := fun ρ hρ => by
        have h1 : evOp subscD (evV 2) (evC (.int 0)) ρ μ = .ok (.tup ((bodyI st ns).map .int ++ .int 0 :: cs)) μ := k_op (x := imgD st ns cs) (by simp [evV, hρ]) rfl rfl
        have h2 : lenD μ [.tup ((bodyI st ns).map .int ++ .int 0 :: cs)] = some (.int (sizeI st ns cs)) := by rw [← img_len]; rfl
        simp only [evBi, evCons, h1, evNil, Out.bind, h2]
      have hz4 : [imgD st ns cs, imgD st ns cs, .int (sizeI st ns cs), .int (sizeI st ns cs)].length ≤ sizeLine := sz (by simp)
      have hd : ∀ ρ : Sls, ρ[2]? = some (.v (imgD st ns cs)) → evLst (evCons (evV 2) (evCons (evV 2) (evCons (evBi lenD (evCons (evOp subscD (evV 2) (evC (.int 0))) evNil)) (evCons (evBi lenD (evCons (evOp subscD (evV 2) (evC (.int 0))) evNil)) evNil)))) ρ μ = .ok (.lst [imgD st ns cs, imgD st ns cs, .int (sizeI st ns cs), .int (sizeI st ns cs)]) μ := fun ρ hρ => by
        have v2 : evV 2 ρ μ = .ok (imgD st ns cs) μ := by simp [evV, hρ]
        simp only [evLst, evCons, v2, lenI ρ hρ, evNil, Out.bind, if_pos hz4]
      exact k_not (b := true) (c2 rfl (hd _ rfl) (m_same w4 (by decide) (by decide) (fun l z => nomatch z) μ))
    obtain ⟨n, rs, rfl⟩ : ∃ n rs, ns = n :: rs := by
      match ns, tw.l1 with
      | n :: rs, _ => exact ⟨n, rs, rfl⟩
    have hrs : rs.length ≤ 1000 := by have := tw.l2; simp at this; omega
    refine x_sq (x_as ((g_call (R := fun d => ∃ i : Int, (m : Int) ≤ i ∧ i ≤ m + 2 ∧ d = .tup ((⟨i, 0, .str "end", .str "end"⟩ : Nd).d :: rs.map Nd.d)) (gl_cons (R1 := fun d => d = .tup (n.d :: rs.map Nd.d)) (g_pure (fun μ _ => k_op (x := webD st (n :: rs)) (μ1 := μ) rfl rfl rfl) rfl) fun d1 h1 => gl_cons (R1 := fun d => d = .int 0) (g_c rfl) fun d2 h2 =>
      gl_cons (R1 := fun d => ∃ i : Int, (m : Int) ≤ i ∧ i ≤ m + 2 ∧ d = (⟨i, 0, .str "end", .str "end"⟩ : Nd).d) (g_tup (gl_cons (R1 := fun d => ∃ i : Int, (m : Int) ≤ i ∧ i ≤ m + 2 ∧ d = .int i) (g_op (R1 := fun d => d = .int m) (g_v rfl rfl) fun x hx => g_deal (t := 3) hl rfl (fun μ _ => rfl) (by decide) (by decide) fun f h0 h1 => ⟨.int (m + f), fun μ _ => by subst hx; rfl, m + f, by omega, by omega, rfl⟩) fun d ⟨i, i1, i2, e⟩ =>
        gl_cons (R1 := fun d => d = .int 0) (g_c rfl) fun b1 k1 => gl_cons (R1 := fun d => d = .str "end") (g_c rfl) fun b2 k2 => gl_cons (R1 := fun d => d = .str "end") (g_c rfl) fun b3 k3 => gl_nil ⟨sz (by simp), i, i1, i2, by subst e k1 k2 k3; rfl⟩)) fun d3 ⟨i, i1, i2, h3⟩ =>
      gl_nil (gl_nil ⟨rfl, rfl, by subst h1 h2 h3; exact fun μ p => ⟨_, μ, m_swapped (by simp; omega) μ, p, i, i1, i2, rfl⟩⟩))).imp fun wd hwd => ?_))
    obtain ⟨i, i1, i2, rfl⟩ := hwd
    let n0 : Nd := ⟨i, 0, .str "end", .str "end"⟩
    have t0 := tw_swap tw i1 (by omega)
    have g0 := goodWeb_web t0.good (by omega) (by decide)
    have mis : ∀ μ, F_laid [webD st (n0 :: rs), .tup cs] μ = .exc 3 [webD st (n0 :: rs)] μ := fun μ => m_laid_misfit g0.1 g0.2 F.c (by rw [lc]; exact i1) (by show i ≠ 1022; omega)
    have wf : Wt 4 5000 (.lst [.str "fit", webD st (n0 :: rs)]) := (Wt.lst (k := 3) (n := 2400) fun x hx => mem2 (R := Wt 3 2400) (wt_fit.mono (by omega) (by omega)) ((wt_webD t0 (by omega)).mono (by omega) (by have := tw.l2; simp at this ⊢; omega)) hx).mono (by omega) (by simp)
    have tup2 : ∀ (ρ : Sls) (μ : Mem), ρ[9]? = some (.v (webD st (n :: rs))) → ρ[10]? = some (.v (.tup (n0.d :: rs.map Nd.d))) → evTup (evCons (evOp subscD (evV 9) (evC (.int 0))) (evCons (evV 10) evNil)) ρ μ = .ok (webD st (n0 :: rs)) μ := fun ρ μ h9 h10 => by
      have hz2 : [st, D.tup (n0.d :: rs.map Nd.d)].length ≤ sizeLine := sz (by simp)
      have k9 : evOp subscD (evV 9) (evC (.int 0)) ρ μ = .ok st μ := k_op (x := webD st (n :: rs)) (by simp [evV, h9]) rfl rfl
      have k10 : evV 10 ρ μ = .ok (.tup (n0.d :: rs.map Nd.d)) μ := by simp [evV, h10]
      simp only [evTup, evCons, k9, k10, evNil, Out.bind, if_pos hz2]
      rfl
    have hzf : [D.str "fit", webD st (n0 :: rs)].length ≤ sizeLine := sz (by simp)
    have last : ∀ (ρ : Sls) (μ : Mem), ρ[9]? = some (.v (webD st (n :: rs))) → ρ[10]? = some (.v (.tup (n0.d :: rs.map Nd.d))) → ρ[1]? = some (.v (.tup cs)) → evOp (cmpF .NotEq) (evRefX R__law_refused told__law_refused (evCall F_laid 2 0 [some 0, some 1] (evCons (evTup (evCons (evOp subscD (evV 9) (evC (.int 0))) (evCons (evV 10) evNil))) (evCons (evV 1) evNil)) evNil)) (evLst (evCons (evC (.str "fit")) (evCons (evTup (evCons (evOp subscD (evV 9) (evC (.int 0))) (evCons (evV 10) evNil))) evNil))) ρ μ = .ok (.bl false) μ := fun ρ μ h9 h10 h1 => by
      have t2 := tup2 ρ μ h9 h10
      refine k_op (x := .lst [.str "fit", webD st (n0 :: rs)]) (y := .lst [.str "fit", webD st (n0 :: rs)]) (μ1 := μ) (refX (c2 t2 (by simp [evV, h1]) (mis μ)) rfl) ?_ (wt_eq wf (by decide) (fun l z => nomatch z) μ).2
      simp only [evLst, evCons, evC, t2, evNil, Out.bind, if_pos hzf]
    exact x_pass (g_pure (d := .bl false) (fun μ _ => last _ μ rfl rfl rfl) ⟨rfl, _, _, _, _, _, _, _, _, _, _, rfl⟩)
  · rintro ρ ⟨a1, a2, a3, a4, a5, a6, a7, a8, a9, a10, rfl⟩
    let rw0 : D := nd0.d
    refine t_sq (x_p2 (gl_cons (R1 := fun d => d = rw0) (g_pure (fun μ _ => by simp [finF, stS, sSq, sAs, sRt, sRtN, sIf, sNx, sEx, evV, evC, evAnd, evOr, evNot, evIte, evOp, evCall, evNil, evCons, evTup, evLst, evBi, evIsi, evChain, evSqT, evSqL, evSlice, evNo, evSo, asInt, pick, gNm, gTp, gLs, gsCons, gsNil, Out.bind, noX, cmpF, binF, isiD, tyName, isSub, ordD, isD, lenD, subscD, seqOf, intD, absD, str_inj, sP2, sP3, sizeLine_eq]; rfl) rfl) fun d1 h1 => gl_cons (R1 := fun d => ∃ n : Nat, d = .int n ∧ 160 ≤ n ∧ n ≤ 171) (g_op (R1 := fun d => d = .int 160) (g_c rfl) fun x hx => g_deal (t := 12) hl rfl (fun μ _ => rfl) (by decide) (by decide) fun f h0 h1 => ⟨.int (160 + f), fun μ _ => by subst hx; rfl, (160 + f).toNat, by congr 1; omega, by omega, by omega⟩) fun d2 h2 => gl_nil ⟨_, _, rfl, ?_⟩))
    obtain ⟨n, rfl, n1, n2⟩ := h2
    subst h1
    let ns := List.replicate n nd0
    have mul : mulD (.tup [rw0]) (.int n) = some (.tup (ns.map Nd.d)) := by
      have c : [rw0] ≠ [] ∧ (2 : Int) ≤ n ∧ [rw0].length * (n : Int).toNat ≤ 1000000 := ⟨by simp, by omega, by simp; omega⟩
      show (if [rw0] ≠ [] ∧ (2 : Int) ≤ n ∧ [rw0].length * (n : Int).toNat ≤ 1000000 then some (D.tup (List.replicate (n : Int).toNat [rw0]).flatten) else none) = _
      rw [if_pos c, Int.toNat_natCast]
      simp [ns, rw0]
    refine t_sq (x_tp2 (g_tup (gl_cons (R1 := fun d => d = webD (.int 0) ns) (g_tup (gl_cons (R1 := fun d => d = .int 0) (g_c rfl) fun b1 k1 => gl_cons (R1 := fun d => d = .tup (ns.map Nd.d)) (g_pure (fun μ _ => k_op (x := .tup [rw0]) (y := .int n) (μ1 := μ) (by simp [finF, stS, sSq, sAs, sRt, sRtN, sIf, sNx, sEx, evV, evC, evAnd, evOr, evNot, evIte, evOp, evCall, evNil, evCons, evTup, evLst, evBi, evIsi, evChain, evSqT, evSqL, evSlice, evNo, evSo, asInt, pick, gNm, gTp, gLs, gsCons, gsNil, Out.bind, noX, cmpF, binF, isiD, tyName, isSub, ordD, isD, lenD, subscD, seqOf, intD, absD, str_inj, sP2, sP3, sizeLine_eq]) rfl mul) rfl) fun b2 k2 => gl_nil ⟨sz (by simp), by subst k1 k2; rfl⟩)) fun w hw =>
      gl_cons (R1 := fun d => ∃ cs, d = .tup cs ∧ (3 ≤ cs.length ∧ cs.length ≤ 62) ∧ ∀ c ∈ cs, wordD c) (g_call (gl_cons (R1 := fun d => d = .cell l) (g_v rfl rfl) fun d1 h1 => gl_cons (R1 := fun d => ∃ k : Nat, d = .int k ∧ 3 ≤ k ∧ k ≤ 62) (g_op (R1 := fun d => d = .int 3) (g_c rfl) fun x hx => g_deal (t := 60) hl rfl (fun μ _ => rfl) (by decide) (by decide) fun f h0 h1 => ⟨.int (3 + f), fun μ _ => by subst hx; rfl, (3 + f).toNat, by congr 1; omega, by omega, by omega⟩) fun d3 ⟨k, hk, k1, k2⟩ =>
        gl_nil (gl_nil ⟨rfl, rfl, by subst h1 hk; exact (v_cells hl (by omega)).imp fun d ⟨cs, e, el, ew⟩ => ⟨cs, e, by omega, ew⟩⟩))) fun c hc => gl_nil ⟨sz (by simp), w, c, rfl, ?_⟩)))
    subst hw
    obtain ⟨cs, rfl, ⟨lc1, lc2⟩, wc⟩ := hc
    have F : Fit 171 2 (.int 0) ns cs := ⟨tw_great (by omega) n2, by decide, by decide, ⟨wc, by omega, by omega⟩, by omega⟩
    have hsz : sizeI (.int 0) ns cs = 6 * n + 1 + cs.length := by
      have hz : ∀ (k : Nat) (a : Int), tot a (List.replicate k nd0) = a + 6 * k := by
        intro k
        induction k with
        | zero => intro a; simp [tot]
        | succ k ih => intro a; rw [List.replicate_succ, tot, ih]; simp [Nd.len, nd0]; omega
      have he : waysEver (.int 0) ns = false := by
        simp only [waysEver, ever?, Bool.false_or]
        rw [List.any_eq_false]
        intro x hx
        have e := List.eq_of_mem_replicate hx
        subst e
        simp [nd0, str_inj]
      simp [sizeI, zI, a2I, he, isEnd, ns, hz]
    have hs0 : ∀ ρ : Sls, ∀ μ, ρ[6]? = some (.v (.int n)) → ρ[1]? = some (.v (.tup cs)) → evOp (fun _ => binF .Add) (evOp (fun _ => binF .Add) (evOp (fun _ => binF .Mult) (evC (.int 6)) (evV 6)) (evC (.int 1))) (evBi lenD (evCons (evV 1) evNil)) ρ μ = .ok (.int (sizeI (.int 0) ns cs)) μ := fun ρ μ h6 h1 => by
      rw [hsz]
      exact k_op (k_op (k_op (x := .int 6) (y := .int n) (μ1 := μ) rfl (by simp [evV, h6]) (mulL 6 n (by decide) (by decide))) rfl rfl) (y := .int cs.length) (μ1 := μ) (by simp [evBi, evCons, evV, h1, evNil, Out.bind, lenD, seqOf]) rfl
    refine t_sq (x_as (g_pure (d := .int (sizeI (.int 0) ns cs)) (fun μ _ => hs0 _ μ rfl rfl) ?_))
    have size := F.size
    have own := F.own
    refine t_sq (x_pass ((g_op (R1 := fun d => d = .int (sizeI (.int 0) ns cs)) (g_app (fun μ _ => ⟨_, c2 rfl rfl (size μ)⟩) rfl) fun x hx => g_v (d := .int (sizeI (.int 0) ns cs)) rfl ⟨.bl false, fun μ _ => by subst hx; simp [cmpF, neII], rfl, ?_⟩)))
    by_cases hg : 1000 < sizeI (.int 0) ns cs
    · have great := F.great hg
      have we : Wt 1 90000 (.lst [.str "great", .int (sizeI (.int 0) ns cs)]) := (Wt.lst (k := 0) (n := 20) fun x hx => mem2 (R := Wt 0 20) wt_great (wt_int (by omega) (by omega)) hx).mono (by omega) (by simp)
      refine fun μ p => ?_
      have key : evOp (cmpF .Eq) (evRefX R__law_refused told__law_refused (evCall F_laid 1 1 [some 0, some 1] (evCons (evV 3) evNil) (evCons (evV 1) evNil))) (evLst (evCons (evC (.str "great")) (evCons (evV 6) evNil))) [.v (.cell l), .v (.tup cs), a2, .v (webD (.int 0) ns), a4, .v rw0, .v (.int (sizeI (.int 0) ns cs)), a7, a8, a9, a10] μ = .ok (.bl true) (μ ++ addL (.int 0) ns cs μ.length) := by
        refine k_op (x := .lst [.str "great", .int (sizeI (.int 0) ns cs)]) (y := .lst [.str "great", .int (sizeI (.int 0) ns cs)]) (μ1 := μ ++ addL (.int 0) ns cs μ.length) ?_ (by simp [finF, stS, sSq, sAs, sRt, sRtN, sIf, sNx, sEx, evV, evC, evAnd, evOr, evNot, evIte, evOp, evCall, evNil, evCons, evTup, evLst, evBi, evIsi, evChain, evSqT, evSqL, evSlice, evNo, evSo, asInt, pick, gNm, gTp, gLs, gsCons, gsNil, Out.bind, noX, cmpF, binF, isiD, tyName, isSub, ordD, isD, lenD, subscD, seqOf, intD, absD, str_inj, sP2, sP3, sizeLine_eq]) (wt_eq we (by decide) (fun l z => nomatch z) _).1
        exact refX (c11 rfl rfl (great μ)) rfl
      obtain ⟨ρ', hr⟩ := r_seqR (t := sRt (evOp (cmpF .Eq) (evCall F_laid 2 0 [some 0, some 1] (evCons (evV 3) (evCons (evV 1) evNil)) evNil) (evCall F__law_laid 2 0 [some 0, some 1] (evCons (evV 3) (evCons (evV 1) evNil)) evNil))) (r_if (ρ := [.v (.cell l), .v (.tup cs), a2, .v (webD (.int 0) ns), a4, .v rw0, .v (.int (sizeI (.int 0) ns cs)), a7, a8, a9, a10]) (μ := μ) (c := true) (t := sNx) (ec := evOp (cmpF .Gt) (evV 6) (evC (.int 1000))) (μ1 := μ) (by simp [finF, stS, sSq, sAs, sRt, sRtN, sIf, sNx, sEx, evV, evC, evAnd, evOr, evNot, evIte, evOp, evCall, evNil, evCons, evTup, evLst, evBi, evIsi, evChain, evSqT, evSqL, evSlice, evNo, evSo, asInt, pick, gNm, gTp, gLs, gsCons, gsNil, Out.bind, noX, cmpF, binF, isiD, tyName, isSub, ordD, isD, lenD, subscD, seqOf, intD, absD, str_inj, sP2, sP3, hg]) (fun _ => r_ret key) (fun z => nomatch z))
      exact ⟨_, ρ', _, hr, p.app _, rfl⟩
    · have laid := F.laid (by omega)
      refine t_sq (x_pass (g_pure (d := .bl false) (fun μ _ => by simp [finF, stS, sSq, sAs, sRt, sRtN, sIf, sNx, sEx, evV, evC, evAnd, evOr, evNot, evIte, evOp, evCall, evNil, evCons, evTup, evLst, evBi, evIsi, evChain, evSqT, evSqL, evSlice, evNo, evSo, asInt, pick, gNm, gTp, gLs, gsCons, gsNil, Out.bind, noX, cmpF, binF, isiD, tyName, isSub, ordD, isD, lenD, subscD, seqOf, intD, absD, str_inj, sP2, sP3, hg]) ⟨rfl, ?_⟩))
      refine t_rt (g_op (R1 := fun d => d = imgD (.int 0) ns cs) (g_app (fun μ _ => ⟨_, c2 rfl rfl (laid μ)⟩) rfl) fun x hx => g_app (d := imgD (.int 0) ns cs) (fun μ _ => ⟨_, c2 rfl rfl (own μ)⟩) ⟨.bl true, fun μ _ => by subst hx; exact (wt_eq F.wt (by decide) (fun l z => nomatch z) μ).1, rfl⟩)
end W74


set_option Elab.async false
set_option linter.all false
set_option maxRecDepth 100000
set_option maxHeartbeats 2000000
namespace W74
open PySem PyI

def eNs : List Nd := [⟨1, 1, .int 1, .non⟩, ⟨1022, 0, .int 2, .int 2⟩, ⟨0, 1, .int 3, .int 3⟩, ⟨1, 1023, .non, .str "end"⟩]
def eCs : List D := [.int 0, .int 0, .int 5]
def dCs : List D := [.int 1, .int 2, .int 3]
def rI : List Int := [23, 23, 3, 1022, 22, 9, 21, 21, 9, 22, 23, 15, 21, 21, 15, 23, 1023, 1023, 21, 21, 1023]
theorem gwi {m i : Int} (h0 : 0 ≤ i) (h1 : i < m) (h2 : i ≤ 2000) : goodW m (.int i) := ⟨by simp [fsm]; omega, by simp [goalB, endB, numB]; omega⟩
theorem cok3 {a b c : Int} (h : (0 ≤ a ∧ a ≤ 1023) ∧ (0 ≤ b ∧ b ≤ 1023) ∧ 0 ≤ c ∧ c ≤ 1023) : COk [.int a, .int b, .int c] := ⟨fun x hx => mem3 (R := wordD) (word_i h.1.1 h.1.2) (word_i h.2.1.1 h.2.1.2) (word_i h.2.2.1 h.2.2.2) hx, by simp, by simp⟩
theorem eFit : Fit 4 2 (.int 0) eNs eCs := by
  refine ⟨⟨by decide, by decide, gwi (by decide) (by decide) (by decide), fun n hn => ?_⟩, by decide, by decide, cok3 (by decide), by decide⟩
  simp only [eNs, List.mem_cons, List.not_mem_nil, or_false] at hn
  rcases hn with rfl | rfl | rfl | rfl
  · exact ⟨by decide, by decide, .inr (gwi (by decide) (by decide) (by decide)), .inl rfl, (fun z => nomatch z.1), (fun z => by simp at z), fun _ => rfl⟩
  · exact ⟨by decide, by decide, .inr (gwi (by decide) (by decide) (by decide)), .inr (gwi (by decide) (by decide) (by decide)), (fun z => nomatch z.1), (fun z => by simp at z), fun z => by simp at z⟩
  · exact ⟨by decide, by decide, .inr (gwi (by decide) (by decide) (by decide)), .inr (gwi (by decide) (by decide) (by decide)), (fun z => nomatch z.1), (fun z => by simp at z), fun z => by simp at z⟩
  · exact ⟨by decide, by decide, .inl rfl, .inr goodW_end, (fun z => nomatch z.2), (fun _ => rfl), fun z => by simp at z⟩
theorem eImg : imgD (.int 0) eNs eCs = .tup [.tup (rI.map .int ++ [.int 0, .int 0, .int 0, .int 5]), .int 0] := by
  simp [imgD, bodyI, entryI, eNs, eCs, rI, waysEver, ever?, isEnd, zI, a2I, tot, Nd.len, spots, rowI, mv, goI, str_inj]
theorem eSize : sizeI (.int 0) eNs eCs = 25 := by
  simp [sizeI, eNs, eCs, waysEver, ever?, isEnd, zI, a2I, tot, Nd.len, str_inj]
theorem nilLaid {x : Str} (hx : x = "end" ∨ x = "ever") (μ : Mem) : F_laid [webD (.str x) [], .tup dCs] μ = .ok (imgD (.str x) [] dCs) (μ ++ addL (.str x) [] dCs μ.length) := by
  have W : WOk (.str x) [] := ⟨by rcases hx with rfl | rfl <;> simp [stOk], (fun _ h => nomatch h), (fun _ h => nomatch h), by simp⟩
  have hw : webB (webD (.str x) []) = true := by rcases hx with rfl | rfl <;> simp [webD, webB, goalB, endB]
  refine m_laid W (by rfl) hw (cok3 (by decide)) (fun _ h => nomatch h) ?_
  rcases hx with rfl | rfl <;> simp [sizeI, dCs, waysEver, ever?, isEnd, zI, a2I, tot, str_inj]
theorem nilEnd : imgD (.str "end") [] dCs = .tup [.tup [.int 3, .int 3, .int 1023, .int 0, .int 1, .int 2, .int 3], .int 0] := by
  simp [imgD, bodyI, entryI, dCs, waysEver, ever?, isEnd, zI, a2I, tot, spots, str_inj]
theorem nilEver : imgD (.str "ever") [] dCs = .tup [.tup [.int 3, .int 3, .int 0, .int 0, .int 1, .int 2, .int 3], .int 0] := by
  simp [imgD, bodyI, entryI, dCs, waysEver, ever?, isEnd, zI, a2I, tot, spots, goI, str_inj]
theorem v_known : GvF PM F__law_known_right [] fun d => d = .bl true := by
  refine f_of (t_sq (x_as (g_pure (d := webD (.int 0) eNs) (fun μ _ => by simp [finF, stS, sSq, sAs, sRt, sRtN, sIf, sNx, sEx, evV, evC, evAnd, evOr, evNot, evIte, evOp, evCall, evNil, evCons, evTup, evLst, evBi, evIsi, evChain, evSqT, evSqL, evSlice, evNo, evSo, asInt, pick, gNm, gTp, gLs, gsCons, gsNil, Out.bind, noX, cmpF, binF, isiD, tyName, isSub, ordD, isD, lenD, subscD, seqOf, intD, absD, str_inj, sP2, sP3, sizeLine_eq, webD, eNs, Nd.d]) ?_)))
  refine t_sq (x_as (g_pure (d := .tup (rI.map .int)) (fun μ _ => by simp [finF, stS, sSq, sAs, sRt, sRtN, sIf, sNx, sEx, evV, evC, evAnd, evOr, evNot, evIte, evOp, evCall, evNil, evCons, evTup, evLst, evBi, evIsi, evChain, evSqT, evSqL, evSlice, evNo, evSo, asInt, pick, gNm, gTp, gLs, gsCons, gsNil, Out.bind, noX, cmpF, binF, isiD, tyName, isSub, ordD, isD, lenD, subscD, seqOf, intD, absD, str_inj, sP2, sP3, sizeLine_eq, rI]) ?_))
  have laid := eFit.laid (by rw [eSize]; decide)
  have size := eFit.size
  rw [eSize] at size
  have tu : ∀ (ρ : Sls) (μ : Mem) (a b c : Int), evTup (evCons (evC (.int a)) (evCons (evC (.int b)) (evCons (evC (.int c)) evNil))) ρ μ = .ok (.tup [.int a, .int b, .int c]) μ := fun ρ μ a b c => by simp [finF, stS, sSq, sAs, sRt, sRtN, sIf, sNx, sEx, evV, evC, evAnd, evOr, evNot, evIte, evOp, evCall, evNil, evCons, evTup, evLst, evBi, evIsi, evChain, evSqT, evSqL, evSlice, evNo, evSo, asInt, pick, gNm, gTp, gLs, gsCons, gsNil, Out.bind, noX, cmpF, binF, isiD, tyName, isSub, ordD, isD, lenD, subscD, seqOf, intD, absD, str_inj, sP2, sP3, sizeLine_eq]
  have we : ∀ (ρ : Sls) (μ : Mem) (x : Str), evTup (evCons (evC (.str x)) (evCons (evTup evNil) evNil)) ρ μ = .ok (webD (.str x) []) μ := fun ρ μ x => by simp [finF, stS, sSq, sAs, sRt, sRtN, sIf, sNx, sEx, evV, evC, evAnd, evOr, evNot, evIte, evOp, evCall, evNil, evCons, evTup, evLst, evBi, evIsi, evChain, evSqT, evSqL, evSlice, evNo, evSo, asInt, pick, gNm, gTp, gLs, gsCons, gsNil, Out.bind, noX, cmpF, binF, isiD, tyName, isSub, ordD, isD, lenD, subscD, seqOf, intD, absD, str_inj, sP2, sP3, sizeLine_eq, webD]
  refine t_sq (x_as (g_lst (gl_cons (R1 := fun d => d = imgD (.int 0) eNs eCs) (g_app (fun μ _ => ⟨_, c2 rfl (tu _ _ _ _ _) (laid μ)⟩) rfl) fun d1 e1 => gl_cons (R1 := fun d => d = imgD (.str "end") [] dCs) (g_app (fun μ _ => ⟨_, c2 (we _ _ _) (tu _ _ _ _ _) (nilLaid (.inl rfl) μ)⟩) rfl) fun d2 e2 =>
    gl_cons (R1 := fun d => d = imgD (.str "ever") [] dCs) (g_app (fun μ _ => ⟨_, c2 (we _ _ _) (tu _ _ _ _ _) (nilLaid (.inr rfl) μ)⟩) rfl) fun d3 e3 => gl_nil ⟨sz (by simp), ?_⟩)))
  subst e1 e2 e3
  let due : List D := [imgD (.int 0) eNs eCs, imgD (.str "end") [] dCs, imgD (.str "ever") [] dCs]
  have A0 : addD (.tup (rI.map .int)) (.tup [.int 0, .int 0, .int 0, .int 5]) = some (.tup (rI.map .int ++ [.int 0, .int 0, .int 0, .int 5])) := add_T _ _ (by simp [rI])
  refine t_sq (x_as (g_pure (d := .lst due) (fun μ _ => ?_) ?_))
  · have k1 : ∀ ρ : Sls, ρ[2]? = some (.v (.tup (rI.map .int))) → evOp (fun _ => binF .Add) (evV 2) (evTup (evCons (evC (.int 0)) (evCons (evC (.int 0)) (evCons (evC (.int 0)) (evCons (evC (.int 5)) evNil))))) ρ μ = .ok (.tup (rI.map .int ++ [.int 0, .int 0, .int 0, .int 5])) μ := fun ρ hρ => k_op (x := .tup (rI.map .int)) (by simp [evV, hρ]) (y := .tup [.int 0, .int 0, .int 0, .int 5]) (μ1 := μ) (by simp [finF, stS, sSq, sAs, sRt, sRtN, sIf, sNx, sEx, evV, evC, evAnd, evOr, evNot, evIte, evOp, evCall, evNil, evCons, evTup, evLst, evBi, evIsi, evChain, evSqT, evSqL, evSlice, evNo, evSo, asInt, pick, gNm, gTp, gLs, gsCons, gsNil, Out.bind, noX, cmpF, binF, isiD, tyName, isSub, ordD, isD, lenD, subscD, seqOf, intD, absD, str_inj, sP2, sP3, sizeLine_eq]) A0
    have k2 := k1 [.un, .v (webD (.int 0) eNs), .v (.tup (rI.map .int)), .v (.lst due)] rfl
    show _ = Out.ok (D.lst [imgD (.int 0) eNs eCs, imgD (.str "end") [] dCs, imgD (.str "ever") [] dCs]) μ
    rw [eImg, nilEnd, nilEver]
    have hz : ∀ a b c : D, [a, b, c].length ≤ sizeLine := fun _ _ _ => sz (by simp)
    have hz2 : ∀ a b : D, [a, b].length ≤ sizeLine := fun _ _ => sz (by simp)
    have k3 := k1 _ (rfl : (((stS N__law_known_right []).set 1 (.v (webD (.int 0) eNs))).set 2 (.v (.tup (rI.map .int))) |>.set 3 (.v (.lst due)))[2]? = _)
    have t7 : ∀ (ρ : Sls) (a b c d e f g : Int), evTup (evCons (evC (.int a)) (evCons (evC (.int b)) (evCons (evC (.int c)) (evCons (evC (.int d)) (evCons (evC (.int e)) (evCons (evC (.int f)) (evCons (evC (.int g)) evNil))))))) ρ μ = .ok (.tup [.int a, .int b, .int c, .int d, .int e, .int f, .int g]) μ := fun _ _ _ _ _ _ _ _ => by simp [finF, stS, sSq, sAs, sRt, sRtN, sIf, sNx, sEx, evV, evC, evAnd, evOr, evNot, evIte, evOp, evCall, evNil, evCons, evTup, evLst, evBi, evIsi, evChain, evSqT, evSqL, evSlice, evNo, evSo, asInt, pick, gNm, gTp, gLs, gsCons, gsNil, Out.bind, noX, cmpF, binF, isiD, tyName, isSub, ordD, isD, lenD, subscD, seqOf, intD, absD, str_inj, sP2, sP3, sizeLine_eq]
    have t2 : ∀ (ρ : Sls) (ea eb : Ev) (x y : D), ea ρ μ = .ok x μ → eb ρ μ = .ok y μ → evTup (evCons ea (evCons eb evNil)) ρ μ = .ok (.tup [x, y]) μ := fun ρ ea eb x y h1 h2 => by simp [finF, stS, sSq, sAs, sRt, sRtN, sIf, sNx, sEx, evV, evC, evAnd, evOr, evNot, evIte, evOp, evCall, evNil, evCons, evTup, evLst, evBi, evIsi, evChain, evSqT, evSqL, evSlice, evNo, evSo, asInt, pick, gNm, gTp, gLs, gsCons, gsNil, Out.bind, noX, cmpF, binF, isiD, tyName, isSub, ordD, isD, lenD, subscD, seqOf, intD, absD, str_inj, sP2, sP3, h1, h2, sizeLine_eq]
    have l3 : ∀ (ρ : Sls) (ea eb ec : Ev) (x y z : D), ea ρ μ = .ok x μ → eb ρ μ = .ok y μ → ec ρ μ = .ok z μ → evLst (evCons ea (evCons eb (evCons ec evNil))) ρ μ = .ok (.lst [x, y, z]) μ := fun ρ ea eb ec x y z h1 h2 h3 => by simp [finF, stS, sSq, sAs, sRt, sRtN, sIf, sNx, sEx, evV, evC, evAnd, evOr, evNot, evIte, evOp, evCall, evNil, evCons, evTup, evLst, evBi, evIsi, evChain, evSqT, evSqL, evSlice, evNo, evSo, asInt, pick, gNm, gTp, gLs, gsCons, gsNil, Out.bind, noX, cmpF, binF, isiD, tyName, isSub, ordD, isD, lenD, subscD, seqOf, intD, absD, str_inj, sP2, sP3, h1, h2, h3, sizeLine_eq]
    exact l3 _ _ _ _ _ _ _ (t2 _ _ _ _ _ k3 rfl) (t2 _ _ _ _ _ (t7 _ _ _ _ _ _ _ _) rfl) (t2 _ _ _ _ _ (t7 _ _ _ _ _ _ _ _) rfl)
  have A1 : addD (.lst due) (.lst [.int 25]) = some (.lst (due ++ [.int 25])) := add_L _ _ (by simp [due])
  have wn : ∀ {x : Str}, x = "end" ∨ x = "ever" → Wt 2 90000 (imgD (.str x) [] dCs) := fun {x} hx => by
    have h1 : ∀ {a b c d e f g : Int}, (∀ i ∈ [a, b, c, d, e, f, g], 0 ≤ i ∧ i ≤ 2000) → Wt 2 90000 (.tup [.tup [.int a, .int b, .int c, .int d, .int e, .int f, .int g], .int 0]) := fun {a b c d e f g} h => by
      have w7 : Wt 1 200 (.tup [.int a, .int b, .int c, .int d, .int e, .int f, .int g]) := (Wt.tup (k := 0) (n := 20) fun x hx => by
        simp only [List.mem_cons, List.not_mem_nil, or_false] at hx
        rcases hx with rfl | rfl | rfl | rfl | rfl | rfl | rfl <;> exact wt_int (h _ (by simp)).1 (h _ (by simp)).2).mono (by omega) (by simp)
      exact (Wt.tup (k := 1) (n := 200) fun x hx => mem2 (R := Wt 1 200) w7 ((wt_int (by decide) (by decide)).mono (by omega) (by omega)) hx).mono (by omega) (by simp)
    rcases hx with rfl | rfl
    · rw [nilEnd]; exact h1 (by decide)
    · rw [nilEver]; exact h1 (by decide)
  have w4 : Wt 3 1000000 (.lst (due ++ [.int 25])) := (Wt.lst (k := 2) (n := 90000) fun x hx => by
    simp only [due, List.cons_append, List.nil_append] at hx
    exact mem4 (R := Wt 2 90000) eFit.wt (wn (.inl rfl)) (wn (.inr rfl)) ((wt_int (by decide) (by decide)).mono (by omega) (by omega)) hx).mono (by omega) (by simp [due])
  refine t_rt (g_call (gl_cons (R1 := fun d => d = .lst (due ++ [.int 25])) (g_op (R1 := fun d => d = .lst due) (g_v rfl rfl) fun x hx => g_lst (gl_cons (R1 := fun d => d = .int 25) (g_app (fun μ _ => ⟨_, c2 rfl (tu _ _ _ _ _) (size μ)⟩) rfl) fun y hy => gl_nil ⟨sz (by simp), .lst (due ++ [.int 25]), fun μ _ => by subst hx hy; exact A1, rfl⟩)) fun d1 h1 =>
    gl_cons (R1 := fun d => d = .lst (due ++ [.int 25])) (g_op (R1 := fun d => d = .lst due) (g_v rfl rfl) fun x hx => g_lst (gl_cons (R1 := fun d => d = .int 25) (g_c rfl) fun y hy => gl_nil ⟨sz (by simp), .lst (due ++ [.int 25]), fun μ _ => by subst hx hy; exact A1, rfl⟩)) fun d2 h2 =>
    gl_nil (gl_nil ⟨rfl, rfl, by subst h1 h2; exact fun μ p => ⟨_, μ, m_same w4 (by decide) (by decide) (fun l z => nomatch z) μ, p, rfl⟩⟩)))
end W74


set_option Elab.async false
set_option linter.all false
set_option maxRecDepth 100000
set_option maxHeartbeats 1000000
namespace W74
open PySem PyI

theorem m_pail {ns : List Int} {t : Int} (μ : Mem) (ht : t = 0 ∨ t = 1) : ∃ a b : Int, F__law_pail [.scr (ns.map .int), .int t] μ = .ok (.cell μ.length) (μ ++ [.lst [.int a, .int b, .int 0]]) := by
  let P : Mem → Prop := fun μ' => μ' = μ
  have key : ∀ {m : Int}, modD (.int m) (.int 2147483423) = some (.int (m % 2147483423)) := modP _ _ (by decide)
  have h1 : Nx P (sAs (evOp (fun _ => binF .Add) (evC (.int 1400017)) (evOp (fun _ => binF .Mult) (evC (.int 10501)) (evV 1))) (gNm 3)) (stS N__law_pail [.scr (ns.map .int), .int t]) fun ρ => ∃ a2 m a4, ρ = [.v (.scr (ns.map .int)), .v (.int t), a2, .v (.int m), a4] := by
    have e : mulD (.int 10501) (.int t) = some (.int (10501 * t)) := mulL _ _ (by decide) (by decide)
    exact x_as (g_pure (d := .int (1400017 + 10501 * t)) (fun μ _ => by simp [finF, stS, sSq, sAs, sRt, sRtN, sIf, sNx, sEx, evV, evC, evAnd, evOr, evNot, evIte, evOp, evCall, evNil, evCons, evTup, evLst, evBi, evIsi, evChain, evSqT, evSqL, evSlice, evNo, evSo, asInt, pick, gNm, gTp, gLs, gsCons, gsNil, Out.bind, noX, cmpF, binF, isiD, tyName, isSub, ordD, isD, lenD, subscD, seqOf, intD, absD, str_inj, sP2, sP3, N__law_pail, e, addD]) ⟨_, _, _, rfl⟩)
  have h2 : ∀ ρ, (∃ a2 m a4, ρ = [.v (.scr (ns.map .int)), .v (.int t), a2, .v (.int m), a4]) → Nx P (sFor (evSqL (evSlice (evV 0) evNo (evSo (evC (.int 12))))) (gNm 2) (sAs (evOp (fun _ => binF .Mod) (evBi intD (evCons (evOp (fun _ => binF .Add) (evOp (fun _ => binF .Add) (evOp (fun _ => binF .Mult) (evV 3) (evC (.int 64409))) (evOp (fun _ => binF .Mult) (evOp (fun _ => binF .Mod) (evBi intD (evCons (evV 2) evNil)) (evC (.int 2147483423))) (evC (.int 31)))) (evC (.int 13))) evNil)) (evC (.int 2147483423))) (gNm 3))) ρ
      fun ρ => ∃ a2 m a4, ρ = [.v (.scr (ns.map .int)), .v (.int t), a2, .v (.int m), a4] := by
    rintro ρ ⟨a2, m, a4, rfl⟩
    refine x_for (I := fun ds ρ => (∀ d ∈ ds, ∃ i : Int, d = .int i) ∧ ∃ a2 m a4, ρ = [.v (.scr (ns.map .int)), .v (.int t), a2, .v (.int m), a4]) ?_ ?_ ?_
    · refine gl_sqL (g_pure (d := .lst (cutD (ns.map .int) none (some 12))) (fun μ _ => by simp [finF, stS, sSq, sAs, sRt, sRtN, sIf, sNx, sEx, evV, evC, evAnd, evOr, evNot, evIte, evOp, evCall, evNil, evCons, evTup, evLst, evBi, evIsi, evChain, evSqT, evSqL, evSlice, evNo, evSo, asInt, pick, gNm, gTp, gLs, gsCons, gsNil, Out.bind, noX, cmpF, binF, isiD, tyName, isSub, ordD, isD, lenD, subscD, seqOf, intD, absD, str_inj, sP2, sP3, sliceD]) ⟨_, .inl rfl, fun d hd => ?_, _, _, _, rfl⟩)
      unfold cutD at hd
      have := List.mem_of_mem_drop (List.mem_of_mem_take hd)
      obtain ⟨i, _, rfl⟩ := List.mem_map.mp this
      exact ⟨i, rfl⟩
    · rintro d ds ρ ⟨hd, a2, m, a4, rfl⟩
      obtain ⟨i, rfl⟩ := hd d (by simp)
      have e1 : mulD (.int m) (.int 64409) = some (.int (m * 64409)) := mulR _ _ (by decide) (by decide)
      have e2 : mulD (.int (i % 2147483423)) (.int 31) = some (.int (i % 2147483423 * 31)) := mulR _ _ (by decide) (by decide)
      exact x_as (g_pure (d := .int ((m * 64409 + i % 2147483423 * 31 + 13) % 2147483423)) (fun μ _ => by simp [finF, stS, sSq, sAs, sRt, sRtN, sIf, sNx, sEx, evV, evC, evAnd, evOr, evNot, evIte, evOp, evCall, evNil, evCons, evTup, evLst, evBi, evIsi, evChain, evSqT, evSqL, evSlice, evNo, evSo, asInt, pick, gNm, gTp, gLs, gsCons, gsNil, Out.bind, noX, cmpF, binF, isiD, tyName, isSub, ordD, isD, lenD, subscD, seqOf, intD, absD, str_inj, sP2, sP3, e1, e2, addD, key]) ⟨fun x hx => hd x (by simp [hx]), _, _, _, rfl⟩)
    · rintro ρ ⟨_, h⟩
      exact h
  have h3 : ∀ ρ, (∃ a2 m a4, ρ = [.v (.scr (ns.map .int)), .v (.int t), a2, .v (.int m), a4]) → Nx P (sAs (evIte (evOp (cmpF .Lt) (evV 1) (evBi lenD (evCons (evV 0) evNil))) (evBi intD (evCons (evOp subscD (evV 0) (evV 1)) evNil)) (evC (.int 0))) (gNm 4)) ρ
      fun ρ => ∃ a2 m w, ρ = [.v (.scr (ns.map .int)), .v (.int t), a2, .v (.int m), .v (.int w)] := by
    rintro ρ ⟨a2, m, a4, rfl⟩
    by_cases hl : t < ns.length
    · obtain ⟨x, hx, ex⟩ := atI_in (xs := ns.map D.int) (f := t) (by omega) (by simpa using hl)
      obtain ⟨i, _, rfl⟩ := List.mem_map.mp hx
      exact x_as (g_pure (d := .int i) (fun μ _ => k_iteT (μ1 := μ) (by simp [finF, stS, sSq, sAs, sRt, sRtN, sIf, sNx, sEx, evV, evC, evAnd, evOr, evNot, evIte, evOp, evCall, evNil, evCons, evTup, evLst, evBi, evIsi, evChain, evSqT, evSqL, evSlice, evNo, evSo, asInt, pick, gNm, gTp, gLs, gsCons, gsNil, Out.bind, noX, cmpF, binF, isiD, tyName, isSub, ordD, isD, lenD, subscD, seqOf, intD, absD, str_inj, sP2, sP3, hl]) (by simp [finF, stS, sSq, sAs, sRt, sRtN, sIf, sNx, sEx, evV, evC, evAnd, evOr, evNot, evIte, evOp, evCall, evNil, evCons, evTup, evLst, evBi, evIsi, evChain, evSqT, evSqL, evSlice, evNo, evSo, asInt, pick, gNm, gTp, gLs, gsCons, gsNil, Out.bind, noX, cmpF, binF, isiD, tyName, isSub, ordD, isD, lenD, subscD, seqOf, intD, absD, str_inj, sP2, sP3, ex])) ⟨_, _, _, rfl⟩)
    · exact x_as (g_pure (d := .int 0) (fun μ _ => k_iteF (μ1 := μ) (by simp [finF, stS, sSq, sAs, sRt, sRtN, sIf, sNx, sEx, evV, evC, evAnd, evOr, evNot, evIte, evOp, evCall, evNil, evCons, evTup, evLst, evBi, evIsi, evChain, evSqT, evSqL, evSlice, evNo, evSo, asInt, pick, gNm, gTp, gLs, gsCons, gsNil, Out.bind, noX, cmpF, binF, isiD, tyName, isSub, ordD, isD, lenD, subscD, seqOf, intD, absD, str_inj, sP2, sP3, hl]) rfl) ⟨_, _, _, rfl⟩)
  have h4 : ∀ ρ, (∃ a2 m w, ρ = [.v (.scr (ns.map .int)), .v (.int t), a2, .v (.int m), .v (.int w)]) → Nx P (sAs (evOp (fun _ => binF .Mod) (evBi intD (evCons (evOp (fun _ => binF .Add) (evOp (fun _ => binF .Add) (evOp (fun _ => binF .Mult) (evV 3) (evC (.int 61))) (evOp (fun _ => binF .Mult) (evOp (fun _ => binF .Mod) (evBi intD (evCons (evV 4) evNil)) (evC (.int 2147483423))) (evC (.int 30011)))) (evC (.int 7))) evNil)) (evC (.int 2147483423))) (gNm 3)) ρ
      fun ρ => ∃ a2 m w, ρ = [.v (.scr (ns.map .int)), .v (.int t), a2, .v (.int m), .v (.int w)] := by
    rintro ρ ⟨a2, m, w, rfl⟩
    have e1 : mulD (.int m) (.int 61) = some (.int (m * 61)) := mulR _ _ (by decide) (by decide)
    have e2 : mulD (.int (w % 2147483423)) (.int 30011) = some (.int (w % 2147483423 * 30011)) := mulR _ _ (by decide) (by decide)
    exact x_as (g_pure (d := .int ((m * 61 + w % 2147483423 * 30011 + 7) % 2147483423)) (fun μ _ => by simp [finF, stS, sSq, sAs, sRt, sRtN, sIf, sNx, sEx, evV, evC, evAnd, evOr, evNot, evIte, evOp, evCall, evNil, evCons, evTup, evLst, evBi, evIsi, evChain, evSqT, evSqL, evSlice, evNo, evSo, asInt, pick, gNm, gTp, gLs, gsCons, gsNil, Out.bind, noX, cmpF, binF, isiD, tyName, isSub, ordD, isD, lenD, subscD, seqOf, intD, absD, str_inj, sP2, sP3, e1, e2, addD, key]) ⟨_, _, _, rfl⟩)
  obtain ⟨ρ1, μ1, e1, p1, s1⟩ := h1 μ rfl
  obtain ⟨ρ2, μ2, e2, p2, s2⟩ := h2 ρ1 s1 μ1 p1
  obtain ⟨ρ3, μ3, e3, p3, s3⟩ := h3 ρ2 s2 μ2 p2
  obtain ⟨ρ4, μ4, e4, p4, a2, m, w, rfl⟩ := h4 ρ3 s3 μ3 p3
  have p4 : μ4 = μ := p4
  subst p4
  have pw : powD (.int 10) (.int 15) = some (.int 1000000000000000) := by simp [powD]
  have fin : ∃ a : Int, evIte (evOr (evOp (cmpF .Lt) (evV 4) (evC (.int 0))) (evOp (cmpF .GtE) (evV 4) (evOp (fun _ => binF .Pow) (evC (.int 10)) (evC (.int 15))))) (evBi absD (evCons (evV 4) evNil)) (evC (.int 0)) [.v (.scr (ns.map .int)), .v (.int t), a2, .v (.int m), .v (.int w)] μ4 = .ok (.int a) μ4 := by
    have c : (evOr (evOp (cmpF .Lt) (evV 4) (evC (.int 0))) (evOp (cmpF .GtE) (evV 4) (evOp (fun _ => binF .Pow) (evC (.int 10)) (evC (.int 15))))) [.v (.scr (ns.map .int)), .v (.int t), a2, .v (.int m), .v (.int w)] μ4 = .ok (.bl (decide (w < 0) || decide (1000000000000000 ≤ w))) μ4 := k_or (by simp [finF, stS, sSq, sAs, sRt, sRtN, sIf, sNx, sEx, evV, evC, evAnd, evOr, evNot, evIte, evOp, evCall, evNil, evCons, evTup, evLst, evBi, evIsi, evChain, evSqT, evSqL, evSlice, evNo, evSo, asInt, pick, gNm, gTp, gLs, gsCons, gsNil, Out.bind, noX, cmpF, binF, isiD, tyName, isSub, ordD, isD, lenD, subscD, seqOf, intD, absD, str_inj, sP2, sP3, ]) fun _ => by simp [finF, stS, sSq, sAs, sRt, sRtN, sIf, sNx, sEx, evV, evC, evAnd, evOr, evNot, evIte, evOp, evCall, evNil, evCons, evTup, evLst, evBi, evIsi, evChain, evSqT, evSqL, evSlice, evNo, evSo, asInt, pick, gNm, gTp, gLs, gsCons, gsNil, Out.bind, noX, cmpF, binF, isiD, tyName, isSub, ordD, isD, lenD, subscD, seqOf, intD, absD, str_inj, sP2, sP3, pw]
    cases q : (decide (w < 0) || decide (1000000000000000 ≤ w)) with
    | true => rw [q] at c; exact ⟨if w < 0 then -w else w, k_iteT c (by simp [finF, stS, sSq, sAs, sRt, sRtN, sIf, sNx, sEx, evV, evC, evAnd, evOr, evNot, evIte, evOp, evCall, evNil, evCons, evTup, evLst, evBi, evIsi, evChain, evSqT, evSqL, evSlice, evNo, evSo, asInt, pick, gNm, gTp, gLs, gsCons, gsNil, Out.bind, noX, cmpF, binF, isiD, tyName, isSub, ordD, isD, lenD, subscD, seqOf, intD, absD, str_inj, sP2, sP3, ])⟩
    | false => rw [q] at c; exact ⟨0, k_iteF c rfl⟩
  obtain ⟨a, fin⟩ := fin
  refine ⟨a, m, ?_⟩
  show finF N__law_pail es__law_pail _ μ4 = _
  refine r_fin (r_seq e1 (r_seq e2 (r_seq e3 (r_seq e4 (r_ret ?_)))))
  simp only [evLstC, evCons, evNil, fin, Out.bind]
  simp only [evV, evC, List.getElem?_cons_zero, List.getElem?_cons_succ]
  rw [if_pos (sz (by simp))]
/-- the pails -/
theorem two_pails (ns : List Int) : ∃ μ, PM μ ∧ lcL (gNm 2) (evC (.bl true)) (evCall F__law_pail 2 0 [some 0, some 1] (evCons (evV 0) (evCons (evV 2) evNil)) evNil) [2] [.v (.scr (ns.map .int)), .un, .un, .un] [.int 0, .int 1] [] = .ok [.cell 0, .cell 1] μ := by
  obtain ⟨a0, b0, e0⟩ := m_pail (ns := ns) (t := 0) [] (.inl rfl)
  obtain ⟨a1, b1, e1⟩ := m_pail (ns := ns) (t := 1) ([] ++ [.lst [.int a0, .int b0, .int 0]]) (.inr rfl)
  have pm : PM ([] ++ [.lst [.int a0, .int b0, .int 0]] ++ [.lst [.int a1, .int b1, .int 0]]) := ⟨by simp, fun l hl => by
    match l, hl with
    | 0, _ => exact ⟨_, _, _, rfl⟩
    | 1, _ => exact ⟨_, _, _, rfl⟩⟩
  refine ⟨_, pm, ?_⟩
  have c0 : evCall F__law_pail 2 0 [some 0, some 1] (evCons (evV 0) (evCons (evV 2) evNil)) evNil [.v (.scr (ns.map .int)), .un, .v (.int 0), .un] [] = .ok (.cell 0) ([] ++ [.lst [.int a0, .int b0, .int 0]]) := e0
  have c1 : evCall F__law_pail 2 0 [some 0, some 1] (evCons (evV 0) (evCons (evV 2) evNil)) evNil [.v (.scr (ns.map .int)), .un, .v (.int 1), .un] ([] ++ [.lst [.int a0, .int b0, .int 0]]) = .ok (.cell 1) ([] ++ [.lst [.int a0, .int b0, .int 0]] ++ [.lst [.int a1, .int b1, .int 0]]) := e1
  simp only [lcL, gNm, evC, wipeS, noX, Out.bind, List.set_cons_succ, List.set_cons_zero, c0, c1]
/-- all([right(pails[int(k) % 2]) for k in range(n)]) -/
theorem g_all {n : Nat} (hn : n ≤ 1000) {ns : List Int} {fn : Fun} (h : ∀ l, l < 2 → GvF PM fn [.cell l] fun d => d = .bl true) : Gv PM (evBi allD (evCons (evLc (evR1 (evCons (evC (.int n)) evNil)) (gNm 3) (evC (.bl true)) (evCall fn 1 0 [some 0] (evCons (evOp subscD (evV 1) (evOp (fun _ => binF .Mod) (evBi intD (evCons (evV 3) evNil)) (evC (.int 2)))) evNil) evNil) [3]) evNil)) [.v (.scr (ns.map .int)), .v (.lst [.cell 0, .cell 1]), .un, .un] fun d => d = .bl true := by
  refine g_bi (gl_cons (R1 := fun d => ∃ ys, d = .lst ys ∧ ∀ y ∈ ys, y = .bl true) (g_lc (R1 := fun d => d = .bl true) (gl_r1 (n := n) (g_c ⟨rfl, by omega, szl (by simp [rngD]; omega), fun d hd => ?_, fun ys _ hy => ⟨ys, rfl, hy⟩⟩))) fun d ⟨ys, hd, hy⟩ => gl_nil ⟨.bl true, fun μ _ => ?_, rfl⟩)
  · obtain ⟨i, hi, rfl⟩ := List.mem_map.mp hd
    have hm : ∀ μ : Mem, evOp subscD (evV 1) (evOp (fun _ => binF .Mod) (evBi intD (evCons (evV 3) evNil)) (evC (.int 2))) ((wipeS [.v (.scr (ns.map .int)), .v (.lst [.cell 0, .cell 1]), .un, .un] [3]).set 3 (.v (.int (0 + (i : Int))))) μ = .ok (.cell (i % 2)) μ := fun μ => by
      have e := modP (0 + (i : Int)) 2 (by decide)
      have h2 : ((0 + (i : Int)) % 2 = 0 ∧ i % 2 = 0) ∨ ((0 + (i : Int)) % 2 = 1 ∧ i % 2 = 1) := by omega
      rcases h2 with ⟨q1, q2⟩ | ⟨q1, q2⟩
      · rw [q1] at e
        refine k_op (x := .lst [.cell 0, .cell 1]) (y := .int 0) (μ1 := μ) rfl (k_op (x := .int (0 + (i : Int))) (y := .int 2) (μ1 := μ) rfl rfl e) (by rw [q2]; rfl)
      · rw [q1] at e
        refine k_op (x := .lst [.cell 0, .cell 1]) (y := .int 1) (μ1 := μ) rfl (k_op (x := .int (0 + (i : Int))) (y := .int 2) (μ1 := μ) rfl rfl e) (by rw [q2]; rfl)
    exact g_call (gl_cons (R1 := fun d => d = .cell (i % 2)) (g_pure (fun μ _ => hm μ) rfl) fun d1 h1 => gl_nil (gl_nil ⟨rfl, rfl, by subst h1; exact h _ (Nat.mod_lt _ (by decide))⟩))
  · subst hd
    have e : ys = (List.replicate ys.length true).map D.bl := by
      rw [List.map_replicate]
      exact List.eq_replicate_iff.mpr ⟨rfl, hy⟩
    rw [e]
    simp only [allD, seqOf, bools_bl, Option.map]
    simp
/-- the pails, then the rest -/
theorem law_of {ns : List Int} {er : Ev} (hN : N_law = (["script", "pails", "turn", "k"] : List Str)) (h : Gv PM er [.v (.scr (ns.map .int)), .v (.lst [.cell 0, .cell 1]), .un, .un] fun d => d = .bl true)
    (he : F_law = finF N_law (sSq (sAs (evLc (evR1 (evCons (evC (.int 2)) evNil)) (gNm 2) (evC (.bl true)) (evCall F__law_pail 2 0 [some 0, some 1] (evCons (evV 0) (evCons (evV 2) evNil)) evNil) [2]) (gNm 1)) (sRt er))) : ∃ μ, F_law [.scr (ns.map .int)] [] = .ok (.bl true) μ := by
  obtain ⟨μ, pm, lc⟩ := two_pails ns
  have r2 : evR1 (evCons (evC (.int 2)) evNil) [.v (.scr (ns.map .int)), .un, .un, .un] [] = .ok [.int 0, .int 1] [] := by simp [finF, stS, sSq, sAs, sRt, sRtN, sIf, sNx, sEx, evV, evC, evAnd, evOr, evNot, evIte, evOp, evCall, evNil, evCons, evTup, evLst, evBi, evIsi, evChain, evSqT, evSqL, evSlice, evNo, evSo, asInt, pick, gNm, gTp, gLs, gsCons, gsNil, Out.bind, noX, cmpF, binF, isiD, tyName, isSub, ordD, isD, lenD, subscD, seqOf, intD, absD, str_inj, sP2, sP3, evR1]; rfl
  have hz : [D.int 0, .int 1].length ≤ sizeLine := sz (by simp)
  obtain ⟨d, μ', e, _, rfl⟩ := h _ pm
  rw [he]
  have st : stS N_law [.scr (ns.map .int)] = [.v (.scr (ns.map .int)), .un, .un, .un] := by rw [hN]; rfl
  refine ⟨μ', r_fin (r_seq (ρ1 := [.v (.scr (ns.map .int)), .v (.lst [.cell 0, .cell 1]), .un, .un]) (μ1 := μ) ?_ (r_ret e))⟩
  rw [st]
  refine n_as (ρ := [.v (.scr (ns.map .int)), .un, .un, .un]) (i := 1) (d := .lst [.cell 0, .cell 1]) ?_
  simp only [evLc, r2, Out.bind, if_pos hz, lc]
end W74


set_option Elab.async false
set_option linter.all false
set_option maxRecDepth 100000
set_option maxHeartbeats 1000000
namespace W74
open PySem PyI
theorem g_and {P : Mem → Prop} {ρ : Sls} {ea eb : Ev} (h1 : Gv P ea ρ fun d => d = .bl true) (h2 : Gv P eb ρ fun d => d = .bl true) : Gv P (evAnd ea eb) ρ fun d => d = .bl true := fun μ p => by
  obtain ⟨d, μ1, e1, p1, rfl⟩ := h1 μ p
  obtain ⟨d, μ2, e2, p2, rfl⟩ := h2 μ1 p1
  exact ⟨_, μ2, by simp [evAnd, e1, e2, Out.bind], p2, rfl⟩
theorem math (ns : List Int) : ∃ μ, F_law [.scr (ns.map .int)] [] = .ok (.bl true) μ :=
  law_of (ns := ns) rfl (g_and (g_call (gl_nil (gl_nil ⟨rfl, rfl, v_known⟩))) (g_all (n := 6) (by decide) fun l hl => v_right hl)) rfl
end W74



theorem PySem.Challenge.cw_stilltwins_k74_whole_webs_laid_holds : PySem.Challenge.rw_stilltwins_k74_whole_webs_laid.Holds := by
  exact W74.holds fun ns _ _ => W74.math ns
