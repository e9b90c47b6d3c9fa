import PyProof.Rows.All
import Wide.All
import OpenK.AllK
import Wide.FinOn
import HandS.ForMost
import HandS.Exc
import HandS.ExcOwn
import HandS.TryOnly
import HandS.TryMany
import HandS.WordsExc
import HandS.IsInst
import HandS.Flow
import HandS.Wide
import HandS.TupMul
import HandS.Style
import HandS.Zip
import KE.KDictWalk
import HandS.Iter
import HandS.Conv
import HandS.Defaults
import HandS.Ends
import PySem.Challenge.RW_soldrises_k59_whole_two_rounds_one_row
set_option Elab.async false
set_option linter.all false
set_option maxRecDepth 100000
set_option maxHeartbeats 0
/-! data trees, the mutable store, the relation to the abstract heap -/
namespace DL
open L2 PyProof.Rows PySem.Spec PySem

abbrev Sg := L2.St
/-- values as data -/
inductive D where
  | non | bl (b : Bool) | int (i : Int) | str (x : Str)
  | tup (xs : List D) | lst (xs : List D) | dic (kvs : List (Key × D)) | loc (xs : List D) | ref (n : Nat)
/-- what a place may hold that changes -/
inductive MO where
  | lst (xs : List D) | dic (kvs : List (Key × D)) | dT (kvs : List (List Key × D)) | ins (c : Str) (fs : List (Str × D)) | gone
/-- a local name: unset, a value, an object of its own -/
inductive Slot where
  | no | val (d : D) | own (m : MO)
structure S where
  env : List Slot
  mem : List MO
  lo : Nat
/-- an error: its class by name, the field that it bears -/
structure Ex where
  c : Str
  f : Option (Str × D) := none
inductive R (α : Type) where
  | ok (a : α) (s : S) | exc (x : Ex) (s : S) | bad

structure Gh where
  F : Hp
  mu : List Addr

section
variable (K : PySem.W.Frag)
mutual
inductive Rep (g : Gh) : D → V → Prop
  | non : Rep g .non .non
  | bl (b : Bool) : Rep g (.bl b) (.bl b)
  | int (i : Int) : Rep g (.int i) (.int i)
  | str (x : Str) : Rep g (.str x) (.str x)
  | tup {ds : List D} {a : Addr} {vs : List V} : g.F a = some (.tup vs) → Reps g ds vs → Rep g (.tup ds) (.ref a)
  | lst {ds : List D} {a : Addr} {vs : List V} : g.F a = some (.lst vs) → Reps g ds vs → Rep g (.lst ds) (.ref a)
  | dic {kvs : List (Key × D)} {a : Addr} {ws : List (Key × V)} : g.F a = some (.dK ws) → RepK g kvs ws → Rep g (.dic kvs) (.ref a)
  | loc {ds : List D} {a : Addr} {vs : List V} : SqL K g.F a vs → Reps g ds vs → Rep g (.loc ds) (.ref a)
  | ref {n : Nat} {a : Addr} : g.mu[n]? = some a → Rep g (.ref n) (.ref a)
inductive Reps (g : Gh) : List D → List V → Prop
  | nil : Reps g [] []
  | cons {d : D} {v : V} {ds : List D} {vs : List V} : Rep g d v → Reps g ds vs → Reps g (d :: ds) (v :: vs)
inductive RepK (g : Gh) : List (Key × D) → List (Key × V) → Prop
  | nil : RepK g [] []
  | cons {k : Key} {d : D} {v : V} {ds : List (Key × D)} {vs : List (Key × V)} : Rep g d v → RepK g ds vs → RepK g ((k, d) :: ds) ((k, v) :: vs)
end
/-- .. with tuple keys, with names -/
inductive RepA (g : Gh) {κ : Type} : List (κ × D) → List (κ × V) → Prop
  | nil : RepA g [] []
  | cons {k : κ} {d : D} {v : V} {ds : List (κ × D)} {vs : List (κ × V)} : Rep K g d v → RepA g ds vs → RepA g ((k, d) :: ds) ((k, v) :: vs)

/-- a class by its name -/
abbrev Mg := Str → Option Value
def RepO (mg : Mg) (g : Gh) : MO → HO → Prop
  | .lst ds, o => ∃ vs, o = .lst vs ∧ Reps K g ds vs
  | .dic kvs, o => ∃ ws, o = .dK ws ∧ RepK K g kvs ws
  | .dT kvs, o => ∃ ws, o = .dT ws ∧ RepA K g kvs ws
  | .ins c fs, o => ∃ C dx ws, o = .ins C dx ws ∧ mg c = some (.ref C) ∧ RepA K g fs ws
  | .gone, _ => True
def RepM (mg : Mg) (g : Gh) (H : Hp) (m : MO) (a : Addr) : Prop := ∃ o, H a = some o ∧ RepO K mg g m o
end

def Mono (g g' : Gh) : Prop := Same g.F g'.F ∧ g.mu <+: g'.mu
theorem Mono.refl (g : Gh) : Mono g g := ⟨Same.refl _, List.prefix_rfl⟩
theorem Mono.trans {a b c : Gh} (x : Mono a b) (y : Mono b c) : Mono a c := ⟨x.1.trans y.1, x.2.trans y.2⟩
theorem pre_get {α : Type} {l m : List α} (h : l <+: m) {n : Nat} {a : α} (e : l[n]? = some a) : m[n]? = some a := by
  obtain ⟨r, rfl⟩ := h
  rw [List.getElem?_append_left (List.getElem?_eq_some_iff.mp e).1]; exact e

section
variable {K : PySem.W.Frag} {g g' : Gh}
mutual
theorem Rep.mono (m : Mono g g') {d : D} {v : V} : Rep K g d v → Rep K g' d v
  | .non => .non | .bl b => .bl b | .int i => .int i | .str x => .str x
  | .tup e r => .tup (m.1 _ _ e) (Reps.mono m r)
  | .lst e r => .lst (m.1 _ _ e) (Reps.mono m r)
  | .dic e r => .dic (m.1 _ _ e) (RepK.mono m r)
  | .loc e r => .loc (m.1.seq e) (Reps.mono m r)
  | .ref e => .ref (pre_get m.2 e)
theorem Reps.mono (m : Mono g g') {ds : List D} {vs : List V} : Reps K g ds vs → Reps K g' ds vs
  | .nil => .nil
  | .cons r t => .cons (Rep.mono m r) (Reps.mono m t)
theorem RepK.mono (m : Mono g g') {ds : List (Key × D)} {vs : List (Key × V)} : RepK K g ds vs → RepK K g' ds vs
  | .nil => .nil
  | .cons r t => .cons (Rep.mono m r) (RepK.mono m t)
end
theorem RepA.mono (m : Mono g g') {κ : Type} {ds : List (κ × D)} {vs : List (κ × V)} (h : RepA K g ds vs) : RepA K g' ds vs := by
  induction h with
  | nil => exact .nil
  | cons r _ ih => exact .cons (r.mono m) ih
theorem RepO.mono {mg : Mg} (m : Mono g g') {mo : MO} {o : HO} (h : RepO K mg g mo o) : RepO K mg g' mo o := by
  cases mo with
  | lst ds => obtain ⟨vs, e, r⟩ := h; exact ⟨vs, e, r.mono m⟩
  | dic ds => obtain ⟨vs, e, r⟩ := h; exact ⟨vs, e, r.mono m⟩
  | dT ds => obtain ⟨vs, e, r⟩ := h; exact ⟨vs, e, r.mono m⟩
  | ins c fs => obtain ⟨C, dx, ws, e, q, r⟩ := h; exact ⟨C, dx, ws, e, q, r.mono m⟩
  | gone => exact True.intro
theorem RepO.notTup {mg : Mg} {mo : MO} {vs : List V} (h : RepO K mg g mo (.tup vs)) : mo = .gone := by
  cases mo with
  | lst ds => obtain ⟨vs, e, r⟩ := h; cases e
  | dic ds => obtain ⟨vs, e, r⟩ := h; cases e
  | dT ds => obtain ⟨vs, e, r⟩ := h; cases e
  | ins c fs => obtain ⟨C, dx, ws, e, q, r⟩ := h; cases e
  | gone => rfl
theorem Reps.length {ds : List D} : ∀ {vs : List V}, Reps K g ds vs → ds.length = vs.length := by
  induction ds with
  | nil => intro vs h; cases h; rfl
  | cons d r ih => intro vs h; cases h with | cons a b => simp [ih b]
theorem Reps.get {ds : List D} : ∀ {vs : List V} {i : Nat} {d : D}, Reps K g ds vs → ds[i]? = some d → ∃ v, vs[i]? = some v ∧ Rep K g d v := by
  induction ds with
  | nil => intro vs i d h e; simp at e
  | cons x r ih =>
    intro vs i d h e
    cases h with
    | cons a b =>
      cases i with
      | zero => simp at e; subst e; exact ⟨_, rfl, a⟩
      | succ i => simpa using ih b (by simpa using e)
theorem Reps.getV {ds : List D} {vs : List V} {i : Nat} {v : V} (h : Reps K g ds vs) (e : vs[i]? = some v) : ∃ d, ds[i]? = some d ∧ Rep K g d v := by
  have hl := h.length
  have hi : i < ds.length := by rw [hl]; exact (List.getElem?_eq_some_iff.mp e).1
  obtain ⟨w, e', r⟩ := h.get (List.getElem?_eq_getElem hi)
  rw [e] at e'; cases e'
  exact ⟨_, List.getElem?_eq_getElem hi, r⟩
theorem Reps.append {ds es : List D} : ∀ {vs ws : List V}, Reps K g ds vs → Reps K g es ws → Reps K g (ds ++ es) (vs ++ ws) := by
  induction ds with
  | nil => intro vs ws h k; cases h; exact k
  | cons d r ih => intro vs ws h k; cases h with | cons a b => exact .cons a (ih b k)
theorem Reps.one {d : D} {v : V} (r : Rep K g d v) : Reps K g [d] [v] := .cons r .nil
theorem Reps.drop {ds : List D} : ∀ {vs : List V} (n : Nat), Reps K g ds vs → Reps K g (ds.drop n) (vs.drop n) := by
  induction ds with
  | nil => intro vs n h; cases h; simp; exact .nil
  | cons d r ih => intro vs n h; cases h with | cons a b => cases n with | zero => exact .cons a b | succ n => exact ih n b
theorem Reps.take {ds : List D} : ∀ {vs : List V} (n : Nat), Reps K g ds vs → Reps K g (ds.take n) (vs.take n) := by
  induction ds with
  | nil => intro vs n h; cases h; simp; exact .nil
  | cons d r ih => intro vs n h; cases h with | cons a b => cases n with | zero => exact .nil | succ n => exact .cons a (ih n b)
theorem Reps.set {ds : List D} : ∀ {vs : List V} (n : Nat) {d : D} {v : V}, Reps K g ds vs → Rep K g d v → Reps K g (ds.set n d) (vs.set n v) := by
  induction ds with
  | nil => intro vs n d v h r; cases h; exact .nil
  | cons d r ih => intro vs n d v h q; cases h with | cons a b => cases n with | zero => exact .cons q b | succ n => exact .cons a (ih n b q)
theorem Reps.eraseIdx {ds : List D} : ∀ {vs : List V} (n : Nat), Reps K g ds vs → Reps K g (ds.eraseIdx n) (vs.eraseIdx n) := by
  induction ds with
  | nil => intro vs n h; cases h; exact .nil
  | cons d r ih => intro vs n h; cases h with | cons a b => cases n with | zero => exact b | succ n => exact .cons a (ih n b)
theorem Reps.reverse {ds : List D} : ∀ {vs : List V}, Reps K g ds vs → Reps K g ds.reverse vs.reverse := by
  induction ds with
  | nil => intro vs h; cases h; exact .nil
  | cons d r ih => intro vs h; cases h with | cons a b => simp only [List.reverse_cons]; exact (ih b).append (.one a)
theorem Reps.rep {ds : List D} {vs : List V} (h : Reps K g ds vs) : ∀ n : Nat, Reps K g (List.replicate n ds).flatten (List.replicate n vs).flatten
  | 0 => .nil
  | n + 1 => by simp only [List.replicate_succ, List.flatten_cons]; exact h.append (h.rep n)
theorem Reps.insertIdx {ds : List D} : ∀ {vs : List V} (n : Nat) {d : D} {v : V}, Reps K g ds vs → Rep K g d v → Reps K g (ds.insertIdx n d) (vs.insertIdx n v) := by
  induction ds with
  | nil => intro vs n d v h r; cases h; cases n with | zero => exact .cons r .nil | succ n => exact .nil
  | cons d r ih => intro vs n d v h q; cases h with | cons a b => cases n with | zero => exact .cons q (.cons a b) | succ n => simp only [List.insertIdx_succ_cons]; exact .cons a (ih n b q)
theorem Reps.ints : ∀ (ns : List Int), Reps K g (ns.map D.int) (ns.map V.int)
  | [] => .nil
  | n :: r => .cons (.int n) (Reps.ints r)
end

/-! ### the states -/
structure Anc (b : Gh) (B : Hp) (g : Gh) (H : Hp) : Prop where
  sub : Same b.F g.F
  pre : b.mu <+: g.mu
  keep : ∀ a o, B a = some o → a ∉ b.mu → H a = some o
  there : ∀ a, B a ≠ none → H a ≠ none
  newF : ∀ a, g.F a ≠ none → b.F a ≠ none ∨ B a = none ∨ a ∈ b.mu ∨ ∃ vs, g.F a = some (.tup vs)
  newM : ∀ a, a ∈ g.mu → a ∈ b.mu ∨ B a = none
def Sz : HO → Prop
  | .lst xs => xs.length ≤ sizeLine
  | .tup xs => xs.length ≤ sizeLine
  | _ => True
structure Core (K : PySem.W.Frag) (mg : Mg) (g : Gh) (H : Hp) (mem : List MO) : Prop where
  sub : Same g.F H
  sz : ∀ a o, H a = some o → Sz o
  len : mem.length = g.mu.length
  nd : g.mu.Nodup
  obj : ∀ (n : Nat) (mo : MO) (a : Addr), mem[n]? = some mo → g.mu[n]? = some a → RepM K mg g H mo a ∧ (mo ≠ .gone → g.F a = none)
structure Wf (K : PySem.W.Frag) (mg : Mg) (b : Gh) (B : Hp) (g : Gh) (σ : Sg) (H : Hp) (s : S) : Prop where
  core : Core K mg g H s.mem
  anc : Anc b B g H
  lo : s.lo = b.mu.length
  len : σ.length = s.env.length
  val : ∀ (i : Nat) (d : D), s.env[i]? = some (.val d) → ∃ v, σ[i]? = some (some v) ∧ Rep K g d v
  own : ∀ (i : Nat) (mo : MO), s.env[i]? = some (.own mo) → mo ≠ .gone ∧ ∃ a, σ[i]? = some (some (.ref a)) ∧ g.F a = none ∧ a ∉ g.mu ∧ B a = none ∧ RepM K mg g H mo a
  dist : ∀ (i j : Nat) (mi mj : MO) (a : Addr), s.env[i]? = some (.own mi) → s.env[j]? = some (.own mj) → σ[i]? = some (some (.ref a)) → σ[j]? = some (some (.ref a)) → i = j

theorem Anc.refl {K : PySem.W.Frag} {mg : Mg} {g : Gh} {H : Hp} {mem : List MO} (c : Core K mg g H mem) : Anc g H g H :=
  ⟨Same.refl _, List.prefix_rfl, fun _ _ e _ => e, fun _ h => h, fun _ h => .inl h, fun _ h => .inl h⟩
theorem Anc.mono {b : Gh} {B : Hp} {g : Gh} {H : Hp} (a : Anc b B g H) : Mono b g := ⟨a.sub, a.pre⟩
theorem Anc.trans {b g k : Gh} {B H J : Hp} (x : Anc b B g H) (y : Anc g H k J) : Anc b B k J where
  sub := x.sub.trans y.sub
  pre := x.pre.trans y.pre
  keep := fun a o e n => y.keep a o (x.keep a o e n) fun hm => (x.newM a hm).elim n fun z => by rw [e] at z; cases z
  there := fun a h => y.there a (x.there a h)
  newF := fun a h => by
    rcases y.newF a h with q | q | q | q
    · rcases x.newF a q with z | z | z | ⟨vs, z⟩
      · exact .inl z
      · exact .inr (.inl z)
      · exact .inr (.inr (.inl z))
      · exact .inr (.inr (.inr ⟨vs, y.sub _ _ z⟩))
    · exact .inr (.inl (Classical.byContradiction fun z => x.there a z q))
    · rcases x.newM a q with z | z
      · exact .inr (.inr (.inl z))
      · exact .inr (.inl z)
    · exact .inr (.inr (.inr q))
  newM := fun a h => (y.newM a h).elim (fun q => x.newM a q) fun q => .inr (Classical.byContradiction fun z => x.there a z q)

/-- an address that nobody owns yet -/
structure Fresh (b : Gh) (B : Hp) (g : Gh) (σ : Sg) (s : S) (a : Addr) : Prop where
  F : g.F a = none
  mu : a ∉ g.mu
  B : B a = none
  own : ∀ (i : Nat) (mo : MO), s.env[i]? = some (.own mo) → σ[i]? ≠ some (some (.ref a))

section
variable {K : PySem.W.Frag} {mg : Mg} {b g g' : Gh} {B H H' : Hp} {σ : Sg} {s s' : S} {p : Addr} {o : HO}
theorem Core.tracked (c : Core K mg g H s.mem) {a : Addr} (h : a ∈ g.mu) : H a ≠ none := by
  obtain ⟨n, hn⟩ := List.mem_iff_getElem?.mp h
  have hl : n < s.mem.length := by rw [c.len]; exact (List.getElem?_eq_some_iff.mp hn).1
  obtain ⟨⟨o, e, _⟩, _⟩ := c.obj n _ a (List.getElem?_eq_getElem hl) hn
  rw [e]; simp
theorem Wf.fresh (w : Wf K mg b B g σ H s) (h : H p = none) : Fresh b B g σ s p where
  F := by cases q : g.F p with | none => rfl | some o => rw [w.core.sub p o q] at h; cases h
  mu := fun hm => w.core.tracked hm h
  B := by cases q : B p with | none => rfl | some o => exact absurd h (w.anc.there p (by rw [q]; simp))
  own := fun i mo e z => by
    obtain ⟨_, a, ea, _, _, _, o, ho, _⟩ := w.own i mo e
    rw [ea] at z
    cases z
    rw [h] at ho; cases ho
/-- the heap may change at an address that nobody owns -/
theorem Wf.upd (w : Wf K mg b B g σ H s) (f : Fresh b B g σ s p) (o : HO) (so : Sz o) : Wf K mg b B g σ (upd H p o) s := by
  have ne : ∀ a, a ∈ g.mu → a ≠ p := fun a h e => f.mu (e ▸ h)
  refine ⟨⟨fun a u e => ?_, fun a u e => ?_, w.core.len, w.core.nd, fun n mo a e1 e2 => ?_⟩, ⟨w.anc.sub, w.anc.pre, fun a u e n => ?_, fun a h => ?_, w.anc.newF, w.anc.newM⟩, w.lo, w.len, w.val, fun i mo e => ?_, w.dist⟩
  · rw [upd_ne (fun z => by rw [z, f.F] at e; cases e)]; exact w.core.sub a u e
  · by_cases z : a = p
    · rw [z, upd_same] at e; cases e; exact so
    · rw [upd_ne z] at e; exact w.core.sz a u e
  · obtain ⟨⟨u, e3, r⟩, q⟩ := w.core.obj n mo a e1 e2
    exact ⟨⟨u, by rw [upd_ne (ne a (List.mem_of_getElem? e2))]; exact e3, r⟩, q⟩
  · rw [upd_ne (fun z => by rw [z, f.B] at e; cases e)]; exact w.anc.keep a u e n
  · rw [upd_ne (fun z => h (by rw [z]; exact f.B))]; exact w.anc.there a h
  · obtain ⟨n, a, e1, e2, e3, e4, u, e5, r⟩ := w.own i mo e
    exact ⟨n, a, e1, e2, e3, e4, u, by rw [upd_ne (fun z => f.own i mo e (by rw [e1, z]))]; exact e5, r⟩
theorem Wf.valMono (w : Wf K mg b B g σ H s) (m : Mono g g') {i : Nat} {d : D} (e : s.env[i]? = some (.val d)) : ∃ v, σ[i]? = some (some v) ∧ Rep K g' d v := by
  obtain ⟨v, h, r⟩ := w.val i d e
  exact ⟨v, h, r.mono m⟩

/-! ### what becomes of a fresh object -/
/-- the data of a store's object -/
def MO.d : MO → D
  | .lst xs => .lst xs
  | .dic kvs => .dic kvs
  | _ => .non
def MO.plain : MO → Bool
  | .lst _ => true
  | .dic _ => true
  | _ => false
abbrev Gh.fz (g : Gh) (p : Addr) (o : HO) : Gh := ⟨L2.upd g.F p o, g.mu⟩
theorem mono_fz (f : g.F p = none) : Mono g (g.fz p o) := ⟨fun a u e => by show L2.upd g.F p o a = some u; rw [upd_ne (fun z => by rw [z, f] at e; cases e)]; exact e, List.prefix_rfl⟩
theorem rep_fz {m : MO} (f : g.F p = none) (hp : m.plain = true) (r : RepO K mg g m o) : Rep K (g.fz p o) m.d (.ref p) := by
  have mm : Mono g (g.fz p o) := mono_fz f
  cases m with
  | lst ds => obtain ⟨vs, e, r⟩ := r; exact .lst (by show L2.upd g.F p o p = _; rw [upd_same, e]) (r.mono mm)
  | dic ds => obtain ⟨vs, e, r⟩ := r; exact .dic (by show L2.upd g.F p o p = _; rw [upd_same, e]) (r.mono mm)
  | dT _ => cases hp
  | ins _ _ => cases hp
  | gone => cases hp
theorem Wf.frozen (w : Wf K mg b B g σ H s) (f : Fresh b B g σ s p) (h : H p = some o) : Wf K mg b B (g.fz p o) σ H s := by
  have mm : Mono g (g.fz p o) := mono_fz f.F
  have ne : ∀ a, a ≠ p → (g.fz p o).F a = g.F a := fun a h => upd_ne h
  refine ⟨⟨fun a u e => ?_, w.core.sz, w.core.len, w.core.nd, fun n mo a e1 e2 => ?_⟩, ⟨w.anc.sub.trans mm.1, w.anc.pre, w.anc.keep, w.anc.there, fun a h => ?_, w.anc.newM⟩, w.lo, w.len, fun i d e => w.valMono mm e, fun i mo e => ?_, w.dist⟩
  · by_cases z : a = p
    · subst z
      rw [show (g.fz a o).F a = some o from upd_same] at e
      cases e; exact h
    · rw [ne a z] at e; exact w.core.sub a u e
  · obtain ⟨⟨u, e3, r⟩, q⟩ := w.core.obj n mo a e1 e2
    refine ⟨⟨u, e3, r.mono mm⟩, fun hn => ?_⟩
    rw [ne a (fun z => f.mu (z ▸ List.mem_of_getElem? e2))]; exact q hn
  · by_cases z : a = p
    · exact .inr (.inl (z ▸ f.B))
    · rw [ne a z] at h
      rcases w.anc.newF a h with q | q | q | ⟨vs, q⟩
      · exact .inl q
      · exact .inr (.inl q)
      · exact .inr (.inr (.inl q))
      · exact .inr (.inr (.inr ⟨vs, by rw [ne a z]; exact q⟩))
  · obtain ⟨n, a, e1, e2, e3, e4, u, e5, r⟩ := w.own i mo e
    refine ⟨n, a, e1, ?_, e3, e4, u, e5, r.mono mm⟩
    rw [ne a (fun z => f.own i mo e (by rw [e1, z]))]; exact e2
abbrev Gh.nu (g : Gh) (p : Addr) : Gh := ⟨g.F, g.mu ++ [p]⟩
theorem mono_nu : Mono g (g.nu p) := ⟨Same.refl _, List.prefix_append _ _⟩
theorem rep_nu : Rep K (g.nu p) (.ref g.mu.length) (.ref p) := .ref (by show (g.mu ++ [p])[g.mu.length]? = some p; simp)
theorem Wf.interned (w : Wf K mg b B g σ H s) (f : Fresh b B g σ s p) {m : MO} (h : RepM K mg g H m p) (hm : m ≠ .gone) : Wf K mg b B (g.nu p) σ H { s with mem := s.mem ++ [m] } := by
  have mm : Mono g (g.nu p) := mono_nu
  refine ⟨⟨w.core.sub, w.core.sz, by simp [w.core.len], ?_, fun n mo a e1 e2 => ?_⟩, ⟨w.anc.sub, w.anc.pre.trans mm.2, w.anc.keep, w.anc.there, w.anc.newF, fun a h => ?_⟩, w.lo, w.len, fun i d e => w.valMono mm e, fun i mo e => ?_, w.dist⟩
  · show (g.mu ++ [p]).Nodup
    rw [List.nodup_append]
    exact ⟨w.core.nd, by simp, fun a ha c hc => by simp at hc; subst hc; exact fun z => f.mu (z ▸ ha)⟩
  · have e1 : (s.mem ++ [m])[n]? = some mo := e1
    have e2 : (g.mu ++ [p])[n]? = some a := e2
    by_cases hn : n < s.mem.length
    · rw [List.getElem?_append_left hn] at e1
      rw [List.getElem?_append_left (by rw [← w.core.len]; exact hn)] at e2
      obtain ⟨⟨u, e3, r⟩, q⟩ := w.core.obj n mo a e1 e2
      exact ⟨⟨u, e3, r.mono mm⟩, q⟩
    · have en : n = s.mem.length := by
        have := (List.getElem?_eq_some_iff.mp e1).1
        simp at this; omega
      subst en
      simp at e1
      rw [w.core.len] at e2
      simp at e2
      subst e1 e2
      obtain ⟨u, e3, r⟩ := h
      exact ⟨⟨u, e3, r.mono mm⟩, fun _ => f.F⟩
  · have h : a ∈ g.mu ++ [p] := h
    rcases List.mem_append.mp h with h | h
    · exact w.anc.newM a h
    · simp at h; subst h; exact .inr f.B
  · obtain ⟨n, a, e1, e2, e3, e4, u, e5, r⟩ := w.own i mo e
    refine ⟨n, a, e1, e2, fun hm => ?_, e4, u, e5, r.mono mm⟩
    have hm : a ∈ g.mu ++ [p] := hm
    rcases List.mem_append.mp hm with hm | hm
    · exact e3 hm
    · simp at hm; exact f.own i mo e (by rw [e1, hm])
/-- a slot gets a value -/
theorem Wf.setVal (w : Wf K mg b B g σ H s) {i : Nat} {d : D} {v : V} (r : Rep K g d v) : Wf K mg b B g (σ.set i (some v)) H { s with env := s.env.set i (.val d) } := by
  refine ⟨w.core, w.anc, w.lo, by simp [w.len], fun j e h => ?_, fun j mo h => ?_, fun j k mj mk a h1 h2 h3 h4 => ?_⟩
  · by_cases hj : j = i
    · subst hj
      rw [List.getElem?_set] at h
      simp at h
      obtain ⟨hl, rfl⟩ := h
      exact ⟨v, by rw [List.getElem?_set]; simp [w.len, hl], r⟩
    · have h : (s.env.set i (.val d))[j]? = some (.val e) := h
      rw [List.getElem?_set_ne (Ne.symm hj)] at h
      rw [List.getElem?_set_ne (Ne.symm hj)]
      exact w.val j e h
  · have h : (s.env.set i (.val d))[j]? = some (.own mo) := h
    by_cases hj : j = i
    · subst hj
      rw [List.getElem?_set] at h
      simp at h
    · rw [List.getElem?_set_ne (Ne.symm hj)] at h ⊢
      exact w.own j mo h
  · have h1 : (s.env.set i (.val d))[j]? = some (.own mj) := h1
    have h2 : (s.env.set i (.val d))[k]? = some (.own mk) := h2
    have hj : j ≠ i := fun z => by subst z; rw [List.getElem?_set] at h1; simp at h1
    have hk : k ≠ i := fun z => by subst z; rw [List.getElem?_set] at h2; simp at h2
    rw [List.getElem?_set_ne (Ne.symm hj)] at h1 h3
    rw [List.getElem?_set_ne (Ne.symm hk)] at h2 h4
    exact w.dist j k mj mk a h1 h2 h3 h4
theorem Wf.setNo (w : Wf K mg b B g σ H s) {i : Nat} {x : Option V} : Wf K mg b B g (σ.set i x) H { s with env := s.env.set i .no } := by
  refine ⟨w.core, w.anc, w.lo, by simp [w.len], fun j e h => ?_, fun j mo h => ?_, fun j k mj mk a h1 h2 h3 h4 => ?_⟩
  · have h : (s.env.set i .no)[j]? = some (.val e) := h
    have hj : j ≠ i := fun z => by subst z; rw [List.getElem?_set] at h; simp at h
    rw [List.getElem?_set_ne (Ne.symm hj)] at h ⊢
    exact w.val j e h
  · have h : (s.env.set i .no)[j]? = some (.own mo) := h
    have hj : j ≠ i := fun z => by subst z; rw [List.getElem?_set] at h; simp at h
    rw [List.getElem?_set_ne (Ne.symm hj)] at h ⊢
    exact w.own j mo h
  · have h1 : (s.env.set i .no)[j]? = some (.own mj) := h1
    have h2 : (s.env.set i .no)[k]? = some (.own mk) := h2
    have hj : j ≠ i := fun z => by subst z; rw [List.getElem?_set] at h1; simp at h1
    have hk : k ≠ i := fun z => by subst z; rw [List.getElem?_set] at h2; simp at h2
    rw [List.getElem?_set_ne (Ne.symm hj)] at h1 h3
    rw [List.getElem?_set_ne (Ne.symm hk)] at h2 h4
    exact w.dist j k mj mk a h1 h2 h3 h4
/-- a slot gets an object of its own -/
theorem Wf.setOwn (w : Wf K mg b B g σ H s) (f : Fresh b B g σ s p) {i : Nat} {m : MO} (h : RepM K mg g H m p) (hm : m ≠ .gone) : Wf K mg b B g (σ.set i (some (.ref p))) H { s with env := s.env.set i (.own m) } := by
  refine ⟨w.core, w.anc, w.lo, by simp [w.len], fun j e h => ?_, fun j mo h' => ?_, fun j k mj mk a h1 h2 h3 h4 => ?_⟩
  · have h : (s.env.set i (.own m))[j]? = some (.val e) := h
    have hj : j ≠ i := fun z => by subst z; rw [List.getElem?_set] at h; simp at h
    rw [List.getElem?_set_ne (Ne.symm hj)] at h ⊢
    exact w.val j e h
  · have h' : (s.env.set i (.own m))[j]? = some (.own mo) := h'
    by_cases hj : j = i
    · subst hj
      rw [List.getElem?_set] at h'
      simp at h'
      obtain ⟨hl, rfl⟩ := h'
      exact ⟨hm, p, by rw [List.getElem?_set]; simp [w.len, hl], f.F, f.mu, f.B, h⟩
    · rw [List.getElem?_set_ne (Ne.symm hj)] at h' ⊢
      exact w.own j mo h'
  · have h1 : (s.env.set i (.own m))[j]? = some (.own mj) := h1
    have h2 : (s.env.set i (.own m))[k]? = some (.own mk) := h2
    by_cases hj : j = i
    · by_cases hk : k = i
      · rw [hj, hk]
      · subst hj
        rw [List.getElem?_set_ne (Ne.symm hk)] at h2 h4
        have hl : j < s.env.length := by have := (List.getElem?_eq_some_iff.mp h1).1; simpa using this
        rw [List.getElem?_set] at h3
        simp [w.len, hl] at h3
        subst h3
        exact absurd h4 (f.own k mk h2)
    · rw [List.getElem?_set_ne (Ne.symm hj)] at h1 h3
      by_cases hk : k = i
      · subst hk
        have hl : k < s.env.length := by have := (List.getElem?_eq_some_iff.mp h2).1; simpa using this
        rw [List.getElem?_set] at h4
        simp [w.len, hl] at h4
        subst h4
        have h1' : (s.env.set k (.own m))[j]? = some (.own mj) := h1
        rw [List.getElem?_set_ne (Ne.symm hj)] at h1'
        exact absurd h3 (f.own j mj h1')
      · rw [List.getElem?_set_ne (Ne.symm hk)] at h2 h4
        exact w.dist j k mj mk a h1 h2 h3 h4
end
end DL

/-! results, judgements, binds, names, constants, operators -/
namespace DL
open L2 PyProof.Rows PySem.Spec PySem

def R.bind {α β : Type} (r : R α) (k : α → S → R β) : R β := match r with
  | .ok a s => k a s
  | .exc x s => .exc x s
  | .bad => .bad
theorem bind_ok {α β : Type} (a : α) (s : S) (k : α → S → R β) : (R.ok a s).bind k = k a s := rfl
theorem bind_exc {α β : Type} (x : Ex) (s : S) (k : α → S → R β) : (R.exc x s : R α).bind k = .exc x s := rfl
theorem bind_bad {α β : Type} (k : α → S → R β) : (R.bad : R α).bind k = .bad := rfl
/-- an option as a result -/
def R.of {α : Type} (o : Option α) (s : S) : R α := match o with
  | some a => .ok a s
  | none => .bad
theorem of_some {α : Type} (a : α) (s : S) : R.of (some a) s = .ok a s := rfl

/-- an error's class and own dict -/
def ERep (K : PySem.W.Frag) (mg : Mg) (g : Gh) (H : Hp) (x : Ex) (cls : Value) (dd : Option Addr) : Prop :=
  ∃ C, mg x.c = some (.ref C) ∧ cls = .ref C ∧ match x.f with
    | none => dd = none
    | some (f, d) => ∃ dx v, dd = some dx ∧ H dx = some (.xd [(f, v)]) ∧ Rep K g d v

abbrev RRel (α β : Type) := Sg → Gh → α → β → Prop
section
variable (K : PySem.W.Frag) (mg : Mg) (b : Gh) (B : Hp) (W : WX)
def Post {α β : Type} (RR : RRel α β) (σ : Sg) (g : Gh) (r : R α) (Q : β → Hp → Prop) : Prop := match r with
  | .ok a s' => ∀ g' H' v, Mono g g' → Wf K mg b B g' σ H' s' → RR σ g' a v → Q v H'
  | .exc x s' => ∀ g' H' cls dd, Mono g g' → Wf K mg b B g' σ H' s' → ERep K mg g' H' x cls dd → W cls dd σ H'
  | .bad => False
def L {α β : Type} (RR : RRel α β) (t : S → R α) : Sg → Hp → (β → Hp → Prop) → Prop := fun σ H Q => ∃ g s, Wf K mg b B g σ H s ∧ Post K mg b B W RR σ g (t s) Q
end
def rrD (K : PySem.W.Frag) : RRel D V := fun _ g => Rep K g
def rrB : RRel Bool Bool := fun _ _ b c => b = c
def rrA (K : PySem.W.Frag) : RRel (List D) (List V) := fun _ g => Reps K g

section
variable {K : PySem.W.Frag} {mg : Mg} {b : Gh} {B : Hp} {W : WX} {α β γ δ : Type} {RR : RRel α β} {RS : RRel γ δ} {σ : Sg} {g g' : Gh} {H : Hp} {s : S} {r : R α}
theorem Post.mono (m : Mono g g') {Q : β → Hp → Prop} (h : Post K mg b B W RR σ g r Q) : Post K mg b B W RR σ g' r Q := by
  cases r with
  | ok a s' => exact fun k H' v m' w r => h k H' v (m.trans m') w r
  | exc x s' => exact fun k H' c d m' w r => h k H' c d (m.trans m') w r
  | bad => exact h
theorem Post.imp {Q Q' : β → Hp → Prop} (h : Post K mg b B W RR σ g r Q) (k : ∀ v H', Q v H' → Q' v H') : Post K mg b B W RR σ g r Q' := by
  cases r with
  | ok a s' => exact fun c H' v m' w r => k _ _ (h c H' v m' w r)
  | exc x s' => exact h
  | bad => exact h
theorem Post.bind {k : α → S → R γ} {Q : δ → Hp → Prop} (h : Post K mg b B W RS σ g (r.bind k) Q) :
    Post K mg b B W RR σ g r fun v H1 => ∃ g1 s1 a, Mono g g1 ∧ Wf K mg b B g1 σ H1 s1 ∧ RR σ g1 a v ∧ Post K mg b B W RS σ g1 (k a s1) Q := by
  cases r with
  | ok a s' => exact fun c H' v m w r => ⟨c, s', a, m, w, r, Post.mono m h⟩
  | exc x s' => exact h
  | bad => exact h
theorem L.mk {t : S → R α} (w : Wf K mg b B g σ H s) {Q : β → Hp → Prop} (h : Post K mg b B W RR σ g (t s) Q) : L K mg b B W RR t σ H Q := ⟨g, s, w, h⟩
/-- a leaf -/
theorem Post.here {a : α} {v : β} {Q : β → Hp → Prop} (h : Post K mg b B W RR σ g (.ok a s) Q) (w : Wf K mg b B g σ H s) (r : RR σ g a v) : Q v H := h g H v (.refl g) w r
theorem Post.next {a : α} {v : β} {Q : β → Hp → Prop} (h : Post K mg b B W RR σ g (.ok a s) Q) (m : Mono g g') (w : Wf K mg b B g' σ H s) (r : RR σ g' a v) : Q v H := h g' H v m w r
end

/-! ### judgements -/
section
variable (X : Cx) (W : WX)
abbrev DEf := S → R D
def DE (e : Expr) (t : S → R D) : Prop := ∀ b B, PE X e (L X.K X.mg b B W (rrD X.K) t)
def DT (e : Expr) (t : S → R Bool) : Prop := ∀ b B, PT X e (L X.K X.mg b B W rrB t)
def DW (e : Expr) (t : S → R Bool) : Prop := ∀ b B, PW X e (L X.K X.mg b B W rrB t)
structure DA (es : List Expr) (t : S → R (List D)) : Prop where
  run : ∀ b B, PA X es (L X.K X.mg b B W (rrA X.K) t)
  len : ∀ s ds s', t s = .ok ds s' → ds.length = es.length
end
theorem PE.weak {X : Cx} {e : Expr} {t t' : TE} (h : PE X e t) (k : ∀ σ H Q, t' σ H Q → t σ H Q) : PE X e t' := ⟨fun pins s σ H Q I q => h.run pins s σ H Q I (k σ H Q q)⟩
theorem PT.weak {X : Cx} {e : Expr} {t t' : TT} (h : PT X e t) (k : ∀ σ H Q, t' σ H Q → t σ H Q) : PT X e t' := ⟨fun pins s σ H Q I q => h.run pins s σ H Q I (k σ H Q q)⟩
theorem PW.weak {X : Cx} {e : Expr} {t t' : TT} (h : PW X e t) (k : ∀ σ H Q, t' σ H Q → t σ H Q) : PW X e t' := ⟨fun wh pins s σ H Q I q => h.run wh pins s σ H Q I (k σ H Q q)⟩
theorem PA.weak {X : Cx} {es : List Expr} {t t' : TA} (h : PA X es t) (k : ∀ σ H Q, t' σ H Q → t σ H Q) : PA X es t' := ⟨fun pos pins s σ H Q I q => h.run pos pins s σ H Q I (k σ H Q q)⟩

/-! ### handles: a value, or the object that a slot owns -/
/-- what is handed to a reader: data, or (own i) the place of slot i -/
inductive Hd where
  | d (d : D) | own (i : Nat)
def RepH (K : PySem.W.Frag) (σ : Sg) (g : Gh) : Hd → V → Prop
  | .d d, v => Rep K g d v
  | .own i, v => σ[i]? = some (some v)
def rrH (K : PySem.W.Frag) : RRel Hd V := fun σ g => RepH K σ g
theorem RepH.mono {K : PySem.W.Frag} {σ : Sg} {g g' : Gh} (m : Mono g g') {h : Hd} {v : V} (r : RepH K σ g h v) : RepH K σ g' h v := by
  cases h with
  | d d => exact Rep.mono m r
  | own i => exact r
def HE (X : Cx) (W : WX) (e : Expr) (t : S → R Hd) : Prop := ∀ b B, PE X e (L X.K X.mg b B W (rrH X.K) t)
def hD (t : S → R D) : S → R Hd := fun s => (t s).bind fun d s1 => .ok (.d d) s1
theorem he_of {X : Cx} {W : WX} {e : Expr} {t : S → R D} (h : DE X W e t) : HE X W e (hD t) := fun b B => PE.weak (h b B) fun σ H Q ⟨g, s, w, p⟩ =>
  ⟨g, s, w, (Post.bind (RR := rrD X.K) p).imp fun v H' ⟨g1, s1, a, m, w1, r, q⟩ => Post.here q w1 r⟩
def dPk (i : Nat) : S → R Hd := fun s => match s.env[i]? with
  | some (.val d) => .ok (.d d) s
  | some (.own _) => .ok (.own i) s
  | _ => .bad
theorem he_pk {X : Cx} {W : WX} {i : Nat} {x : Str} {pos : Pos} (hN : X.N[i]? = some x) (hv : Vis X.env.scope x) (hd : (x == ("__debug__" : Str)) = false := by decide) (hcd : (x == ("__classdict__" : Str)) = false := by decide) : HE X W (.Name x pos) (dPk i) := fun b B => PE.weak (pe_var hN hv hd hcd) fun σ H Q ⟨g, s, w, p⟩ => by
  unfold dPk at p
  split at p
  · next d e =>
    obtain ⟨v, h, r⟩ := w.val i d e
    exact ⟨v, h, p.here w r⟩
  · next mo e =>
    obtain ⟨_, a, h, _⟩ := w.own i mo e
    exact ⟨.ref a, h, p.here w h⟩
  · exact p.elim
/-- a name as a value: what it owns is given away (it is data from then on) -/
def dVar (i : Nat) : S → R D := fun s => match s.env[i]? with
  | some (.val d) => .ok d s
  | some (.own m) => if m.plain then .ok m.d { s with env := s.env.set i (.val m.d) } else .bad
  | _ => .bad
theorem setE {α : Type} {l : List α} {i : Nat} {a : α} (h : l[i]? = some a) : l.set i a = l := by
  apply List.ext_getElem?
  intro j
  by_cases e : i = j
  · subst e
    rw [List.getElem?_set_self (List.getElem?_eq_some_iff.mp h).1, h]
  · rw [List.getElem?_set_ne e]
/-- an own object is given away -/
theorem Wf.given {K : PySem.W.Frag} {mg : Mg} {b : Gh} {B : Hp} {g : Gh} {σ : Sg} {H : Hp} {s : S} (w : Wf K mg b B g σ H s) {i : Nat} {m : MO} (e : s.env[i]? = some (.own m)) (hp : m.plain = true) :
    ∃ (a : Addr) (o : HO), σ[i]? = some (some (.ref a)) ∧ Mono g (g.fz a o) ∧ Wf K mg b B (g.fz a o) σ H { s with env := s.env.set i (.val m.d) } ∧ Rep K (g.fz a o) m.d (.ref a) := by
  obtain ⟨hg, a, h1, h2, h3, h4, o, h5, h6⟩ := w.own i m e
  have w0 := w.setNo (i := i) (x := some (.ref a))
  rw [setE h1] at w0
  have f : Fresh b B g σ { s with env := s.env.set i .no } a := by
    refine ⟨h2, h3, h4, fun j mo e2 z => ?_⟩
    have e2 : (s.env.set i .no)[j]? = some (.own mo) := e2
    have hj : j ≠ i := fun z => by subst z; rw [List.getElem?_set] at e2; simp at e2
    rw [List.getElem?_set_ne (Ne.symm hj)] at e2
    exact hj (w.dist j i mo m a e2 e z h1)
  have r := rep_fz (K := K) (mg := mg) h2 hp h6
  have w1 := (w0.frozen f h5).setVal (i := i) r
  rw [setE h1] at w1
  have es : (s.env.set i Slot.no).set i (Slot.val m.d) = s.env.set i (.val m.d) := by rw [List.set_set]
  refine ⟨a, o, h1, mono_fz h2, ?_, r⟩
  have w2 : Wf K mg b B (g.fz a o) σ H { s with env := (s.env.set i Slot.no).set i (Slot.val m.d) } := w1
  rw [es] at w2
  exact w2
theorem de_var {X : Cx} {W : WX} {i : Nat} {x : Str} {pos : Pos} (hN : X.N[i]? = some x) (hv : Vis X.env.scope x) (hd : (x == ("__debug__" : Str)) = false := by decide) (hcd : (x == ("__classdict__" : Str)) = false := by decide) : DE X W (.Name x pos) (dVar i) := fun b B => PE.weak (pe_var hN hv hd hcd) fun σ H Q ⟨g, s, w, p⟩ => by
  unfold dVar at p
  split at p
  · next d e =>
    obtain ⟨v, h, r⟩ := w.val i d e
    exact ⟨v, h, p.here w r⟩
  · next mo e =>
    split at p
    · next hp =>
      obtain ⟨a, o, h1, m, w1, r⟩ := w.given e hp
      exact ⟨.ref a, h1, p.next m w1 r⟩
    · exact p.elim
  · exact p.elim
/-- constants -/
def dC (d : D) : S → R D := fun s => .ok d s
section
variable {X : Cx} {W : WX} {j : Nat} {pos : Pos}
theorem de_int {i : Int} : DE X W (.Constant (.int i) j pos) (dC (.int i)) := fun b B => PE.weak pe_int fun σ H Q ⟨g, s, w, p⟩ => p.here w (.int i)
theorem de_bl {c : Bool} : DE X W (.Constant (.bool c) j pos) (dC (.bl c)) := fun b B => PE.weak pe_bl fun σ H Q ⟨g, s, w, p⟩ => p.here w (.bl c)
theorem de_non : DE X W (.Constant .none j pos) (dC .non) := fun b B => PE.weak pe_non fun σ H Q ⟨g, s, w, p⟩ => p.here w .non
theorem de_str {x : Str} : DE X W (.Constant (.str x) j pos) (dC (.str x)) := fun b B => PE.weak pe_str fun σ H Q ⟨g, s, w, p⟩ => p.here w (.str x)
/-- a module's int -/
theorem de_gint {x : Str} {i : Int} {t : Tok} (hg : Gl X x) (hm : X.mg x = some (.int i t)) (hd : (x == ("__debug__" : Str)) = false := by decide) : DE X W (.Name x pos) (dC (.int i)) :=
  fun b B => PE.weak (pe_glob (v := .int i) hg hm ⟨t, rfl⟩ hd) fun σ H Q ⟨g, s, w, p⟩ => p.here w (.int i)
theorem de_gstr {x : Str} {i : Str} {t : Tok} (hg : Gl X x) (hm : X.mg x = some (.str i t)) (hd : (x == ("__debug__" : Str)) = false := by decide) : DE X W (.Name x pos) (dC (.str i)) :=
  fun b B => PE.weak (pe_glob (v := .str i) hg hm ⟨t, rfl⟩ hd) fun σ H Q ⟨g, s, w, p⟩ => p.here w (.str i)
end

/-! ### two operands -/
def two {α β γ : Type} (ta : S → R α) (tb : S → R β) (f : α → β → S → R γ) : S → R γ := fun s => (ta s).bind fun x s1 => (tb s1).bind fun y s2 => f x y s2
def one {α γ : Type} (ta : S → R α) (f : α → S → R γ) : S → R γ := fun s => (ta s).bind fun x s1 => f x s1
/-- what an operation of two handles asks -/
def Op2 (X : Cx) (W : WX) (f : Hd → Hd → S → R D) (r : R2) : Prop := ∀ b B g σ H s x y hx hy (Q : VK), Wf X.K X.mg b B g σ H s → RepH X.K σ g x hx → RepH X.K σ g y hy → Post X.K X.mg b B W (rrD X.K) σ g (f x y s) Q → r hx hy H Q
def Op1 (X : Cx) (W : WX) (f : Hd → S → R D) (r : V → Hp → VK → Prop) : Prop := ∀ b B g σ H s x hx (Q : VK), Wf X.K X.mg b B g σ H s → RepH X.K σ g x hx → Post X.K X.mg b B W (rrD X.K) σ g (f x s) Q → r hx H Q
section
variable {X : Cx} {W : WX} {pos : Pos} {a e : Expr} {ta tb : S → R Hd} {r : R2} {f : Hd → Hd → S → R D}
theorem op2_to (hf : Op2 X W f r) (b : Gh) (B : Hp) : ∀ σ H Q, L X.K X.mg b B W (rrD X.K) (two ta tb f) σ H Q → tOp r (L X.K X.mg b B W (rrH X.K) ta) (L X.K X.mg b B W (rrH X.K) tb) σ H Q := fun σ H Q ⟨g, s, w, p⟩ =>
  ⟨g, s, w, (Post.bind (RR := rrH X.K) p).imp fun v H1 ⟨g1, s1, x, m1, w1, r1, p1⟩ =>
    ⟨g1, s1, w1, (Post.bind (RR := rrH X.K) p1).imp fun u H2 ⟨g2, s2, y, m2, w2, r2, p2⟩ => hf b B g2 σ H2 s2 x y v u Q w2 (RepH.mono m2 r1) r2 p2⟩⟩
theorem op1_to {r : V → Hp → VK → Prop} {f : Hd → S → R D} (hf : Op1 X W f r) (b : Gh) (B : Hp) : ∀ σ H Q, L X.K X.mg b B W (rrD X.K) (one ta f) σ H Q → (L X.K X.mg b B W (rrH X.K) ta) σ H fun x H1 => r x H1 Q := fun σ H Q ⟨g, s, w, p⟩ =>
  ⟨g, s, w, (Post.bind (RR := rrH X.K) p).imp fun v H1 ⟨g1, s1, x, m1, w1, r1, p1⟩ => hf b B g1 σ H1 s1 x v Q w1 r1 p1⟩
theorem de_bin {op : Operator} (ho : OpR X (binaryOp op) r) (hf : Op2 X W f r) (ha : HE X W a ta) (hb : HE X W e tb) : DE X W (.BinOp a op e pos) (two ta tb f) :=
  fun b B => PE.weak (pe_op ho (ha b B) (hb b B)) (op2_to hf b B)
theorem de_cmp {op : CmpOp} (ho : OpR X (compareOp op) r) (hf : Op2 X W f r) (ha : HE X W a ta) (hb : HE X W e tb) (hm : behindInMarks op e = false) : DE X W (.Compare a [op] [e] pos) (two ta tb f) :=
  fun b B => PE.weak (pe_cmpR ho (ha b B) (hb b B) hm) (op2_to hf b B)
theorem de_un {op : UnaryOp} {r : V → Hp → VK → Prop} {f : Hd → S → R D} (ho : UnR X (unaryOp op) r) (hf : Op1 X W f r) (ha : HE X W a ta) : DE X W (.UnaryOp op a pos) (one ta f) :=
  fun b B => PE.weak (pe_un ho (ha b B)) (op1_to hf b B)
theorem de_ix {i : Expr} (ho : IxR X r) (hf : Op2 X W f r) (ha : HE X W a ta) (hb : HE X W i tb) (hs : PlainIx i) : DE X W (.Subscript a i pos) (two ta tb f) :=
  fun b B => PE.weak (pe_ix ho (ha b B) (hb b B) hs) (op2_to hf b B)
/-- a bool as a test -/
def asB (t : S → R D) : S → R Bool := fun s => (t s).bind fun d s1 => match d with
  | .bl c => .ok c s1
  | _ => .bad
theorem asB_to {t : S → R D} (b : Gh) (B : Hp) : ∀ σ H Q, L X.K X.mg b B W rrB (asB t) σ H Q → (L X.K X.mg b B W (rrD X.K) t) σ H fun x H1 => ∃ c, x = .bl c ∧ Q c H1 := fun σ H Q ⟨g, s, w, p⟩ =>
  ⟨g, s, w, (Post.bind (RR := rrD X.K) p).imp fun v H1 ⟨g1, s1, d, m1, w1, r1, p1⟩ => by
    cases r1 with
    | bl c => exact ⟨c, rfl, p1.here w1 rfl⟩
    | _ => exact p1.elim⟩
theorem dt_cmp {op : CmpOp} (ho : OpR X (compareOp op) r) (hf : Op2 X W f r) (ha : HE X W a ta) (hb : HE X W e tb) (hm : behindInMarks op e = false) : DT X W (.Compare a [op] [e] pos) (asB (two ta tb f)) :=
  fun b B => PT.weak (pt_cmpR ho (ha b B) (hb b B) hm) fun σ H Q q => op2_to hf b B σ H _ (by
    obtain ⟨g, s, w, p⟩ := q
    refine ⟨g, s, w, (Post.bind (RR := rrD X.K) p).imp fun v H1 ⟨g1, s1, d, m1, w1, r1, p1⟩ => ?_⟩
    cases r1 with
    | bl c => exact ⟨c, rfl, p1.here w1 rfl⟩
    | _ => exact p1.elim)
/-- a expression of a kind whose test is its value's, known to be a bool -/
theorem dt_val {t : S → R D} (h : DE X W a t) (he : ∀ whole, isTrue a X.env whole = (do let v ← whole; standAt a.pos; holding [v] (truthy v)) := by intro _; rfl) : DT X W a (asB t) :=
  fun b B => PT.weak (pt_val (h b B) he) (asB_to b B)

/-! ### and, or, not of tests -/
def tAnd (t u : S → R Bool) : S → R Bool := fun s => (t s).bind fun c s1 => if c = true then u s1 else .ok false s1
def tOr (t u : S → R Bool) : S → R Bool := fun s => (t s).bind fun c s1 => if c = true then .ok true s1 else u s1
def tNot (t : S → R Bool) : S → R Bool := fun s => (t s).bind fun c s1 => .ok (!c) s1
variable {t u : S → R Bool} {rest : List Expr}
theorem dw_and1 (h : DT X W a t) : DW X W (.BoolOp .And [a] pos) t := fun b B => pw_and1 (h b B)
theorem dw_or1 (h : DT X W a t) : DW X W (.BoolOp .Or [a] pos) t := fun b B => pw_or1 (h b B)
theorem dw_and (h : DT X W a t) (k : DW X W (.BoolOp .And (e :: rest) pos) u) : DW X W (.BoolOp .And (a :: e :: rest) pos) (tAnd t u) := fun b B =>
  PW.weak (pw_and (h b B) (k b B)) fun σ H Q ⟨g, s, w, p⟩ => ⟨g, s, w, (Post.bind (RR := rrB) p).imp fun v H1 ⟨g1, s1, c, m1, w1, r1, p1⟩ => by
    cases r1
    cases v with
    | true => rw [if_pos rfl]; exact ⟨g1, s1, w1, p1⟩
    | false => rw [if_neg Bool.false_ne_true]; exact Post.here (RR := rrB) p1 w1 rfl⟩
theorem dw_or (h : DT X W a t) (k : DW X W (.BoolOp .Or (e :: rest) pos) u) : DW X W (.BoolOp .Or (a :: e :: rest) pos) (tOr t u) := fun b B =>
  PW.weak (pw_or (h b B) (k b B)) fun σ H Q ⟨g, s, w, p⟩ => ⟨g, s, w, (Post.bind (RR := rrB) p).imp fun v H1 ⟨g1, s1, c, m1, w1, r1, p1⟩ => by
    cases r1
    cases v with
    | true => rw [if_pos rfl]; exact Post.here (RR := rrB) p1 w1 rfl
    | false => rw [if_neg Bool.false_ne_true]; exact ⟨g1, s1, w1, p1⟩⟩
theorem dt_bool (h : DW X W a t) : DT X W a t := fun b B => (h b B).pt
theorem dt_not (h : DT X W a t) : DT X W (.UnaryOp .Not a pos) (tNot t) := fun b B =>
  PT.weak (pt_not (h b B)) fun σ H Q ⟨g, s, w, p⟩ => ⟨g, s, w, (Post.bind (RR := rrB) p).imp fun v H1 ⟨g1, s1, c, m1, w1, r1, p1⟩ => by
    cases r1
    exact Post.here (RR := rrB) p1 w1 rfl⟩
/-- a if t else e -/
def dIf (t : S → R Bool) (ta tb : S → R D) : S → R D := fun s => (t s).bind fun c s1 => if c = true then ta s1 else tb s1
theorem de_if {c : Expr} {ta tb : S → R D} (hc : DT X W c t) (ha : DE X W a ta) (hb : DE X W e tb) : DE X W (.IfExp c a e pos) (dIf t ta tb) := fun b B =>
  PE.weak (pe_ifExp (hc b B) (ha b B) (hb b B)) fun σ H Q ⟨g, s, w, p⟩ => ⟨g, s, w, (Post.bind (RR := rrB) p).imp fun v H1 ⟨g1, s1, c, m1, w1, r1, p1⟩ => by
    cases r1
    cases v with
    | true => rw [if_pos rfl] at p1 ⊢; exact ⟨g1, s1, w1, p1⟩
    | false => rw [if_neg Bool.false_ne_true] at p1 ⊢; exact ⟨g1, s1, w1, p1⟩⟩
end

/-! ### argument lists -/
def aNil : S → R (List D) := fun s => .ok [] s
def aCons (t : S → R D) (u : S → R (List D)) : S → R (List D) := fun s => (t s).bind fun d s1 => (u s1).bind fun ds s2 => .ok (d :: ds) s2
def RepHs (K : PySem.W.Frag) (σ : Sg) (g : Gh) : List Hd → List V → Prop
  | [], [] => True
  | h :: hs, v :: vs => RepH K σ g h v ∧ RepHs K σ g hs vs
  | _, _ => False
def rrHs (K : PySem.W.Frag) : RRel (List Hd) (List V) := fun σ g => RepHs K σ g
def HA (X : Cx) (W : WX) (es : List Expr) (t : S → R (List Hd)) : Prop := ∀ b B, PA X es (L X.K X.mg b B W (rrHs X.K) t)
def hNil : S → R (List Hd) := fun s => .ok [] s
def hCons (t : S → R Hd) (u : S → R (List Hd)) : S → R (List Hd) := fun s => (t s).bind fun d s1 => (u s1).bind fun ds s2 => .ok (d :: ds) s2
section
variable {X : Cx} {W : WX} {e : Expr} {es : List Expr} {t : S → R D} {u : S → R (List D)}
theorem da_nil : DA X W [] aNil := ⟨fun b B => PA.weak pa_nil fun σ H Q ⟨g, s, w, p⟩ => Post.here (RR := rrA X.K) p w .nil, fun s ds s' e => by cases e; rfl⟩
theorem bind_inv {α β : Type} {r : R α} {k : α → S → R β} {a : β} {s : S} (h : r.bind k = .ok a s) : ∃ c s1, r = .ok c s1 ∧ k c s1 = .ok a s := by
  cases r with
  | ok c s1 => exact ⟨c, s1, rfl, h⟩
  | exc x s1 => cases h
  | bad => cases h
theorem da_cons (h : DE X W e t) (k : DA X W es u) (hs : starEach (e :: es) X.env = (false, eval e X.env) :: starEach es X.env := by rfl) : DA X W (e :: es) (aCons t u) := ⟨fun b B =>
  PA.weak (pa_cons (h b B) (k.run b B) hs) fun σ H Q ⟨g, s, w, p⟩ => ⟨g, s, w, (Post.bind (RR := rrD X.K) p).imp fun v H1 ⟨g1, s1, d, m1, w1, r1, p1⟩ =>
    ⟨g1, s1, w1, (Post.bind (RR := rrA X.K) p1).imp fun vs H2 ⟨g2, s2, ds, m2, w2, r2, p2⟩ => Post.here (RR := rrA X.K) p2 w2 (.cons (r1.mono m2) r2)⟩⟩,
  fun s ds s' q => by
    obtain ⟨d, s1, _, q⟩ := bind_inv q
    obtain ⟨r, s2, q1, q⟩ := bind_inv q
    cases q
    simp [k.len _ _ _ q1]⟩
theorem ha_nil : HA X W [] hNil := fun b B => PA.weak pa_nil fun σ H Q ⟨g, s, w, p⟩ => Post.here (RR := rrHs X.K) p w trivial
theorem RepHs.mono {K : PySem.W.Frag} {σ : Sg} {g g' : Gh} (m : Mono g g') : ∀ {hs : List Hd} {vs : List V}, RepHs K σ g hs vs → RepHs K σ g' hs vs
  | [], [], _ => trivial
  | _ :: _, _ :: _, ⟨a, b⟩ => ⟨a.mono m, RepHs.mono m b⟩
theorem ha_cons {t : S → R Hd} {u : S → R (List Hd)} (h : HE X W e t) (k : HA X W es u) (hs : starEach (e :: es) X.env = (false, eval e X.env) :: starEach es X.env := by rfl) : HA X W (e :: es) (hCons t u) := fun b B =>
  PA.weak (pa_cons (h b B) (k b B) hs) fun σ H Q ⟨g, s, w, p⟩ => ⟨g, s, w, (Post.bind (RR := rrH X.K) p).imp fun v H1 ⟨g1, s1, d, m1, w1, r1, p1⟩ =>
    ⟨g1, s1, w1, (Post.bind (RR := rrHs X.K) p1).imp fun vs H2 ⟨g2, s2, ds, m2, w2, r2, p2⟩ => Post.here (RR := rrHs X.K) p2 w2 ⟨r1.mono m2, r2⟩⟩⟩
theorem RepHs.one {K : PySem.W.Frag} {σ : Sg} {g : Gh} {h : Hd} {vs : List V} (r : RepHs K σ g [h] vs) : ∃ v, vs = [v] ∧ RepH K σ g h v := by
  match vs, r with
  | [v], ⟨a, _⟩ => exact ⟨v, rfl, a⟩
theorem RepHs.two {K : PySem.W.Frag} {σ : Sg} {g : Gh} {h k : Hd} {vs : List V} (r : RepHs K σ g [h, k] vs) : ∃ v u, vs = [v, u] ∧ RepH K σ g h v ∧ RepH K σ g k u := by
  match vs, r with
  | [v, u], ⟨a, b, _⟩ => exact ⟨v, u, rfl, a, b⟩
theorem RepHs.zero {K : PySem.W.Frag} {σ : Sg} {g : Gh} {vs : List V} (r : RepHs K σ g [] vs) : vs = [] := by
  match vs, r with
  | [], _ => rfl
end
end DL

/-! operators on ints, texts; what a handle holds; truth, None, == -/
namespace DL
open L2 PyProof.Rows PySem.Spec PySem

section
variable {K : PySem.W.Frag} {mg : Mg} {b : Gh} {B : Hp} {g : Gh} {σ : Sg} {H : Hp} {s : S}
theorem RepH.int {i : Int} {v : V} (h : RepH K σ g (.d (.int i)) v) : v = .int i := by cases h; rfl
theorem RepH.bl {i : Bool} {v : V} (h : RepH K σ g (.d (.bl i)) v) : v = .bl i := by cases h; rfl
theorem RepH.str {i : Str} {v : V} (h : RepH K σ g (.d (.str i)) v) : v = .str i := by cases h; rfl
theorem RepH.non {v : V} (h : RepH K σ g (.d .non) v) : v = .non := by cases h; rfl
end
/-! ### what a handle holds -/
def holds (h : Hd) (s : S) : Option MO := match h with
  | .d (.lst xs) => some (.lst xs)
  | .d (.dic kvs) => some (.dic kvs)
  | .d (.ref n) => s.mem[n]?
  | .own i => match s.env[i]? with
    | some (.own m) => some m
    | _ => none
  | _ => none
/-- .. may be changed -/
def mine (h : Hd) (s : S) : Option MO := match h with
  | .d (.ref n) => s.mem[n]?
  | .own i => match s.env[i]? with
    | some (.own m) => some m
    | _ => none
  | _ => none
def put (h : Hd) (m : MO) (s : S) : S := match h with
  | .d (.ref n) => { s with mem := s.mem.set n m }
  | .own i => { s with env := s.env.set i (.own m) }
  | _ => s
section
variable {K : PySem.W.Frag} {mg : Mg} {b : Gh} {B : Hp} {g : Gh} {σ : Sg} {H : Hp} {s : S}
theorem holds_rep {h : Hd} {v : V} {m : MO} (w : Wf K mg b B g σ H s) (r : RepH K σ g h v) (e : holds h s = some m) : ∃ a, v = .ref a ∧ RepM K mg g H m a := by
  cases h with
  | own i =>
    unfold holds at e
    simp only at e
    split at e
    · next mo q =>
      cases e
      obtain ⟨_, a, h1, _, _, _, h2⟩ := w.own i _ q
      have r : σ[i]? = some (some v) := r
      rw [h1] at r
      cases r
      exact ⟨a, rfl, h2⟩
    · cases e
  | d d =>
    cases d with
    | lst xs =>
      cases e
      cases r with
      | lst h1 h2 => exact ⟨_, rfl, _, w.core.sub _ _ h1, _, rfl, h2⟩
    | dic xs =>
      cases e
      cases r with
      | dic h1 h2 => exact ⟨_, rfl, _, w.core.sub _ _ h1, _, rfl, h2⟩
    | ref n =>
      cases r with
      | ref h1 => exact ⟨_, rfl, (w.core.obj n m _ e h1).1⟩
    | _ => cases e
theorem mine_holds {h : Hd} {m : MO} (e : mine h s = some m) : holds h s = some m := by
  cases h with
  | own i => exact e
  | d d => cases d <;> first | exact e | cases e
/-- the object at a handle changes -/
theorem wf_put (w : Wf K mg b B g σ H s) {h : Hd} {v : V} {m0 : MO} (r : RepH K σ g h v) (e : mine h s = some m0) (h0 : m0 ≠ .gone) {a : Addr} (ea : v = .ref a) {m : MO} {o : HO} (ro : RepO K mg g m o) (hm : m ≠ .gone) (so : Sz o) :
    Wf K mg b B g σ (upd H a o) (put h m s) := by
  subst ea
  cases h with
  | own i =>
    unfold mine at e
    simp only at e
    split at e
    · next mo q =>
      cases e
      obtain ⟨_, a', h1, h2, h3, h4, h5⟩ := w.own i _ q
      have r : σ[i]? = some (some (.ref a)) := r
      rw [h1] at r
      cases r
      -- forget the slot, change the heap at a, own it again
      have w0 := w.setNo (i := i) (x := some (.ref a))
      rw [setE h1] at w0
      have f : Fresh b B g σ { s with env := s.env.set i .no } a := by
        refine ⟨h2, h3, h4, fun j mo e2 z => ?_⟩
        have e2 : (s.env.set i .no)[j]? = some (.own mo) := e2
        have hj : j ≠ i := fun z => by subst z; rw [List.getElem?_set] at e2; simp at e2
        rw [List.getElem?_set_ne (Ne.symm hj)] at e2
        exact hj (w.dist j i mo _ a e2 q z h1)
      have w1 := (w0.upd f o so).setOwn (i := i) f ⟨o, upd_same, ro⟩ hm
      rw [setE h1] at w1
      have es : (s.env.set i Slot.no).set i (Slot.own m) = s.env.set i (.own m) := by rw [List.set_set]
      have w2 : Wf K mg b B g σ (upd H a o) { s with env := (s.env.set i Slot.no).set i (Slot.own m) } := w1
      rw [es] at w2
      exact w2
    · cases e
  | d d =>
    cases d with
    | ref n =>
      cases r with
      | ref h1 =>
        have e : s.mem[n]? = some m0 := e
        obtain ⟨_, hF⟩ := w.core.obj n m0 a e h1
        have hF := hF h0
        have hmem : a ∈ g.mu := List.mem_of_getElem? h1
        have inj : ∀ k, g.mu[k]? = some a → k = n := fun k hk => by
          have hk' := List.getElem?_eq_some_iff.mp hk
          have hn' := List.getElem?_eq_some_iff.mp h1
          exact (List.getElem_inj w.core.nd).mp (hk'.2.trans hn'.2.symm)
        refine ⟨⟨fun c u q => ?_, fun c u q => ?_, by show (s.mem.set n m).length = _; rw [List.length_set]; exact w.core.len, w.core.nd, fun k mo c q1 q2 => ?_⟩, ⟨w.anc.sub, w.anc.pre, fun c u q nn => ?_, fun c q => ?_, w.anc.newF, w.anc.newM⟩, w.lo, w.len, w.val, fun i mo q => ?_, w.dist⟩
        · rw [upd_ne (fun z => by rw [z, hF] at q; cases q)]; exact w.core.sub c u q
        · by_cases z : c = a
          · rw [z, upd_same] at q; cases q; exact so
          · rw [upd_ne z] at q; exact w.core.sz c u q
        · have q1 : (s.mem.set n m)[k]? = some mo := q1
          by_cases hk : k = n
          · subst hk
            rw [h1] at q2; cases q2
            rw [List.getElem?_set_self (List.getElem?_eq_some_iff.mp e).1] at q1
            cases q1
            exact ⟨⟨o, upd_same, ro⟩, fun _ => hF⟩
          · rw [List.getElem?_set_ne (Ne.symm hk)] at q1
            obtain ⟨⟨u, e3, r3⟩, q3⟩ := w.core.obj k mo c q1 q2
            exact ⟨⟨u, by rw [upd_ne (fun z : c = a => hk (inj k (by rw [← z]; exact q2)))]; exact e3, r3⟩, q3⟩
        · have hne : c ≠ a := fun z => by
            subst z
            exact (w.anc.newM c hmem).elim nn fun z => by rw [z] at q; cases q
          rw [upd_ne hne]; exact w.anc.keep c u q nn
        · by_cases z : c = a
          · subst z; rw [upd_same]; simp
          · rw [upd_ne z]; exact w.anc.there c q
        · obtain ⟨n1, c, e1, e2, e3, e4, u, e5, r5⟩ := w.own i mo q
          exact ⟨n1, c, e1, e2, e3, e4, u, by rw [upd_ne (fun z : c = a => e3 (by rw [z]; exact hmem))]; exact e5, r5⟩
    | _ => cases e
/-- a list, a tuple that is read -/
def seqOf (h : Hd) (s : S) : Option (List D) := match h with
  | .d (.tup xs) => some xs
  | h => match holds h s with
    | some (.lst xs) => some xs
    | _ => none
theorem holds_lst {h : Hd} {v : V} {xs : List D} (w : Wf K mg b B g σ H s) (r : RepH K σ g h v) (e : holds h s = some (.lst xs)) : ∃ a vs, v = .ref a ∧ H a = some (.lst vs) ∧ Reps K g xs vs := by
  obtain ⟨a, rfl, o, h1, vs, rfl, h2⟩ := holds_rep w r e
  exact ⟨a, vs, rfl, h1, h2⟩
theorem seq_rep {h : Hd} {v : V} {xs : List D} (w : Wf K mg b B g σ H s) (r : RepH K σ g h v) (e : seqOf h s = some xs) : ∃ a vs, v = .ref a ∧ (H a = some (.lst vs) ∨ H a = some (.tup vs)) ∧ Reps K g xs vs := by
  unfold seqOf at e
  split at e
  · cases e
    cases r with
    | tup h1 h2 => exact ⟨_, _, rfl, .inr (w.core.sub _ _ h1), h2⟩
  · split at e
    · next q =>
      cases e
      obtain ⟨a, vs, h1, h2, h3⟩ := holds_lst w r q
      exact ⟨a, vs, h1, .inl h2, h3⟩
    · cases e
end

/-! ### ints -/
def ii (f : Int → Int → Option D) : Hd → Hd → S → R D := fun x y s => match x, y with
  | .d (.int i), .d (.int j) => .of (f i j) s
  | _, _ => .bad
def i1 (f : Int → D) : Hd → S → R D := fun x s => match x with
  | .d (.int i) => .ok (f i) s
  | _ => .bad
section
variable {X : Cx} {W : WX}
theorem op_ii {f : Int → Int → Option D} {g : Int → Int → V} {C : Int → Int → Prop} (hf : ∀ i j d, f i j = some d → C i j ∧ ∀ K gh, Rep K gh d (g i j)) : Op2 X W (ii f) (rI C g) := by
  intro b B gh σ H s x y hx hy Q w rx ry p
  unfold ii at p
  split at p
  · next i j =>
    cases rx.int
    cases ry.int
    cases e : f i j with
    | none => rw [e] at p; exact p.elim
    | some d =>
      rw [e] at p
      obtain ⟨c, r⟩ := hf i j d e
      exact ⟨i, j, rfl, rfl, c, Post.here (RR := rrD X.K) p w (r _ _)⟩
  · exact p.elim
theorem op_ii0 {f : Int → Int → D} {g : Int → Int → V} (hf : ∀ i j K gh, Rep K gh (f i j) (g i j)) : Op2 X W (ii fun i j => some (f i j)) (rI0 g) := by
  intro b B gh σ H s x y hx hy Q w rx ry p
  unfold ii at p
  split at p
  · next i j =>
    cases rx.int
    cases ry.int
    exact ⟨i, j, rfl, rfl, Post.here (RR := rrD X.K) p w (hf _ _ _ _)⟩
  · exact p.elim
end
abbrev subH := ii fun i j => some (.int (i - j))
abbrev fdivH := ii fun i j => if 0 < j ∧ j.natAbs.log2 < 9000 then some (.int (i / j)) else none
abbrev modH := ii fun i j => if 0 < j then some (.int (i % j)) else none
abbrev powH := ii fun i j => if 0 ≤ j ∧ j ≤ 64 ∧ i.natAbs.log2 < 1000 then some (.int (i ^ j.toNat)) else none
abbrev andH := ii fun i j => some (.int (Builtin.bitAnd i j))
abbrev shlH := ii fun i j => if 0 ≤ j ∧ j ≤ 1000000 ∧ i.natAbs < 2 ^ 64 then some (.int (i * 2 ^ j.toNat)) else none
abbrev shrH := ii fun i j => if 0 ≤ j then some (.int (i / 2 ^ j.toNat)) else none
abbrev ltH := ii fun i j => some (.bl (decide (i < j)))
abbrev leH := ii fun i j => some (.bl (decide (i ≤ j)))
abbrev gtH := ii fun i j => some (.bl (decide (j < i)))
abbrev geH := ii fun i j => some (.bl (decide (j ≤ i)))
def CPowW (i j : Int) : Prop := 0 ≤ j ∧ j ≤ 64 ∧ i.natAbs.log2 < 1000
section
variable {X : Cx} {W : WX}
theorem op_powW : OpR X (binaryOp .Pow) (rI CPowW fun i j => .int (i ^ j.toNat)) := opI fun i j _ _ _ _ _ hc q => by
  obtain ⟨h1, h2, h3⟩ := hc
  refine pow_int h1 ?_ q
  have hb : Builtin.Int.intBits i ≤ 1000 := by
    unfold Builtin.Int.intBits
    split <;> omega
  have h4 : (Builtin.Int.intBits i : Int) * j ≤ 1000 * j := Int.mul_le_mul_of_nonneg_right (by omega) h1
  have h5 : (1000 : Int) * j ≤ 1000 * 64 := by omega
  have h6 : (1000 : Int) * 64 ≤ 2 ^ 27 := by decide
  omega
theorem h_sub : Op2 X W subH (rI0 fun i j => .int (i - j)) := op_ii0 fun _ _ _ _ => .int _
theorem h_fdiv : Op2 X W fdivH (rI CDivW fun i j => .int (i / j)) := op_ii fun i j d e => by
  split at e
  · next h => cases e; exact ⟨h, fun _ _ => .int _⟩
  · cases e
theorem h_mod : Op2 X W modH (rI (fun _ j => 0 < j) fun i j => .int (i % j)) := op_ii fun i j d e => by
  split at e
  · next h => cases e; exact ⟨h, fun _ _ => .int _⟩
  · cases e
theorem h_pow : Op2 X W powH (rI CPowW fun i j => .int (i ^ j.toNat)) := op_ii fun i j d e => by
  split at e
  · next h => cases e; exact ⟨h, fun _ _ => .int _⟩
  · cases e
theorem h_and : Op2 X W andH (rI0 fun i j => .int (Builtin.bitAnd i j)) := op_ii0 fun _ _ _ _ => .int _
theorem h_shl : Op2 X W shlH (rI CPow fun i j => .int (i * 2 ^ j.toNat)) := op_ii fun i j d e => by
  split at e
  · next h => cases e; exact ⟨h, fun _ _ => .int _⟩
  · cases e
theorem h_shr : Op2 X W shrH (rI (fun _ j => 0 ≤ j) fun i j => .int (i / 2 ^ j.toNat)) := op_ii fun i j d e => by
  split at e
  · next h => cases e; exact ⟨h, fun _ _ => .int _⟩
  · cases e
theorem h_lt : Op2 X W ltH (rI0 fun i j => .bl (decide (i < j))) := op_ii0 fun _ _ _ _ => .bl _
theorem h_le : Op2 X W leH (rI0 fun i j => .bl (decide (i ≤ j))) := op_ii0 fun _ _ _ _ => .bl _
theorem h_gt : Op2 X W gtH (rI0 fun i j => .bl (decide (j < i))) := op_ii0 fun _ _ _ _ => .bl _
theorem h_ge : Op2 X W geH (rI0 fun i j => .bl (decide (j ≤ i))) := op_ii0 fun _ _ _ _ => .bl _
abbrev negH := i1 fun i => .int (-i)
theorem h_neg : Op1 X W negH (rU fun i => .int (-i)) := by
  intro b B gh σ H s x hx Q w rx p
  unfold negH i1 at p
  split at p
  · cases rx.int
    exact ⟨_, rfl, Post.here (RR := rrD X.K) p w (.int _)⟩
  · exact p.elim
/-- is None -/
def isNone : Hd → Bool
  | .d .non => true
  | _ => false
theorem isNone_rep {K : PySem.W.Frag} {mg : Mg} {b : Gh} {B : Hp} {g : Gh} {σ : Sg} {H : Hp} {s : S} (w : Wf K mg b B g σ H s) {h : Hd} {v : V} {m : MO} (r : RepH K σ g h v) (ok : ∀ i, h = .own i → ∃ mo, s.env[i]? = some (.own mo)) : decide (v = .non) = isNone h := by
  cases h with
  | d d => cases r <;> rfl
  | own i =>
    obtain ⟨mo, e⟩ := ok i rfl
    obtain ⟨_, a, h1, _⟩ := w.own i mo e
    have r : σ[i]? = some (some v) := r
    rw [h1] at r
    cases r
    rfl
/-- is None, is not None: the right one is written None -/
def isnH (neg : Bool) : Hd → Hd → S → R D := fun x y s => match x, y with
  | .d d, .d .non => .ok (.bl (isNone (.d d) != neg)) s
  | .own i, .d .non => match s.env[i]? with
    | some (.own _) => .ok (.bl neg) s
    | _ => .bad
  | _, _ => .bad
theorem h_isn : Op2 X W (isnH false) (fun x y H Q => y = .non ∧ Q (.bl (decide (x = .non))) H) := by
  intro b B gh σ H s x y hx hy Q w rx ry p
  unfold isnH at p
  split at p
  · next d =>
    cases ry.non
    refine ⟨rfl, Post.here (RR := rrD X.K) p w ?_⟩
    rw [isNone_rep (m := .gone) w rx (fun i z => nomatch z)]
    have e : (isNone (.d d) != false) = isNone (.d d) := by cases isNone (.d d) <;> rfl
    rw [e]
    exact .bl _
  · next i =>
    cases ry.non
    split at p
    · next mo e =>
      refine ⟨rfl, Post.here (RR := rrD X.K) p w ?_⟩
      rw [isNone_rep (m := .gone) w rx (fun i z => by cases z; exact ⟨_, e⟩)]
      exact .bl _
    · exact p.elim
  · exact p.elim
theorem h_notn : Op2 X W (isnH true) (fun x y H Q => y = .non ∧ Q (.bl (!decide (x = .non))) H) := by
  intro b B gh σ H s x y hx hy Q w rx ry p
  unfold isnH at p
  split at p
  · next d =>
    cases ry.non
    refine ⟨rfl, Post.here (RR := rrD X.K) p w ?_⟩
    rw [isNone_rep (m := .gone) w rx (fun i z => nomatch z)]
    have e : (isNone (.d d) != true) = !isNone (.d d) := by cases isNone (.d d) <;> rfl
    rw [e]
    exact .bl _
  · next i =>
    cases ry.non
    split at p
    · next mo e =>
      refine ⟨rfl, Post.here (RR := rrD X.K) p w ?_⟩
      rw [isNone_rep (m := .gone) w rx (fun i z => by cases z; exact ⟨_, e⟩)]
      exact .bl _
    · exact p.elim
  · exact p.elim
end

/-! ### truth -/
def truth (h : Hd) (s : S) : Option Bool := match h with
  | .d .non => some false
  | .d (.bl c) => some c
  | .d (.int i) => some (i != 0)
  | .d (.str x) => if x.length ≤ sizeLine then some ((x.length : Int) != 0) else none
  | .d (.tup xs) => some (!xs.isEmpty)
  | h => match holds h s with
    | some (.lst xs) => some (!xs.isEmpty)
    | some (.dic kvs) => some (!kvs.isEmpty)
    | _ => none
section
variable {K : PySem.W.Frag} {mg : Mg} {b : Gh} {B : Hp} {g : Gh} {σ : Sg} {H : Hp} {s : S}
theorem Reps.isEmpty {ds : List D} {vs : List V} (h : Reps K g ds vs) : ds.isEmpty = vs.isEmpty := by cases h <;> rfl
theorem RepK.isEmpty {ds : List (Key × D)} {vs : List (Key × V)} (h : RepK K g ds vs) : ds.isEmpty = vs.isEmpty := by cases h <;> rfl
theorem truth_rep {h : Hd} {v : V} {c : Bool} (w : Wf K mg b B g σ H s) (r : RepH K σ g h v) (e : truth h s = some c) : TruV K v H c := by
  have gen : ∀ h, RepH K σ g h v → (match holds h s with | some (.lst xs) => some (!xs.isEmpty) | some (.dic kvs) => some (!kvs.isEmpty) | _ => none) = some c → TruV K v H c := by
    intro h r e
    split at e
    · next q =>
      cases e
      obtain ⟨a, vs, rfl, h2, h3⟩ := holds_lst w r q
      exact .inl ⟨vs, .of h2, by rw [h3.isEmpty]⟩
    · next q =>
      cases e
      obtain ⟨a, rfl, o, h1, vs, rfl, h2⟩ := holds_rep w r q
      exact .inr (.inr ⟨vs, h1, by rw [h2.isEmpty]⟩)
    · cases e
  unfold truth at e
  split at e
  · cases r; cases e; rfl
  · cases r; cases e; rfl
  · cases r; cases e; rfl
  · cases r
    split at e
    · next q => cases e; exact ⟨q, rfl⟩
    · cases e
  · cases e
    cases r with
    | tup h1 h2 => exact .inr (.inl ⟨_, .of (w.core.sub _ _ h1), by rw [h2.isEmpty]⟩)
  · exact gen _ r e
end
def tru (t : S → R Hd) : S → R Bool := fun s => (t s).bind fun h s1 => .of (truth h s1) s1
section
variable {X : Cx} {W : WX} {a e : Expr} {pos : Pos} {rest : List Expr}
theorem tru_to {t : S → R Hd} (b : Gh) (B : Hp) : ∀ σ H Q, L X.K X.mg b B W rrB (tru t) σ H Q → (L X.K X.mg b B W (rrH X.K) t) σ H fun x H1 => ∃ c, TruV X.K x H1 c ∧ Q c H1 := fun σ H Q ⟨g, s, w, p⟩ =>
  ⟨g, s, w, (Post.bind (RR := rrH X.K) p).imp fun v H1 ⟨g1, s1, d, m1, w1, r1, p1⟩ => by
    cases q : truth d s1 with
    | none => rw [q] at p1; exact p1.elim
    | some c => rw [q] at p1; exact ⟨c, truth_rep w1 r1 q, Post.here (RR := rrB) p1 w1 rfl⟩⟩
theorem dt_tru {t : S → R Hd} (h : HE X W a t) (he : ∀ whole, isTrue a X.env whole = (do let v ← whole; standAt a.pos; holding [v] (truthy v)) := by intro _; rfl) : DT X W a (tru t) :=
  fun b B => PT.weak (pt_truth (h b B) he) (tru_to b B)
/-- x or y, x and y by truth, as values -/
def dOr (t u : S → R D) : S → R D := fun s => (t s).bind fun d s1 => (R.of (truth (.d d) s1) s1).bind fun c s2 => if c = true then .ok d s2 else u s2
def dAnd (t u : S → R D) : S → R D := fun s => (t s).bind fun d s1 => (R.of (truth (.d d) s1) s1).bind fun c s2 => if c = true then u s2 else .ok d s2
variable {t u : S → R D}
theorem de_one {op} (h : DE X W a t) : DE X W (.BoolOp op [a] pos) t := fun b B => pe_one (h b B)
theorem de_or (h : DE X W a t) (k : DE X W (.BoolOp .Or (e :: rest) pos) u) : DE X W (.BoolOp .Or (a :: e :: rest) pos) (dOr t u) := fun b B =>
  PE.weak (pe_orT (h b B) (k b B)) fun σ H Q ⟨g, s, w, p⟩ => ⟨g, s, w, (Post.bind (RR := rrD X.K) p).imp fun v H1 ⟨g1, s1, d, m1, w1, r1, p1⟩ => by
    cases q : truth (.d d) s1 with
    | none => rw [q] at p1; exact p1.elim
    | some c =>
      rw [q] at p1
      refine ⟨c, truth_rep (h := .d d) w1 r1 q, ?_⟩
      have p1 : Post X.K X.mg b B W (rrD X.K) σ g1 (if c = true then .ok d s1 else u s1) Q := p1
      cases c with
      | true => rw [if_pos rfl] at p1 ⊢; exact Post.here (RR := rrD X.K) p1 w1 r1
      | false => rw [if_neg Bool.false_ne_true] at p1 ⊢; exact ⟨g1, s1, w1, p1⟩⟩
theorem de_and (h : DE X W a t) (k : DE X W (.BoolOp .And (e :: rest) pos) u) : DE X W (.BoolOp .And (a :: e :: rest) pos) (dAnd t u) := fun b B =>
  PE.weak (pe_andT (h b B) (k b B)) fun σ H Q ⟨g, s, w, p⟩ => ⟨g, s, w, (Post.bind (RR := rrD X.K) p).imp fun v H1 ⟨g1, s1, d, m1, w1, r1, p1⟩ => by
    cases q : truth (.d d) s1 with
    | none => rw [q] at p1; exact p1.elim
    | some c =>
      rw [q] at p1
      refine ⟨c, truth_rep (h := .d d) w1 r1 q, ?_⟩
      have p1 : Post X.K X.mg b B W (rrD X.K) σ g1 (if c = true then u s1 else .ok d s1) Q := p1
      cases c with
      | true => rw [if_pos rfl] at p1 ⊢; exact ⟨g1, s1, w1, p1⟩
      | false => rw [if_neg Bool.false_ne_true] at p1 ⊢; exact Post.here (RR := rrD X.K) p1 w1 r1⟩
def dNot (t : S → R Hd) : S → R D := fun s => (tru t s).bind fun c s1 => .ok (.bl (!c)) s1
theorem de_not {t : S → R Hd} (h : HE X W a t) : DE X W (.UnaryOp .Not a pos) (dNot t) := fun b B =>
  PE.weak (pe_notT (h b B)) fun σ H Q ⟨g, s, w, p⟩ => by
    have p' : L X.K X.mg b B W rrB (tru t) σ H (fun c H1 => Q (.bl (!c)) H1) := by
      refine ⟨g, s, w, ?_⟩
      exact (Post.bind (RR := rrB) p).imp fun v H1 ⟨g1, s1, d, m1, w1, r1, p1⟩ => by
        cases r1
        exact Post.here (RR := rrD X.K) p1 w1 (.bl _)
    exact tru_to b B σ H _ p'
/-- a test of any kind whose value is asked for its truth -/
def tIn (t : S → R Bool) : S → R D := fun s => (t s).bind fun c s1 => .ok (.bl c) s1
end

/-! ### a op b op c of ints -/
def chain (ta tb : S → R Hd) (f : Hd → Hd → S → R D) (tc : S → R Hd) (f' : Hd → Hd → S → R D) : S → R D := fun s =>
  (ta s).bind fun x s1 => (tb s1).bind fun y s2 => (f x y s2).bind fun d s3 => match d with
    | .bl true => (tc s3).bind fun z s4 => f' y z s4
    | .bl false => .ok (.bl false) s3
    | _ => .bad
section
variable {X : Cx} {W : WX} {p q c : Expr} {pos : Pos} {ta tb tc : S → R Hd} {r r' : R2} {f f' : Hd → Hd → S → R D}
theorem chain_to (hf : Op2 X W f r) (hf' : Op2 X W f' r') (b : Gh) (B : Hp) : ∀ σ H Q, L X.K X.mg b B W (rrD X.K) (chain ta tb f tc f') σ H Q → tChain r r' (L X.K X.mg b B W (rrH X.K) ta) (L X.K X.mg b B W (rrH X.K) tb) (L X.K X.mg b B W (rrH X.K) tc) σ H Q :=
  fun σ H Q ⟨g, s, w, h⟩ => ⟨g, s, w, (Post.bind (RR := rrH X.K) h).imp fun v H1 ⟨g1, s1, x, m1, w1, r1, p1⟩ =>
    ⟨g1, s1, w1, (Post.bind (RR := rrH X.K) p1).imp fun u H2 ⟨g2, s2, y, m2, w2, r2, p2⟩ => hf b B g2 σ H2 s2 x y v u _ w2 (r1.mono m2) r2 ((Post.bind (RR := rrD X.K) p2).imp fun z H3 ⟨g3, s3, d, m3, w3, r3, p3⟩ => by
      cases r3 with
      | bl k =>
        refine ⟨k, rfl, ?_⟩
        cases k with
        | true =>
          rw [if_pos rfl]
          exact ⟨g3, s3, w3, (Post.bind (RR := rrH X.K) p3).imp fun z' H4 ⟨g4, s4, x4, m4, w4, r4, p4⟩ => hf' b B g4 σ H4 s4 y x4 u z' Q w4 ((r2.mono m3).mono m4) r4 p4⟩
        | false =>
          rw [if_neg Bool.false_ne_true]
          exact Post.here (RR := rrD X.K) p3 w3 (.bl false)
      | _ => exact p3.elim)⟩⟩
theorem de_chain {op op' : CmpOp} (ho : OpR X (compareOp op) r) (ho' : OpR X (compareOp op') r') (hf : Op2 X W f r) (hf' : Op2 X W f' r') (ha : HE X W p ta) (hb : HE X W q tb) (hc : HE X W c tc)
    (hm : lastMarks [op, op'] [q, c] = false := by with_unfolding_all rfl) : DE X W (.Compare p [op, op'] [q, c] pos) (chain ta tb f tc f') := fun b B =>
  PE.weak (pe_chain ho ho' (ha b B) (hb b B) (hc b B) hm) (chain_to hf hf' b B)
theorem dt_chain {op op' : CmpOp} (ho : OpR X (compareOp op) r) (ho' : OpR X (compareOp op') r') (hf : Op2 X W f r) (hf' : Op2 X W f' r') (ha : HE X W p ta) (hb : HE X W q tb) (hc : HE X W c tc)
    (hm : lastMarks [op, op'] [q, c] = false := by with_unfolding_all rfl) : DT X W (.Compare p [op, op'] [q, c] pos) (asB (chain ta tb f tc f')) := fun b B =>
  PT.weak (pt_chain ho ho' (ha b B) (hb b B) (hc b B) hm) fun σ H Q ⟨g, s, w, h⟩ => chain_to hf hf' b B σ H _ ⟨g, s, w, (Post.bind (RR := rrD X.K) h).imp fun v H1 ⟨g1, s1, d, m1, w1, r1, p1⟩ => by
    cases r1 with
    | bl c => exact ⟨c, rfl, Post.here (RR := rrB) p1 w1 rfl⟩
    | _ => exact p1.elim⟩
end
end DL

/-! fresh objects; lists, tuples, dicts, items, slices, built-ins of them -/
namespace DL
open L2 PyProof.Rows PySem.Spec PySem

section
variable (K : PySem.W.Frag) (mg : Mg) (b : Gh) (B : Hp) (W : WX)
def PostF (σ : Sg) (g : Gh) (r : R MO) (Q : VK) : Prop := match r with
  | .ok m s' => ∀ g' H' a, Mono g g' → Wf K mg b B g' σ H' s' → Fresh b B g' σ s' a → RepM K mg g' H' m a → m ≠ .gone → Q (.ref a) H'
  | .exc x s' => ∀ g' H' cls dd, Mono g g' → Wf K mg b B g' σ H' s' → ERep K mg g' H' x cls dd → W cls dd σ H'
  | .bad => False
def LF (t : S → R MO) : TE := fun σ H Q => ∃ g s, Wf K mg b B g σ H s ∧ PostF K mg b B W σ g (t s) Q
end
def FE (X : Cx) (W : WX) (e : Expr) (t : S → R MO) : Prop := ∀ b B, PE X e (LF X.K X.mg b B W t)
section
variable {K : PySem.W.Frag} {mg : Mg} {b : Gh} {B : Hp} {W : WX} {α β : Type} {RR : RRel α β} {σ : Sg} {g g' : Gh} {H : Hp} {s : S} {r : R α}
theorem PostF.bind {k : α → S → R MO} {Q : VK} (h : PostF K mg b B W σ g (r.bind k) Q) :
    Post K mg b B W RR σ g r fun v H1 => ∃ g1 s1 a, Mono g g1 ∧ Wf K mg b B g1 σ H1 s1 ∧ RR σ g1 a v ∧ PostF K mg b B W σ g1 (k a s1) Q := by
  cases r with
  | ok a s' => exact fun c H' v m w r => ⟨c, s', a, m, w, r, by
      show PostF K mg b B W σ c (k a s') Q
      have h : PostF K mg b B W σ g (k a s') Q := h
      revert h
      cases k a s' with
      | ok x s2 => exact fun h k' H' a m' => h k' H' a (m.trans m')
      | exc x s2 => exact fun h k' H' c d m' => h k' H' c d (m.trans m')
      | bad => exact id⟩
  | exc x s' => exact h
  | bad => exact h
/-- a new list -/
theorem PostF.lst {ds : List D} {vs : List V} {Q : VK} (h : PostF K mg b B W σ g (.ok (.lst ds) s) Q) (w : Wf K mg b B g σ H s) (r : Reps K g ds vs) (hz : vs.length ≤ sizeLine) {p : Addr} (hp : H p = none) : Q (.ref p) (upd H p (.lst vs)) :=
  h g _ p (.refl g) (w.upd (w.fresh hp) _ hz) (w.fresh hp) ⟨_, upd_same, vs, rfl, r⟩ (fun z => nomatch z)
theorem PostF.dic {ds : List (Key × D)} {vs : List (Key × V)} {Q : VK} (h : PostF K mg b B W σ g (.ok (.dic ds) s) Q) (w : Wf K mg b B g σ H s) (r : RepK K g ds vs) {p : Addr} (hp : H p = none) : Q (.ref p) (upd H p (.dK vs)) :=
  h g _ p (.refl g) (w.upd (w.fresh hp) _ trivial) (w.fresh hp) ⟨_, upd_same, vs, rfl, r⟩ (fun z => nomatch z)
/-- a new tuple is data at once -/
theorem Post.tup {ds : List D} {vs : List V} {Q : VK} (h : Post K mg b B W (rrD K) σ g (.ok (.tup ds) s) Q) (w : Wf K mg b B g σ H s) (r : Reps K g ds vs) (hz : vs.length ≤ sizeLine) {p : Addr} (hp : H p = none) : Q (.ref p) (upd H p (.tup vs)) := by
  have f := w.fresh hp
  have mm : Mono g (g.fz p (.tup vs)) := mono_fz f.F
  exact Post.next (RR := rrD K) h mm ((w.upd f (.tup vs) hz).frozen f upd_same) (.tup (by show upd g.F p _ p = _; rw [upd_same]) (r.mono mm))
theorem Post.lst {ds : List D} {vs : List V} {Q : VK} (h : Post K mg b B W (rrD K) σ g (.ok (.lst ds) s) Q) (w : Wf K mg b B g σ H s) (r : Reps K g ds vs) (hz : vs.length ≤ sizeLine) {p : Addr} (hp : H p = none) : Q (.ref p) (upd H p (.lst vs)) := by
  have f := w.fresh hp
  have mm : Mono g (g.fz p (.lst vs)) := mono_fz f.F
  exact Post.next (RR := rrD K) h mm ((w.upd f (.lst vs) hz).frozen f upd_same) (.lst (by show upd g.F p _ p = _; rw [upd_same]) (r.mono mm))
end
/-- a fresh object: as data; as an object of the store -/
def fz (t : S → R MO) : S → R D := fun s => (t s).bind fun m s1 => if m.plain then .ok m.d s1 else .bad
def lay (t : S → R MO) : S → R D := fun s => (t s).bind fun m s1 => .ok (.ref s1.mem.length) { s1 with mem := s1.mem ++ [m] }
section
variable {X : Cx} {W : WX} {e : Expr} {t : S → R MO}
theorem fz_post {K : PySem.W.Frag} {mg : Mg} {b : Gh} {B : Hp} {σ : Sg} {g : Gh} {s : S} {Q : VK} (h : Post K mg b B W (rrD K) σ g (fz t s) Q) : PostF K mg b B W σ g (t s) Q := by
  unfold fz at h
  revert h
  cases t s with
  | ok m s1 =>
    intro h g' H' a mm w f ⟨o, h1, h2⟩ hm
    have h : Post K mg b B W (rrD K) σ g (if m.plain then .ok m.d s1 else .bad) Q := h
    split at h
    · next hp => exact Post.next (RR := rrD K) h (mm.trans (mono_fz f.F)) (w.frozen f h1) (rep_fz f.F hp h2)
    · exact h.elim
  | exc x s1 => exact id
  | bad => exact id
theorem lay_post {K : PySem.W.Frag} {mg : Mg} {b : Gh} {B : Hp} {σ : Sg} {g : Gh} {s : S} {Q : VK} (h : Post K mg b B W (rrD K) σ g (lay t s) Q) : PostF K mg b B W σ g (t s) Q := by
  unfold lay at h
  revert h
  cases t s with
  | ok m s1 =>
    intro h g' H' a mm w f r hm
    have e : s1.mem.length = g'.mu.length := w.core.len
    refine Post.next (RR := rrD K) (s := { s1 with mem := s1.mem ++ [m] }) h (mm.trans mono_nu) (w.interned f r hm) ?_
    rw [e]
    exact rep_nu
  | exc x s1 => exact id
  | bad => exact id
theorem de_fz (h : FE X W e t) : DE X W e (fz t) := fun b B => PE.weak (h b B) fun σ H Q ⟨g, s, w, p⟩ => ⟨g, s, w, fz_post p⟩
theorem de_lay (h : FE X W e t) : DE X W e (lay t) := fun b B => PE.weak (h b B) fun σ H Q ⟨g, s, w, p⟩ => ⟨g, s, w, lay_post p⟩
end

/-! ### displays -/
def fLst (u : S → R (List D)) : S → R MO := fun s => (u s).bind fun ds s1 => .ok (.lst ds) s1
def dTup (u : S → R (List D)) : S → R D := fun s => (u s).bind fun ds s1 => .ok (.tup ds) s1
section
variable {X : Cx} {W : WX} {es : List Expr} {u : S → R (List D)} {pos : Pos}
theorem post_len {α β : Type} {K : PySem.W.Frag} {mg : Mg} {b : Gh} {B : Hp} {W : WX} {RR : RRel α β} {σ : Sg} {g : Gh} {r : R α} {P : α → Prop} {Q : β → Hp → Prop} (hP : ∀ a s, r = .ok a s → P a)
    (h : Post K mg b B W (fun σ g a v => RR σ g a v ∧ P a) σ g r Q) : Post K mg b B W RR σ g r Q := by
  cases r with
  | ok a s => exact fun g' H' v m w rr => h g' H' v m w ⟨rr, hP a s rfl⟩
  | exc x s => exact h
  | bad => exact h
theorem fe_lst (h : DA X W es u) (hl : es.length ≤ sizeLine) : FE X W (.List es pos) (fLst u) := fun b B => PE.weak (pe_lst (h.run b B)) fun σ H Q ⟨g, s, w, p⟩ =>
  ⟨g, s, w, post_len (P := fun ds => ds.length = es.length) (fun a s' e => h.len _ _ _ e) ((PostF.bind (RR := fun σ g a v => rrA X.K σ g a v ∧ a.length = es.length) p).imp fun vs H1 ⟨g1, s1, ds, m1, w1, ⟨r1, q1⟩, p1⟩ =>
    have hz : vs.length ≤ sizeLine := by rw [← Reps.length r1, q1]; exact hl
    ⟨hz, fun a ha => p1.lst w1 r1 hz ha⟩)⟩
theorem de_tup {k : Nat} (h : DA X W es u) (hl : es.length ≤ sizeLine) : DE X W (.Tuple es k pos) (dTup u) := fun b B => PE.weak (pe_tup (h.run b B)) fun σ H Q ⟨g, s, w, p⟩ =>
  ⟨g, s, w, post_len (P := fun ds => ds.length = es.length) (fun a s' e => h.len _ _ _ e) ((Post.bind (RR := fun σ g a v => rrA X.K σ g a v ∧ a.length = es.length) p).imp fun vs H1 ⟨g1, s1, ds, m1, w1, ⟨r1, q1⟩, p1⟩ =>
    have hz : vs.length ≤ sizeLine := by rw [← Reps.length r1, q1]; exact hl
    ⟨hz, fun a ha => p1.tup w1 r1 hz ha⟩)⟩
end

/-! ### + and * -/
def catF : Hd → Hd → S → R MO := fun x y s => match holds x s, holds y s with
  | some (.lst xs), some (.lst ys) => if xs.length + ys.length ≤ sizeLine then .ok (.lst (xs ++ ys)) s else .bad
  | _, _ => .bad
def repF : Hd → Hd → S → R MO := fun x y s => match holds x s, y with
  | some (.lst xs), .d (.int k) => if -(2 ^ 63) ≤ k ∧ k < 2 ^ 63 ∧ xs.length * k.toNat ≤ sizeLine then .ok (.lst (List.replicate k.toNat xs).flatten) s else .bad
  | _, _ => .bad
def OpF (X : Cx) (W : WX) (f : Hd → Hd → S → R MO) (r : R2) : Prop := ∀ b B g σ H s x y hx hy (Q : VK), Wf X.K X.mg b B g σ H s → RepH X.K σ g x hx → RepH X.K σ g y hy → PostF X.K X.mg b B W σ g (f x y s) Q → r hx hy H Q
section
variable {X : Cx} {W : WX} {pos : Pos} {a e : Expr} {ta tb : S → R Hd} {r : R2}
theorem opF_to {f : Hd → Hd → S → R MO} (hf : OpF X W f r) (b : Gh) (B : Hp) : ∀ σ H Q, LF X.K X.mg b B W (two ta tb f) σ H Q → tOp r (L X.K X.mg b B W (rrH X.K) ta) (L X.K X.mg b B W (rrH X.K) tb) σ H Q := fun σ H Q ⟨g, s, w, p⟩ =>
  ⟨g, s, w, (PostF.bind (RR := rrH X.K) p).imp fun v H1 ⟨g1, s1, x, m1, w1, r1, p1⟩ =>
    ⟨g1, s1, w1, (PostF.bind (RR := rrH X.K) p1).imp fun u H2 ⟨g2, s2, y, m2, w2, r2, p2⟩ => hf b B g2 σ H2 s2 x y v u Q w2 (RepH.mono m2 r1) r2 p2⟩⟩
theorem fe_bin {op : Operator} {f : Hd → Hd → S → R MO} (ho : OpR X (binaryOp op) r) (hf : OpF X W f r) (ha : HE X W a ta) (hb : HE X W e tb) : FE X W (.BinOp a op e pos) (two ta tb f) :=
  fun b B => PE.weak (pe_op ho (ha b B) (hb b B)) (opF_to hf b B)
theorem flat_len {α : Type} (l : List α) : ∀ n : Nat, (List.replicate n l).flatten.length = n * l.length
  | 0 => by simp
  | n + 1 => by rw [List.replicate_succ, List.flatten_cons, List.length_append, flat_len l n, Nat.succ_mul, Nat.add_comm]
theorem rep_small {k : Int} {n : Nat} (h : k ≤ 1000) (hn : n ≤ 1000) : k.toNat * n ≤ sizeLine :=
  Nat.le_trans (Nat.mul_le_mul (show k.toNat ≤ 1000 by omega) hn) (by rw [sizeLine_eq]; decide)
theorem h_cat : OpF X W catF rCat := by
  intro b B g σ H s x y hx hy Q w rx ry p
  unfold catF at p
  split at p
  · next xs ys e1 e2 =>
    split at p
    · next hl =>
      obtain ⟨a1, vs, rfl, h1, r1⟩ := holds_lst w rx e1
      obtain ⟨a2, us, rfl, h2, r2⟩ := holds_lst w ry e2
      exact ⟨a1, a2, vs, us, rfl, rfl, h1, h2, by rw [← r1.length, ← r2.length]; exact hl, fun c hc => p.lst w (r1.append r2) (by rw [List.length_append, ← r1.length, ← r2.length]; exact hl) hc⟩
    · exact p.elim
  · exact p.elim
theorem h_rep : OpF X W repF rRep := by
  intro b B g σ H s x y hx hy Q w rx ry p
  unfold repF at p
  split at p
  · next xs k e1 =>
    split at p
    · next hl =>
      obtain ⟨a1, vs, rfl, h1, r1⟩ := holds_lst w rx e1
      cases ry.int
      exact ⟨a1, k, vs, rfl, rfl, h1, hl.1, hl.2.1, by rw [← r1.length]; exact hl.2.2, fun c hc => p.lst w (r1.rep _) (by rw [flat_len, ← r1.length, Nat.mul_comm]; exact hl.2.2) hc⟩
    · exact p.elim
  · exact p.elim
/-- a + b of ints, of texts, of lists -/
def addH : Hd → Hd → S → R D := fun x y s => match x, y with
  | .d (.int i), .d (.int j) => .ok (.int (i + j)) s
  | .d (.str i), .d (.str j) => if i.length + j.length ≤ sizeLine then .ok (.str (i ++ j)) s else .bad
  | x, y => fz (catF x y) s
theorem h_add : Op2 X W addH (fun x y H Q => rI0 (fun i j => .int (i + j)) x y H Q ∨ (∃ i j, x = .str i ∧ y = .str j ∧ i.length + j.length ≤ sizeLine ∧ Q (.str (i ++ j)) H) ∨ rCat x y H Q) := by
  intro b B g σ H s x y hx hy Q w rx ry p
  unfold addH at p
  split at p
  · cases rx.int
    cases ry.int
    exact .inl ⟨_, _, rfl, rfl, Post.here (RR := rrD X.K) p w (.int _)⟩
  · split at p
    · next hl =>
      cases rx.str
      cases ry.str
      exact .inr (.inl ⟨_, _, rfl, rfl, hl, Post.here (RR := rrD X.K) p w (.str _)⟩)
    · exact p.elim
  · exact .inr (.inr (h_cat b B g σ H s x y hx hy Q w rx ry (fz_post (t := catF x y) p)))
theorem o_add : OpR X (binaryOp .Add) (fun x y H Q => rI0 (fun i j => .int (i + j)) x y H Q ∨ (∃ i j, x = .str i ∧ y = .str j ∧ i.length + j.length ≤ sizeLine ∧ Q (.str (i ++ j)) H) ∨ rCat x y H Q) := op_add.or (op_add_str.or op_cat)
/-- a * b of ints, of a list and an int, of a tuple and an int -/
def mulH : Hd → Hd → S → R D := fun x y s => match x, y with
  | .d (.int i), .d (.int j) => if i.natAbs.log2 + j.natAbs.log2 < 1000000 then .ok (.int (i * j)) s else .bad
  | .d (.tup xs), .d (.int k) => if xs ≠ [] ∧ 2 ≤ k ∧ k ≤ 1000 ∧ xs.length ≤ 1000 then .ok (.tup (List.replicate k.toNat xs).flatten) s else if k = 1 then .bad else .bad
  | x, y => fz (repF x y) s
theorem h_mul : Op2 X W mulH (fun x y H Q => rI CMulW (fun i j => .int (i * j)) x y H Q ∨ rRepT X.K x y H Q ∨ rRep x y H Q) := by
  intro b B g σ H s x y hx hy Q w rx ry p
  unfold mulH at p
  split at p
  · split at p
    · next hl =>
      cases rx.int
      cases ry.int
      exact .inl ⟨_, _, rfl, rfl, hl, Post.here (RR := rrD X.K) p w (.int _)⟩
    · exact p.elim
  · next xs k =>
    split at p
    · next hl =>
      cases ry.int
      cases rx with
      | tup h1 h2 =>
        refine .inr (.inl ⟨_, k, _, rfl, rfl, .of (w.core.sub _ _ h1), fun z => hl.1 ?_, hl.2.1, hl.2.2.1, by rw [← h2.length]; exact hl.2.2.2, fun c hc => p.tup w (h2.rep _) (by rw [flat_len, ← h2.length]; exact rep_small hl.2.2.1 hl.2.2.2) hc⟩)
        have := h2.length
        rw [z] at this
        exact List.length_eq_zero_iff.mp this
    · split at p <;> exact p.elim
  · exact .inr (.inr (h_rep b B g σ H s x y hx hy Q w rx ry (fz_post (t := repF x y) p)))
theorem o_mul : OpR X (binaryOp .Mult) (fun x y H Q => rI CMulW (fun i j => .int (i * j)) x y H Q ∨ rRepT X.K x y H Q ∨ rRep x y H Q) := op_mulW.or (op_repT.or op_rep)
end

/-! ### items -/
def ixH : Hd → Hd → S → R D := fun x y s => match y with
  | .d (.int i) => (match x with
    | .d (.str z) => if z.length ≤ sizeLine then .of ((atI z.cps.toList i).map fun c => .str ⟨#[c]⟩) s else .bad
    | .d (.loc xs) => .of (atI xs i) s
    | x => match seqOf x s with
      | some xs => .of (atI xs i) s
      | none => .bad)
  | _ => .bad
section
variable {X : Cx} {W : WX}
theorem atI_rep {K : PySem.W.Frag} {g : Gh} {ds : List D} {vs : List V} (r : Reps K g ds vs) {i : Int} {d : D} (e : atI ds i = some d) : ∃ v, atI vs i = some v ∧ Rep K g d v := by
  unfold atI at e ⊢
  rw [← r.length]
  cases q : ixN ds.length i with
  | none => rw [q] at e; cases e
  | some j => rw [q] at e; exact r.get e
theorem h_ix : Op2 X W ixH (rIx X.K) := by
  intro b B g σ H s x y hx hy Q w rx ry p
  unfold ixH at p
  split at p
  · next i =>
    cases ry.int
    split at p
    · next z =>
      cases rx.str
      split at p
      · next hl =>
        cases q : atI z.cps.toList i with
        | none => rw [q] at p; exact p.elim
        | some c => rw [q] at p; exact .inr (.inr ⟨z, i, c, rfl, rfl, hl, q, Post.here (RR := rrD X.K) p w (.str _)⟩)
      · exact p.elim
    · next xs =>
      cases q : atI xs i with
      | none => rw [q] at p; exact p.elim
      | some d =>
        rw [q] at p
        cases rx with
        | loc h1 h2 =>
          obtain ⟨v, e, r⟩ := atI_rep h2 q
          exact .inl ⟨_, _, i, v, rfl, rfl, w.core.sub.seq h1, e, Post.here (RR := rrD X.K) p w r⟩
    · split at p
      · next xs q1 =>
        obtain ⟨a, vs, rfl, h, r⟩ := seq_rep w rx q1
        cases q : atI xs i with
        | none => rw [q] at p; exact p.elim
        | some d =>
          rw [q] at p
          obtain ⟨v, e, rv⟩ := atI_rep r q
          rcases h with h | h
          · exact .inl ⟨a, vs, i, v, rfl, rfl, .of h, e, Post.here (RR := rrD X.K) p w rv⟩
          · exact .inr (.inl ⟨a, vs, i, v, rfl, rfl, .of h, e, Post.here (RR := rrD X.K) p w rv⟩)
      · exact p.elim
  · exact p.elim
end

/-! ### built-ins called by name -/
def CallOp (X : Cx) (W : WX) (f : List Hd → S → R D) (r : List V → Hp → VK → Prop) : Prop := ∀ b B g σ H s hs vs (Q : VK), Wf X.K X.mg b B g σ H s → RepHs X.K σ g hs vs → Post X.K X.mg b B W (rrD X.K) σ g (f hs s) Q → r vs H Q
def CallF (X : Cx) (W : WX) (f : List Hd → S → R MO) (r : List V → Hp → VK → Prop) : Prop := ∀ b B g σ H s hs vs (Q : VK), Wf X.K X.mg b B g σ H s → RepHs X.K σ g hs vs → PostF X.K X.mg b B W σ g (f hs s) Q → r vs H Q
def call (u : S → R (List Hd)) {γ : Type} (f : List Hd → S → R γ) : S → R γ := fun s => (u s).bind fun hs s1 => f hs s1
section
variable {X : Cx} {W : WX} {x : Str} {p pos : Pos} {e : Expr} {es : List Expr} {u : S → R (List Hd)} {bid T : String} {r : List V → Hp → VK → Prop} {f : List Hd → S → R D}
theorem call_to (hf : CallOp X W f r) (b : Gh) (B : Hp) : ∀ σ H Q, L X.K X.mg b B W (rrD X.K) (call u f) σ H Q → tCB r (L X.K X.mg b B W (rrHs X.K) u) σ H Q := fun σ H Q ⟨g, s, w, h⟩ =>
  ⟨g, s, w, (Post.bind (RR := rrHs X.K) h).imp fun vs H1 ⟨g1, s1, hs, m1, w1, r1, p1⟩ => hf b B g1 σ H1 s1 hs vs Q w1 r1 p1⟩
theorem callF_to {f : List Hd → S → R MO} (hf : CallF X W f r) (b : Gh) (B : Hp) : ∀ σ H Q, LF X.K X.mg b B W (call u f) σ H Q → tCB r (L X.K X.mg b B W (rrHs X.K) u) σ H Q := fun σ H Q ⟨g, s, w, h⟩ =>
  ⟨g, s, w, (PostF.bind (RR := rrHs X.K) h).imp fun vs H1 ⟨g1, s1, hs, m1, w1, r1, p1⟩ => hf b B g1 σ H1 s1 hs vs Q w1 r1 p1⟩
theorem de_callB (hc : CallR X (.builtin bid) r) (hf : CallOp X W f r) (hg : Gl X x) (hm : X.mg x = none) (hv : bootBuiltins x = some (.builtin bid)) (ha : HA X W (e :: es) u) (hn : x ≠ "__name__" := by decide) (hdb : (x == ("__debug__" : Str)) = false := by decide)
    (he : starEach (e :: es) X.env = (false, eval e X.env) :: starEach es X.env := by rfl) (hpl : (backTo pos (starEach es X.env)).any (·.1) = false := by rfl) : DE X W (.Call (.Name x p) (e :: es) [] pos) (call u f) :=
  fun b B => PE.weak (pe_callB hc hg hm hv (ha b B) hn hdb he hpl) (call_to hf b B)
theorem de_callTy (hc : CallR X (.type T) r) (hf : CallOp X W f r) (hg : Gl X x) (hm : X.mg x = none) (hv : bootBuiltins x = some (.type T)) (ha : HA X W (e :: es) u) (hn : x ≠ "__name__" := by decide) (hdb : (x == ("__debug__" : Str)) = false := by decide)
    (he : starEach (e :: es) X.env = (false, eval e X.env) :: starEach es X.env := by rfl) (hpl : (backTo pos (starEach es X.env)).any (·.1) = false := by rfl) : DE X W (.Call (.Name x p) (e :: es) [] pos) (call u f) :=
  fun b B => PE.weak (pe_callTy hc hg hm hv (ha b B) hn hdb he hpl) (call_to hf b B)
theorem fe_callTy {f : List Hd → S → R MO} (hc : CallR X (.type T) r) (hf : CallF X W f r) (hg : Gl X x) (hm : X.mg x = none) (hv : bootBuiltins x = some (.type T)) (ha : HA X W (e :: es) u) (hn : x ≠ "__name__" := by decide) (hdb : (x == ("__debug__" : Str)) = false := by decide)
    (he : starEach (e :: es) X.env = (false, eval e X.env) :: starEach es X.env := by rfl) (hpl : (backTo pos (starEach es X.env)).any (·.1) = false := by rfl) : FE X W (.Call (.Name x p) (e :: es) [] pos) (call u f) :=
  fun b B => PE.weak (pe_callTy hc hg hm hv (ha b B) hn hdb he hpl) (callF_to hf b B)
/-- len -/
def lenH : List Hd → S → R D := fun hs s => match hs with
  | [.d (.str z)] => if z.length ≤ sizeLine then .ok (.int z.length) s else .bad
  | [.d (.loc xs)] => .ok (.int xs.length) s
  | [h] => match seqOf h s with
    | some xs => .ok (.int xs.length) s
    | none => .bad
  | _ => .bad
theorem h_len : CallOp X W lenH (fun xs H Q => ∃ x n, xs = [x] ∧ LenV X.K x H n ∧ Q (.int n) H) := by
  intro b B g σ H s hs vs Q w r p
  unfold lenH at p
  split at p
  · split at p
    · next hl =>
      obtain ⟨v, rfl, rv⟩ := r.one
      cases rv.str
      exact ⟨_, _, rfl, ⟨hl, rfl⟩, Post.here (RR := rrD X.K) p w (.int _)⟩
    · exact p.elim
  · obtain ⟨v, rfl, rv⟩ := r.one
    cases rv with
    | loc h1 h2 => exact ⟨_, _, rfl, .inl ⟨_, w.core.sub.seq h1, rfl⟩, by rw [← h2.length]; exact Post.here (RR := rrD X.K) p w (.int _)⟩
  · split at p
    · next xs q =>
      obtain ⟨v, rfl, rv⟩ := r.one
      obtain ⟨a, us, rfl, h, rr⟩ := seq_rep w rv q
      refine ⟨_, us.length, rfl, ?_, by rw [← rr.length]; exact Post.here (RR := rrD X.K) p w (.int _)⟩
      rcases h with h | h
      · exact .inl ⟨us, .of h, rfl⟩
      · exact .inr ⟨us, .of h, rfl⟩
    · exact p.elim
  · exact p.elim
/-- list(x) -/
def listF : List Hd → S → R MO := fun hs s => match hs with
  | [h] => match seqOf h s with
    | some xs => .ok (.lst xs) s
    | none => .bad
  | _ => .bad
theorem h_list : CallF X W listF (fun xs H Q => ∃ p ys, xs = [.ref p] ∧ (SqL X.K H p ys ∨ SqT X.K H p ys) ∧ ∀ l, H l = none → Q (.ref l) (upd H l (.lst ys))) := by
  intro b B g σ H s hs vs Q w r p
  unfold listF at p
  split at p
  · split at p
    · next xs q =>
      obtain ⟨v, rfl, rv⟩ := r.one
      obtain ⟨a, us, rfl, h, rr⟩ := seq_rep w rv q
      have hz : us.length ≤ sizeLine := h.elim (fun h => w.core.sz _ _ h) (fun h => w.core.sz _ _ h)
      refine ⟨a, us, rfl, ?_, fun l hl => p.lst w rr hz hl⟩
      rcases h with h | h
      · exact .inl (.of h)
      · exact .inr (.of h)
    · exact p.elim
  · exact p.elim
/-- tuple(x) -/
def tupH : List Hd → S → R D := fun hs s => match hs with
  | [h] => match seqOf h s with
    | some xs => .ok (.tup xs) s
    | none => .bad
  | _ => .bad
theorem h_tuple : CallOp X W tupH (fun xs H Q => ∃ p ys, xs = [.ref p] ∧ ((SqL X.K H p ys ∧ ∀ l, H l = none → Q (.ref l) (upd H l (.tup ys))) ∨ (SqT X.K H p ys ∧ Q (.ref p) H))) := by
  intro b B g σ H s hs vs Q w r p
  unfold tupH at p
  split at p
  · next h =>
    split at p
    · next xs q =>
      obtain ⟨v, rfl, rv⟩ := r.one
      unfold seqOf at q
      split at q
      · cases q
        cases rv with
        | tup h1 h2 => exact ⟨_, _, rfl, .inr ⟨.of (w.core.sub _ _ h1), Post.here (RR := rrD X.K) p w (.tup h1 h2)⟩⟩
      · split at q
        · next q2 =>
          cases q
          obtain ⟨a, us, rfl, h2, h3⟩ := holds_lst w rv q2
          exact ⟨a, us, rfl, .inl ⟨.of h2, fun l hl => p.tup w h3 (w.core.sz _ _ h2) hl⟩⟩
        · cases q
    · exact p.elim
  · exact p.elim
/-- lists of ints, of bools -/
def intsOf : List D → Option (List Int)
  | [] => some []
  | .int i :: r => (intsOf r).map (i :: ·)
  | _ => none
def blsOf : List D → Option (List Bool)
  | [] => some []
  | .bl i :: r => (blsOf r).map (i :: ·)
  | _ => none
theorem ints_rep {K : PySem.W.Frag} {g : Gh} : ∀ {ds : List D} {ns : List Int} {vs : List V}, intsOf ds = some ns → Reps K g ds vs → vs = ns.map V.int
  | [], ns, vs, e, r => by cases e; cases r; rfl
  | d :: ds, ns, vs, e, r => by
    cases d with
    | int i =>
      cases q : intsOf ds with
      | none => simp [intsOf, q] at e
      | some ms =>
        simp [intsOf, q] at e
        subst e
        cases r with
        | cons r1 r2 =>
          cases r1
          rw [ints_rep q r2]
          rfl
    | _ => simp [intsOf] at e
theorem bls_rep {K : PySem.W.Frag} {g : Gh} : ∀ {ds : List D} {ns : List Bool} {vs : List V}, blsOf ds = some ns → Reps K g ds vs → vs = ns.map V.bl
  | [], ns, vs, e, r => by cases e; cases r; rfl
  | d :: ds, ns, vs, e, r => by
    cases d with
    | bl i =>
      cases q : blsOf ds with
      | none => simp [blsOf, q] at e
      | some ms =>
        simp [blsOf, q] at e
        subst e
        cases r with
        | cons r1 r2 =>
          cases r1
          rw [bls_rep q r2]
          rfl
    | _ => simp [blsOf] at e
def onInts (f : List Int → Option D) : List Hd → S → R D := fun hs s => match hs with
  | [h] => match holds h s with
    | some (.lst xs) => (match intsOf xs with
      | some ns => .of (f ns) s
      | none => .bad)
    | _ => .bad
  | _ => .bad
def onBls (f : List Bool → D) : List Hd → S → R D := fun hs s => match hs with
  | [h] => match holds h s with
    | some (.lst xs) => (match blsOf xs with
      | some ns => .ok (f ns) s
      | none => .bad)
    | _ => .bad
  | _ => .bad
abbrev sumH := onInts fun ns => some (.int ns.sum)
def maxI : List Int → Option Int
  | [] => none
  | n :: r => some (r.foldl (fun a b => if b > a then b else a) n)
def minI : List Int → Option Int
  | [] => none
  | n :: r => some (r.foldl (fun a b => if b < a then b else a) n)
abbrev maxH := onInts fun ns => (maxI ns).map D.int
abbrev minH := onInts fun ns => (minI ns).map D.int
abbrev allH := onBls fun bs => .bl (bs.all id)
abbrev anyH := onBls fun bs => .bl (bs.any id)
theorem fold_max : ∀ (r : List Int) (n m : Int), (m ∈ n :: r) → (∀ y, y ∈ n :: r → y ≤ m) → r.foldl (fun a b => if b > a then b else a) n = m
  | [], n, m, h, _ => by simp at h; exact h.symm
  | x :: r, n, m, h, k => by
    show r.foldl _ (if x > n then x else n) = m
    refine fold_max r _ m ?_ fun y hy => ?_
    · have h1 := k n (by simp)
      have h2 := k x (by simp)
      rcases List.mem_cons.mp h with e | h
      · subst e
        by_cases q : x > m
        · omega
        · rw [if_neg q]; simp
      · rcases List.mem_cons.mp h with e | h
        · subst e
          by_cases q : m > n
          · rw [if_pos q]; simp
          · have : n = m := by omega
            rw [if_neg q, this]; simp
        · exact List.mem_cons_of_mem _ h
    · rcases List.mem_cons.mp hy with e | hy
      · have h1 := k n (by simp)
        have h2 := k x (by simp)
        rw [e]; split <;> omega
      · exact k y (by simp [hy])
theorem fold_min : ∀ (r : List Int) (n m : Int), (m ∈ n :: r) → (∀ y, y ∈ n :: r → m ≤ y) → r.foldl (fun a b => if b < a then b else a) n = m
  | [], n, m, h, _ => by simp at h; exact h.symm
  | x :: r, n, m, h, k => by
    show r.foldl _ (if x < n then x else n) = m
    refine fold_min r _ m ?_ fun y hy => ?_
    · have h1 := k n (by simp)
      have h2 := k x (by simp)
      rcases List.mem_cons.mp h with e | h
      · subst e
        by_cases q : x < m
        · omega
        · rw [if_neg q]; simp
      · rcases List.mem_cons.mp h with e | h
        · subst e
          by_cases q : m < n
          · rw [if_pos q]; simp
          · have : n = m := by omega
            rw [if_neg q, this]; simp
        · exact List.mem_cons_of_mem _ h
    · rcases List.mem_cons.mp hy with e | hy
      · have h1 := k n (by simp)
        have h2 := k x (by simp)
        rw [e]; split <;> omega
      · exact k y (by simp [hy])
theorem onInts_ok {f : List Int → Option D} {r : List V → Hp → VK → Prop} (hr : ∀ (b : Gh) (B : Hp) g σ H (s : S) (a : Addr) (ns : List Int) (d : D) (Q : VK), H a = some (.lst (ns.map V.int)) → f ns = some d → Wf X.K X.mg b B g σ H s → (∀ v, Rep X.K g d v → Q v H) → r [.ref a] H Q) : CallOp X W (onInts f) r := by
  intro b B g σ H s hs vs Q w rr p
  unfold onInts at p
  split at p
  · split at p
    · next xs q =>
      split at p
      · next ns q2 =>
        obtain ⟨v, rfl, rv⟩ := rr.one
        obtain ⟨a, us, rfl, h2, h3⟩ := holds_lst w rv q
        have e := ints_rep q2 h3
        subst e
        cases qf : f ns with
        | none => rw [qf] at p; exact p.elim
        | some d => rw [qf] at p; exact hr b B g σ H s a ns d Q h2 qf w fun v hv => Post.here (RR := rrD X.K) p w hv
      · exact p.elim
    · exact p.elim
  · exact p.elim
theorem onBls_ok {f : List Bool → D} {r : List V → Hp → VK → Prop} (hr : ∀ (g : Gh) H (a : Addr) (ns : List Bool) (Q : VK), H a = some (.lst (ns.map V.bl)) → (∀ v, Rep X.K g (f ns) v → Q v H) → r [.ref a] H Q) : CallOp X W (onBls f) r := by
  intro b B g σ H s hs vs Q w rr p
  unfold onBls at p
  split at p
  · split at p
    · next xs q =>
      split at p
      · next ns q2 =>
        obtain ⟨v, rfl, rv⟩ := rr.one
        obtain ⟨a, us, rfl, h2, h3⟩ := holds_lst w rv q
        have e := bls_rep q2 h3
        subst e
        exact hr g H a ns Q h2 fun v hv => Post.here (RR := rrD X.K) p w hv
      · exact p.elim
    · exact p.elim
  · exact p.elim
theorem h_sum : CallOp X W sumH (rSum X.K) := onInts_ok fun b B g σ H s a ns d Q h e w k => by cases e; exact ⟨a, ns, rfl, .of h, k _ (.int _)⟩
theorem h_max : CallOp X W maxH (rMax X.K) := onInts_ok fun b B g σ H s a ns d Q h e w k => by
  cases ns with
  | nil => cases e
  | cons n r => cases e; exact ⟨a, n :: r, rfl, .of h, by simp, fun m h1 h2 => by rw [← fold_max r n m h1 h2]; exact k _ (.int _)⟩
theorem h_min : CallOp X W minH (rMin X.K) := onInts_ok fun b B g σ H s a ns d Q h e w k => by
  cases ns with
  | nil => cases e
  | cons n r => cases e; exact ⟨a, n :: r, rfl, .of h, by simp, fun m h1 h2 => by rw [← fold_min r n m h1 h2]; exact k _ (.int _)⟩
theorem h_all : CallOp X W allH (rAll X.K) := onBls_ok fun g H a ns Q h k => ⟨a, ns, rfl, .of h, k _ (.bl _)⟩
theorem h_any : CallOp X W anyH (rAny X.K) := onBls_ok fun g H a ns Q h k => ⟨a, ns, rfl, .of h, k _ (.bl _)⟩
/-- abs, max, min of two ints; int, str of an int -/
def abs1 : List Hd → S → R D := fun hs s => match hs with
  | [.d (.int i)] => .ok (.int (if i < 0 then -i else i)) s
  | _ => .bad
def max2 : List Hd → S → R D := fun hs s => match hs with
  | [.d (.int i), .d (.int j)] => .ok (.int (if j > i then j else i)) s
  | _ => .bad
def min2 : List Hd → S → R D := fun hs s => match hs with
  | [.d (.int i), .d (.int j)] => .ok (.int (if j < i then j else i)) s
  | _ => .bad
theorem h_abs : CallOp X W abs1 (fun xs H Q => ∃ i, xs = [.int i] ∧ Q (.int (if i < 0 then -i else i)) H) := by
  intro b B g σ H s hs vs Q w r p
  unfold abs1 at p
  split at p
  · obtain ⟨v, rfl, rv⟩ := r.one
    cases rv.int
    exact ⟨_, rfl, Post.here (RR := rrD X.K) p w (.int _)⟩
  · exact p.elim
theorem h_max2 : CallOp X W max2 (fun xs H Q => ∃ i j, xs = [.int i, .int j] ∧ Q (.int (if j > i then j else i)) H) := by
  intro b B g σ H s hs vs Q w r p
  unfold max2 at p
  split at p
  · obtain ⟨v, u, rfl, rv, ru⟩ := r.two
    cases rv.int
    cases ru.int
    exact ⟨_, _, rfl, Post.here (RR := rrD X.K) p w (.int _)⟩
  · exact p.elim
theorem h_min2 : CallOp X W min2 (fun xs H Q => ∃ i j, xs = [.int i, .int j] ∧ Q (.int (if j < i then j else i)) H) := by
  intro b B g σ H s hs vs Q w r p
  unfold min2 at p
  split at p
  · obtain ⟨v, u, rfl, rv, ru⟩ := r.two
    cases rv.int
    cases ru.int
    exact ⟨_, _, rfl, Post.here (RR := rrD X.K) p w (.int _)⟩
  · exact p.elim
def intH : List Hd → S → R D := fun hs s => match hs with
  | [.d (.int i)] => .ok (.int i) s
  | [.d (.bl k)] => .ok (.int (if k then 1 else 0)) s
  | [.d (.str a)] => if a.length ≤ 640 then .of ((PySem.intText? a).map D.int) s else .bad
  | _ => .bad
theorem h_int : CallOp X W intH (fun xs H Q => ((∃ i, xs = [.int i] ∧ Q (.int i) H) ∨ ∃ k, xs = [.bl k] ∧ Q (.int (if k then 1 else 0)) H) ∨ ∃ a n, xs = [.str a] ∧ PySem.intText? a = some n ∧ a.length ≤ 640 ∧ Q (.int n) H) := by
  intro b B g σ H s hs vs Q w r p
  unfold intH at p
  split at p
  · obtain ⟨v, rfl, rv⟩ := r.one
    cases rv.int
    exact .inl (.inl ⟨_, rfl, Post.here (RR := rrD X.K) p w (.int _)⟩)
  · obtain ⟨v, rfl, rv⟩ := r.one
    cases rv.bl
    exact .inl (.inr ⟨_, rfl, Post.here (RR := rrD X.K) p w (.int _)⟩)
  · next a =>
    obtain ⟨v, rfl, rv⟩ := r.one
    cases rv.str
    split at p
    · next hl =>
      cases q : PySem.intText? a with
      | none => rw [q] at p; exact p.elim
      | some n => rw [q] at p; exact .inr ⟨a, n, rfl, q, hl, Post.here (RR := rrD X.K) p w (.int _)⟩
    · exact p.elim
  · exact p.elim
theorem c_int : CallR X (.type "int") (fun xs H Q => ((∃ i, xs = [.int i] ∧ Q (.int i) H) ∨ ∃ k, xs = [.bl k] ∧ Q (.int (if k then 1 else 0)) H) ∨ ∃ a n, xs = [.str a] ∧ PySem.intText? a = some n ∧ a.length ≤ 640 ∧ Q (.int n) H) := call_int1.or call_int_str
def strH : List Hd → S → R D := fun hs s => match hs with
  | [.d (.int i)] => if i.natAbs.log2 < 1920 then .ok (.str (toString i)) s else .bad
  | _ => .bad
theorem h_str : CallOp X W strH (fun xs H Q => ∃ i, xs = [.int i] ∧ i.natAbs.log2 < 1920 ∧ Q (.str (toString i)) H) := by
  intro b B g σ H s hs vs Q w r p
  unfold strH at p
  split at p
  · split at p
    · next hl =>
      obtain ⟨v, rfl, rv⟩ := r.one
      cases rv.int
      exact ⟨_, rfl, hl, Post.here (RR := rrD X.K) p w (.str _)⟩
    · exact p.elim
  · exact p.elim
end
end DL

/-! statements: blocks, names, if, return, while -/
namespace DL
open L2 PyProof.Rows PySem.Spec PySem

inductive RS where
  | nx (s : S) | rt (d : D) (s : S) | bk (s : S) | ct (s : S) | exc (x : Ex) (s : S) | bad
/-- an expression's end in a statement -/
def R.st {α : Type} (r : R α) (k : α → S → RS) : RS := match r with
  | .ok a s => k a s
  | .exc x s => .exc x s
  | .bad => .bad
theorem st_ok {α : Type} (a : α) (s : S) (k : α → S → RS) : (R.ok a s).st k = k a s := rfl
def RS.then (r : RS) (k : S → RS) : RS := match r with
  | .nx s => k s
  | r => r
theorem then_nx (s : S) (k : S → RS) : (RS.nx s).then k = k s := rfl
section
variable (K : PySem.W.Frag) (mg : Mg) (b : Gh) (B : Hp) (W : WX)
def PostS (g : Gh) (r : RS) (E : Ends) : Prop := match r with
  | .nx s' => ∀ g' σ' H', Mono g g' → Wf K mg b B g' σ' H' s' → E.nx σ' H'
  | .bk s' => ∀ g' σ' H', Mono g g' → Wf K mg b B g' σ' H' s' → E.bk σ' H'
  | .ct s' => ∀ g' σ' H', Mono g g' → Wf K mg b B g' σ' H' s' → E.ct σ' H'
  | .rt d s' => ∀ g' σ' H' v, Mono g g' → Wf K mg b B g' σ' H' s' → Rep K g' d v → E.rt v H'
  | .exc x s' => ∀ g' σ' H' cls dd, Mono g g' → Wf K mg b B g' σ' H' s' → ERep K mg g' H' x cls dd → W cls dd σ' H'
  | .bad => False
def LS (t : S → RS) : TS := fun E σ H => ∃ g s, Wf K mg b B g σ H s ∧ PostS K mg b B W g (t s) E
end
def DS (X : Cx) (W : WX) (st : Stmt) (t : S → RS) : Prop := ∀ b B, PS X st (LS X.K X.mg b B W t)
def DSs (X : Cx) (W : WX) (sts : List Stmt) (t : S → RS) : Prop := ∀ b B, PSs X sts (LS X.K X.mg b B W t)
theorem PS.weak {X : Cx} {st : Stmt} {t t' : TS} (h : PS X st t) (k : ∀ E σ H, t' E σ H → t E σ H) : PS X st t' := ⟨fun pins s σ H E I q => h.run pins s σ H E I (k E σ H q)⟩
theorem PSs.weak {X : Cx} {st : List Stmt} {t t' : TS} (h : PSs X st t) (k : ∀ E σ H, t' E σ H → t E σ H) : PSs X st t' := ⟨fun pins s σ H E I q => h.run pins s σ H E I (k E σ H q)⟩
section
variable {K : PySem.W.Frag} {mg : Mg} {b : Gh} {B : Hp} {W : WX} {α β : Type} {RR : RRel α β} {σ : Sg} {g g' : Gh} {H : Hp} {s : S} {r : R α} {E : Ends}
theorem PostS.mono (m : Mono g g') {q : RS} (h : PostS K mg b B W g q E) : PostS K mg b B W g' q E := by
  cases q with
  | nx s' => exact fun k σ' H' m' w => h k σ' H' (m.trans m') w
  | bk s' => exact fun k σ' H' m' w => h k σ' H' (m.trans m') w
  | ct s' => exact fun k σ' H' m' w => h k σ' H' (m.trans m') w
  | rt d s' => exact fun k σ' H' v m' w => h k σ' H' v (m.trans m') w
  | exc x s' => exact fun k σ' H' c d m' w => h k σ' H' c d (m.trans m') w
  | bad => exact h
theorem PostS.bind {k : α → S → RS} (h : PostS K mg b B W g (r.st k) E) :
    Post K mg b B W RR σ g r fun v H1 => ∃ g1 s1 a, Mono g g1 ∧ Wf K mg b B g1 σ H1 s1 ∧ RR σ g1 a v ∧ PostS K mg b B W g1 (k a s1) E := by
  cases r with
  | ok a s' => exact fun c H' v m w r => ⟨c, s', a, m, w, r, PostS.mono m h⟩
  | exc x s' => exact fun c H' cls d m w e => h c σ H' cls d m w e
  | bad => exact h
/-- with other ends for what is behind -/
theorem PostS.then {q : RS} {k : S → RS} (h : PostS K mg b B W g (q.then k) E) : PostS K mg b B W g q { E with nx := fun σ' H' => ∃ g1 s1, Wf K mg b B g1 σ' H' s1 ∧ PostS K mg b B W g1 (k s1) E } := by
  cases q with
  | nx s' => exact fun c σ' H' m w => ⟨c, s', w, PostS.mono m h⟩
  | bk s' => exact h
  | ct s' => exact h
  | rt d s' => exact h
  | exc x s' => exact h
  | bad => exact h
theorem PostS.nx (h : PostS K mg b B W g (.nx s) E) (m : Mono g g') (w : Wf K mg b B g' σ H s) : E.nx σ H := h g' σ H m w
end
def sNil : S → RS := fun s => .nx s
def sSeq (t u : S → RS) : S → RS := fun s => (t s).then u
section
variable {X : Cx} {W : WX} {st : Stmt} {rest sts : List Stmt} {t u : S → RS} {pos : Pos} {e : Expr}
theorem ss_nil : DSs X W [] sNil := fun b B => PSs.weak pss_nil fun E σ H ⟨g, s, w, p⟩ => PostS.nx p (.refl g) w
theorem ss_cons (h : DS X W st t) (k : DSs X W rest u) : DSs X W (st :: rest) (sSeq t u) := fun b B => PSs.weak (pss_cons (h b B) (k b B)) fun E σ H ⟨g, s, w, p⟩ => ⟨g, s, w, PostS.then p⟩
theorem ss_one (h : DS X W st t) : DSs X W [st] t := fun b B => pss_one (h b B)
theorem s_pass : DS X W (.Pass pos) sNil := fun b B => PS.weak ps_pass fun E σ H ⟨g, s, w, p⟩ => PostS.nx p (.refl g) w
def sBreak : S → RS := fun s => .bk s
def sCont : S → RS := fun s => .ct s
theorem s_break : DS X W (.Break pos) sBreak := fun b B => PS.weak ps_break fun E σ H ⟨g, s, w, p⟩ => p g σ H (.refl g) w
theorem s_cont : DS X W (.Continue pos) sCont := fun b B => PS.weak ps_continue fun E σ H ⟨g, s, w, p⟩ => p g σ H (.refl g) w
def sRet (t : S → R D) : S → RS := fun s => (t s).st fun d s1 => .rt d s1
theorem s_ret {t : S → R D} (h : DE X W e t) : DS X W (.Return (some e) pos) (sRet t) := fun b B => PS.weak (ps_ret (h b B)) fun E σ H ⟨g, s, w, p⟩ =>
  ⟨g, s, w, (PostS.bind (RR := rrD X.K) p).imp fun v H1 ⟨g1, s1, d, m1, w1, r1, p1⟩ => p1 g1 σ H1 v (.refl g1) w1 r1⟩
def sRetN : S → RS := fun s => .rt .non s
theorem s_retN : DS X W (.Return none pos) sRetN := fun b B => PS.weak ps_retN fun E σ H ⟨g, s, w, p⟩ => p g σ H .non (.refl g) w .non
def sExpr (t : S → R D) : S → RS := fun s => (t s).st fun _ s1 => .nx s1
theorem s_expr {t : S → R D} (h : DE X W e t) (hs : swapsWith e none pos.line X.env = pure false := by rfl) : DS X W (.Expr e pos) (sExpr t) := fun b B => PS.weak (ps_expr (h b B) hs) fun E σ H ⟨g, s, w, p⟩ =>
  ⟨g, s, w, (PostS.bind (RR := rrD X.K) p).imp fun v H1 ⟨g1, s1, d, m1, w1, r1, p1⟩ => PostS.nx p1 (.refl g1) w1⟩
def sIf (c : S → R Bool) (t u : S → RS) : S → RS := fun s => (c s).st fun k s1 => if k = true then t s1 else u s1
theorem s_if {c : Expr} {a z : List Stmt} {tc : S → R Bool} (hc : DT X W c tc) (ha : DSs X W a t) (hb : DSs X W z u) : DS X W (.If c a z pos) (sIf tc t u) := fun b B =>
  PS.weak (ps_if (hc b B) (ha b B) (hb b B)) fun E σ H ⟨g, s, w, p⟩ => ⟨g, s, w, (PostS.bind (RR := rrB) p).imp fun v H1 ⟨g1, s1, c, m1, w1, r1, p1⟩ => by
    cases r1
    cases v with
    | true => rw [if_pos rfl] at p1 ⊢; exact ⟨g1, s1, w1, p1⟩
    | false => rw [if_neg Bool.false_ne_true] at p1 ⊢; exact ⟨g1, s1, w1, p1⟩⟩

/-! ### names stored -/
def sSet (i : Nat) (t : S → R D) : S → RS := fun s => (t s).st fun d s1 => .nx { s1 with env := s1.env.set i (.val d) }
def sOwn (i : Nat) (t : S → R MO) : S → RS := fun s => (t s).st fun m s1 => .nx { s1 with env := s1.env.set i (.own m) }
theorem s_set {i : Nat} {x : Str} {t : S → R D} {pos' : Pos} (hN : X.N.Nodup) (hi : X.N[i]? = some x) (hx : Loc X.env.scope x) (he : DE X W e t) (hs : swapsWith e (some (.Name x pos')) pos.line X.env = pure false := by rfl) (hf : X.fn x = true ∨ X.env.scope.names.lookup x = some .local := by first | exact .inl rfl | exact .inr rfl | assumption) :
    DS X W (.Assign [.Name x pos'] e pos) (sSet i t) := fun b B => PS.weak (ps_set hN hi hx (he b B) hs hf) fun E σ H ⟨g, s, w, p⟩ =>
  ⟨g, s, w, (PostS.bind (RR := rrD X.K) p).imp fun v H1 ⟨g1, s1, d, m1, w1, r1, p1⟩ => PostS.nx p1 (.refl g1) (w1.setVal r1)⟩
theorem own_post {K : PySem.W.Frag} {mg : Mg} {b : Gh} {B : Hp} {W : WX} {σ : Sg} {g : Gh} {s : S} {i : Nat} {t : S → R MO} {E : Ends} (p : PostS K mg b B W g (sOwn i t s) E) :
    PostF K mg b B W σ g (t s) fun v H' => E.nx (σ.set i (some v)) H' := by
  unfold sOwn at p
  revert p
  cases t s with
  | ok m s1 => exact fun p g' H' a mm w f r hm => PostS.nx p mm (w.setOwn f r hm)
  | exc x s1 => exact fun p g' H' cls dd mm w e => p g' σ H' cls dd mm w e
  | bad => exact id
theorem s_own {i : Nat} {x : Str} {t : S → R MO} {pos' : Pos} (hN : X.N.Nodup) (hi : X.N[i]? = some x) (hx : Loc X.env.scope x) (he : FE X W e t) (hs : swapsWith e (some (.Name x pos')) pos.line X.env = pure false := by rfl) (hf : X.fn x = true ∨ X.env.scope.names.lookup x = some .local := by first | exact .inl rfl | exact .inr rfl | assumption) :
    DS X W (.Assign [.Name x pos'] e pos) (sOwn i t) := fun b B => PS.weak (ps_set hN hi hx (he b B) hs hf) fun E σ H ⟨g, s, w, p⟩ => ⟨g, s, w, own_post p⟩
/-- name op= e of ints -/
def augI (i : Nat) (f : Int → Int → Option Int) (a : Int) (d : D) (s1 : S) : RS := match d with
  | .int c => (match f a c with
    | some k => .nx { s1 with env := s1.env.set i (.val (.int k)) }
    | none => .bad)
  | _ => .bad
def sAug (i : Nat) (t : S → R D) (f : Int → Int → Option Int) : S → RS := fun s => match s.env[i]? with
  | some (.val (.int a)) => (t s).st (augI i f a)
  | _ => .bad
theorem s_augI {i : Nat} {x : Str} {t : S → R D} {op : Operator} {pos' : Pos} {r : R2} {f : Int → Int → Option Int} (hN : X.N.Nodup) (hi : X.N[i]? = some x) (hx : Loc X.env.scope x) (he : DE X W e t) (ho : OpR X (inplaceOp op) r)
    (hf2 : ∀ i j k H (Q : VK), f i j = some k → Q (.int k) H → r (.int i) (.int j) H Q) (hf : X.fn x = true ∨ X.env.scope.names.lookup x = some .local := by first | exact .inl rfl | exact .inr rfl | assumption) :
    DS X W (.AugAssign (.Name x pos') op e pos) (sAug i t f) := fun b B => PS.weak (ps_aug hN hi hx (he b B) (fun pins s σ H x y v u Q => ho pins s σ H x y v u Q) hf) fun E σ H ⟨g, s, w, p⟩ => by
  unfold sAug at p
  split at p
  · next a e =>
    obtain ⟨v, h1, h2⟩ := w.val i _ e
    cases h2
    refine ⟨.int a, h1, g, s, w, (PostS.bind (RR := rrD X.K) p).imp fun v H1 ⟨g1, s1, d, m1, w1, r1, p1⟩ => ?_⟩
    cases r1 with
    | int c =>
      unfold augI at p1
      simp only at p1
      split at p1
      · next k q => exact hf2 a c k H1 _ q (PostS.nx p1 (.refl g1) (w1.setVal (.int _)))
      · exact p1.elim
    | _ => exact p1.elim
  · exact p.elim
abbrev addI : Int → Int → Option Int := fun i j => some (i + j)
abbrev subI : Int → Int → Option Int := fun i j => some (i - j)
abbrev mulI : Int → Int → Option Int := fun i j => if -(2 ^ 64) < i ∧ i < 2 ^ 64 then some (i * j) else none
theorem a_add : ∀ i j k (H : Hp) (Q : VK), addI i j = some k → Q (.int k) H → rI0 (fun i j => .int (i + j)) (.int i) (.int j) H Q := fun i j k H Q e q => by cases e; exact ⟨i, j, rfl, rfl, q⟩
theorem a_sub : ∀ i j k (H : Hp) (Q : VK), subI i j = some k → Q (.int k) H → rI0 (fun i j => .int (i - j)) (.int i) (.int j) H Q := fun i j k H Q e q => by cases e; exact ⟨i, j, rfl, rfl, q⟩
theorem a_mul : ∀ i j k (H : Hp) (Q : VK), mulI i j = some k → Q (.int k) H → rI CMul (fun i j => .int (i * j)) (.int i) (.int j) H Q := fun i j k H Q e q => by
  unfold mulI at e
  split at e
  · next h => cases e; exact ⟨i, j, rfl, rfl, .inl h, q⟩
  · cases e
end

/-! ### while -/
def whileN (c : S → R Bool) (body : S → RS) : Nat → S → RS
  | 0, _ => .bad
  | n + 1, s => (c s).st fun k s1 => if k = true then (match body s1 with
      | .nx s2 => whileN c body n s2
      | .ct s2 => whileN c body n s2
      | .bk s2 => .nx s2
      | r => r) else .nx s1
theorem whileN_more {c : S → R Bool} {body : S → RS} : ∀ {n m : Nat} {s : S}, n ≤ m → whileN c body n s ≠ .bad → whileN c body m s = whileN c body n s
  | 0, _, _, _, h => absurd rfl h
  | n + 1, 0, _, h, _ => by omega
  | n + 1, m + 1, s, h, k => by
    unfold whileN at k ⊢
    cases q : c s with
    | exc x s1 => rfl
    | bad => rfl
    | ok a s1 =>
      rw [q] at k
      simp only [st_ok] at k ⊢
      cases a with
      | false => simp
      | true =>
        simp only [if_true] at k ⊢
        cases q2 : body s1 with
        | nx s2 => rw [q2] at k; exact whileN_more (by omega) k
        | ct s2 => rw [q2] at k; exact whileN_more (by omega) k
        | bk s2 => rfl
        | rt d s2 => rfl
        | exc x s2 => rfl
        | bad => rfl
open Classical in
noncomputable def sWhile (c : S → R Bool) (body : S → RS) : S → RS := fun s => if h : ∃ n, whileN c body n s ≠ .bad then whileN c body (choose h) s else .bad
theorem sWhile_eq {c : S → R Bool} {body : S → RS} {n : Nat} {s : S} {r : RS} (h : whileN c body n s = r) (hr : r ≠ .bad) : sWhile c body s = r := by
  have ex : ∃ n, whileN c body n s ≠ .bad := ⟨n, by rw [h]; exact hr⟩
  unfold sWhile
  rw [dif_pos ex]
  have k := Classical.choose_spec ex
  rcases Nat.le_total n (Classical.choose ex) with q | q
  · rw [whileN_more q (by rw [h]; exact hr), h]
  · rw [← whileN_more q k, h]
theorem sWhile_ex {c : S → R Bool} {body : S → RS} {s : S} (h : sWhile c body s ≠ .bad) : ∃ n, whileN c body n s = sWhile c body s := by
  unfold sWhile at h ⊢
  split
  · next k => exact ⟨_, rfl⟩
  · next k => rw [dif_neg k] at h; exact absurd rfl h
theorem s_while {X : Cx} {W : WX} {c : Expr} {body : List Stmt} {tc : S → R Bool} {tb : S → RS} {pos : Pos} (hp : PassesOwn (model X.prog X.w) X.A X.env X.xe) (hc : DT X W c tc) (hb : DSs X W body tb) : DS X W (.While c body [] pos) (sWhile tc tb) := fun b B =>
  PS.weak (ps_while hp (hc b B) (hb b B)) fun E σ H ⟨g, s, w, p⟩ => by
    have nb : sWhile tc tb s ≠ .bad := fun z => by rw [z] at p; exact p.elim
    obtain ⟨n, hn⟩ := sWhile_ex nb
    refine ⟨fun m σ H => ∃ g s, Wf X.K X.mg b B g σ H s ∧ PostS X.K X.mg b B W g (whileN tc tb m s) E, ⟨n, g, s, w, by rw [hn]; exact p⟩, ?_⟩
    rintro m σ H ⟨g, s, w, p⟩
    cases m with
    | zero => exact p.elim
    | succ m =>
      unfold whileN at p
      refine ⟨g, s, w, (PostS.bind (RR := rrB) p).imp fun v H1 ⟨g1, s1, k, m1, w1, r1, p1⟩ => ?_⟩
      cases r1
      cases v with
      | false =>
        rw [if_neg Bool.false_ne_true] at p1 ⊢
        exact PostS.nx p1 (.refl g1) w1
      | true =>
        rw [if_pos rfl] at p1 ⊢
        refine ⟨fun σ' H' => ∃ g s, Wf X.K X.mg b B g σ' H' s ∧ PostS X.K X.mg b B W g (whileN tc tb m s) E, fun σ' H' q => ⟨m, Nat.lt_succ_self m, q⟩, g1, s1, w1, ?_⟩
        revert p1
        cases tb s1 with
        | nx s2 => exact fun p1 g' σ' H' mm w' => ⟨g', s2, w', PostS.mono mm p1⟩
        | ct s2 => exact fun p1 g' σ' H' mm w' => ⟨g', s2, w', PostS.mono mm p1⟩
        | bk s2 => exact fun p1 g' σ' H' mm w' => p1 g' σ' H' mm w'
        | rt d s2 => exact id
        | exc x s2 => exact id
        | bad => exact id
end DL

/-! what loops walk; targets; for; comprehensions -/
namespace DL
open L2 PyProof.Rows PySem.Spec PySem

/-- the items; the store's list that they are (while it stands so) -/
structure Src where
  items : List D
  live : List Nat := []
  of : List (List D) := []
def Src.ok (r : Src) (s : S) : Prop := r.live.map (fun n => s.mem[n]?) = r.of.map (fun xs => some (MO.lst xs))
def JRep (K : PySem.W.Frag) (mg : Mg) (g : Gh) (J : It) (r : Src) : Prop := r.items.length ≤ sizeLine ∧
  ∀ b B g1 σ H s, Mono g g1 → Wf K mg b B g1 σ H s → r.ok s → ∀ i : Nat, (∀ d, r.items[i]? = some d → J.go i H ∧ ∀ x H', J.yld i H x H' → ∃ g2, Mono g1 g2 ∧ Wf K mg b B g2 σ H' s ∧ Rep K g2 d x) ∧ (r.items.length ≤ i → J.stop i H)
section
variable (K : PySem.W.Frag) (mg : Mg) (b : Gh) (B : Hp) (W : WX)
def PostI (σ : Sg) (g : Gh) (r : R Src) (Q : It → Hp → Prop) : Prop := match r with
  | .ok a s' => ∀ g' H' J, Mono g g' → Wf K mg b B g' σ H' s' → JRep K mg g' J a → Q J H'
  | .exc x s' => ∀ g' H' cls dd, Mono g g' → Wf K mg b B g' σ H' s' → ERep K mg g' H' x cls dd → W cls dd σ H'
  | .bad => False
def LI (t : S → R Src) : TI := fun σ H Q => ∃ g s, Wf K mg b B g σ H s ∧ PostI K mg b B W σ g (t s) Q
end
def DI (X : Cx) (W : WX) (tg iter : Expr) (t : S → R Src) : Prop := ∀ b B, PI X tg iter (LI X.K X.mg b B W t)
theorem PI.weak {X : Cx} {tg e : Expr} {t t' : TI} (h : PI X tg e t) (k : ∀ σ H Q, t' σ H Q → t σ H Q) : PI X tg e t' := ⟨fun pins s σ H Q I q => h.run pins s σ H Q I (k σ H Q q)⟩
section
variable {K : PySem.W.Frag} {mg : Mg} {b : Gh} {B : Hp} {W : WX} {α β : Type} {RR : RRel α β} {σ : Sg} {g g' : Gh} {H : Hp} {s : S} {r : R α}
theorem PostI.mono (m : Mono g g') {r : R Src} {Q : It → Hp → Prop} (h : PostI K mg b B W σ g r Q) : PostI K mg b B W σ g' r Q := by
  cases r with
  | ok a s' => exact fun k H' J m' w => h k H' J (m.trans m') w
  | exc x s' => exact fun k H' c d m' w => h k H' c d (m.trans m') w
  | bad => exact h
theorem PostI.bind {k : α → S → R Src} {Q : It → Hp → Prop} (h : PostI K mg b B W σ g (r.bind k) Q) :
    Post K mg b B W RR σ g r fun v H1 => ∃ g1 s1 a, Mono g g1 ∧ Wf K mg b B g1 σ H1 s1 ∧ RR σ g1 a v ∧ PostI K mg b B W σ g1 (k a s1) Q := by
  cases r with
  | ok a s' => exact fun c H' v m w r => ⟨c, s', a, m, w, r, PostI.mono m h⟩
  | exc x s' => exact h
  | bad => exact h
theorem PostI.here {a : Src} {J : It} {Q : It → Hp → Prop} (h : PostI K mg b B W σ g (.ok a s) Q) (w : Wf K mg b B g σ H s) (r : JRep K mg g J a) : Q J H := h g H J (.refl g) w r
end
/-- the source that a handle is: data; a list of the store -/
def srcOf (h : Hd) (s : S) : R Src := match h with
  | .d (.lst xs) => .ok ⟨xs, [], []⟩ s
  | .d (.tup xs) => .ok ⟨xs, [], []⟩ s
  | .d (.ref n) => (match s.mem[n]? with
    | some (.lst xs) => .ok ⟨xs, [n], [xs]⟩ s
    | _ => .bad)
  | .d (.str z) => if z.length ≤ sizeLine then .ok ⟨z.cps.toList.map fun c => .str ⟨#[c]⟩, [], []⟩ s else .bad
  | _ => .bad
/-- what a source of one list says of its address -/
def SL (K : PySem.W.Frag) (mg : Mg) (g : Gh) (a : Addr) (r : Src) : Prop := r.items.length ≤ sizeLine ∧ ∀ b B g1 σ H s, Mono g g1 → Wf K mg b B g1 σ H s → r.ok s → ∃ vs, H a = some (.lst vs) ∧ Reps K g1 r.items vs
def ST (K : PySem.W.Frag) (mg : Mg) (g : Gh) (a : Addr) (r : Src) : Prop := r.items.length ≤ sizeLine ∧ ∀ b B g1 σ H s, Mono g g1 → Wf K mg b B g1 σ H s → r.ok s → ∃ vs, H a = some (.tup vs) ∧ Reps K g1 r.items vs
section
variable {K : PySem.W.Frag} {mg : Mg} {b : Gh} {B : Hp} {σ : Sg} {g : Gh} {H : Hp} {s s' : S}
theorem src_seq {h : Hd} {v : V} {r : Src} (w : Wf K mg b B g σ H s) (rh : RepH K σ g h v) (e : srcOf h s = .ok r s') : s' = s ∧ ((∃ a, v = .ref a ∧ ((SL K mg g a r ∧ ∃ vs, H a = some (.lst vs)) ∨ (ST K mg g a r ∧ ∃ vs, H a = some (.tup vs)))) ∨ ∃ z : Str, v = .str z ∧ z.length ≤ sizeLine ∧ r = ⟨z.cps.toList.map fun c => .str ⟨#[c]⟩, [], []⟩) := by
  unfold srcOf at e
  split at e
  · cases e
    cases rh with
    | lst h1 h2 =>
      refine ⟨rfl, .inl ⟨_, rfl, .inl ⟨⟨?_, fun b B g1 σ H s m w' _ => ⟨_, w'.core.sub _ _ (m.1 _ _ h1), h2.mono m⟩⟩, _, w.core.sub _ _ h1⟩⟩⟩
      rw [h2.length]; exact w.core.sz _ _ (w.core.sub _ _ h1)
  · cases e
    cases rh with
    | tup h1 h2 =>
      refine ⟨rfl, .inl ⟨_, rfl, .inr ⟨⟨?_, fun b B g1 σ H s m w' _ => ⟨_, w'.core.sub _ _ (m.1 _ _ h1), h2.mono m⟩⟩, _, w.core.sub _ _ h1⟩⟩⟩
      rw [h2.length]; exact w.core.sz _ _ (w.core.sub _ _ h1)
  · rename_i n
    split at e
    · next xs q =>
      cases e
      cases rh with
      | ref h1 =>
        obtain ⟨⟨o, h2, vs, rfl, h3⟩, _⟩ := w.core.obj _ _ _ q h1
        refine ⟨rfl, .inl ⟨_, rfl, .inl ⟨⟨?_, fun b B g1 σ H s m w' ok => ?_⟩, _, h2⟩⟩⟩
        · rw [h3.length]; exact w.core.sz _ _ h2
        · have ok : s.mem[n]? = some (.lst xs) := by
            have ok : [s.mem[n]?] = [some (MO.lst xs)] := ok
            exact (List.cons.inj ok).1
          obtain ⟨⟨o, h2, vs, rfl, h3⟩, _⟩ := w'.core.obj _ _ _ ok (pre_get m.2 h1)
          exact ⟨vs, h2, h3⟩
    · cases e
  · split at e
    · next hl =>
      cases e
      cases rh.str
      exact ⟨rfl, .inr ⟨_, rfl, hl, rfl⟩⟩
    · cases e
  · cases e
theorem jrep_list {a : Addr} {r : Src} (h : SL K mg g a r) : JRep K mg g (Itl K a) r := ⟨h.1, fun b B g1 σ H s m w ok i => by
  obtain ⟨vs, h1, h2⟩ := h.2 b B g1 σ H s m w ok
  refine ⟨fun d e => ?_, fun hi => ⟨vs, .of h1, by rw [← h2.length]; exact hi⟩⟩
  obtain ⟨v, ev, rv⟩ := h2.get e
  refine ⟨⟨vs, v, .of h1, ev⟩, fun x H' y => ?_⟩
  obtain ⟨rfl, y⟩ := y
  have := y vs (.of h1)
  rw [ev] at this
  cases this
  exact ⟨g1, .refl g1, w, rv⟩⟩
theorem jrep_tup {a : Addr} {r : Src} (h : ST K mg g a r) : JRep K mg g (Itt K a) r := ⟨h.1, fun b B g1 σ H s m w ok i => by
  obtain ⟨vs, h1, h2⟩ := h.2 b B g1 σ H s m w ok
  refine ⟨fun d e => ?_, fun hi => ⟨vs, .of h1, by rw [← h2.length]; exact hi⟩⟩
  obtain ⟨v, ev, rv⟩ := h2.get e
  refine ⟨⟨vs, v, .of h1, ev⟩, fun x H' y => ?_⟩
  obtain ⟨rfl, y⟩ := y
  have := y vs (.of h1)
  rw [ev] at this
  cases this
  exact ⟨g1, .refl g1, w, rv⟩⟩
theorem jrep_str {z : Str} (hz : z.length ≤ sizeLine) : JRep K mg g (Its z) ⟨z.cps.toList.map fun c => .str ⟨#[c]⟩, [], []⟩ := ⟨by simp; exact hz, fun b B g1 σ H s m w ok i => by
  refine ⟨fun d e => ?_, fun hi => by have hi : (z.cps.toList.map fun c => D.str ⟨#[c]⟩).length ≤ i := hi; show z.cps.size ≤ i; simpa using hi⟩
  have e : (z.cps.toList.map fun c => D.str ⟨#[c]⟩)[i]? = some d := e
  rw [List.getElem?_map] at e
  cases q : z.cps.toList[i]? with
  | none => rw [q] at e; cases e
  | some c =>
    rw [q] at e
    cases e
    have hi : i < z.cps.size := by
      have := (List.getElem?_eq_some_iff.mp q).1
      simpa using this
    refine ⟨hi, fun x H' y => ?_⟩
    obtain ⟨rfl, c', hc, rfl⟩ := y
    have : c' = c := by
      have q' : z.cps[i]? = some c := by rw [← Array.getElem?_toList]; exact q
      rw [hc] at q'
      exact Option.some.inj q'
    subst this
    exact ⟨g1, .refl g1, w, .str _⟩⟩
/-- lo, lo + c, .. -/
def rngItems (lo c : Int) (n : Nat) : List D := (List.range n).map fun i => .int (lo + (i : Nat) * c)
theorem jrep_rangeC {lo c : Int} {n : Nat} (hn : n ≤ sizeLine) : JRep K mg g (Itc lo c n) ⟨rngItems lo c n, [], []⟩ := ⟨by simp [rngItems]; exact hn, fun b B g1 σ H s m w ok i => by
  refine ⟨fun d e => ?_, fun hi => by have hi : (rngItems lo c n).length ≤ i := hi; show n ≤ i; simpa [rngItems] using hi⟩
  simp only [rngItems, List.getElem?_map, Option.map_eq_some_iff] at e
  obtain ⟨k, hk, rfl⟩ := e
  rw [List.getElem?_eq_some_iff] at hk
  obtain ⟨hl, hk⟩ := hk
  simp at hl hk
  subst hk
  refine ⟨hl, fun x H' y => ?_⟩
  obtain ⟨rfl, rfl⟩ := y
  exact ⟨g1, .refl g1, w, .int _⟩⟩
theorem jrep_range {lo : Int} {n : Nat} (hn : n ≤ sizeLine) : JRep K mg g (Itr lo n) ⟨rngItems lo 1 n, [], []⟩ := ⟨by simp [rngItems]; exact hn, fun b B g1 σ H s m w ok i => by
  refine ⟨fun d e => ?_, fun hi => by have hi : (rngItems lo 1 n).length ≤ i := hi; show n ≤ i; simpa [rngItems] using hi⟩
  simp only [rngItems, List.getElem?_map, Option.map_eq_some_iff] at e
  obtain ⟨k, hk, rfl⟩ := e
  rw [List.getElem?_eq_some_iff] at hk
  obtain ⟨hl, hk⟩ := hk
  simp at hl hk
  subst hk
  refine ⟨hl, fun x H' y => ?_⟩
  obtain ⟨rfl, rfl⟩ := y
  rw [Int.mul_one]
  exact ⟨g1, .refl g1, w, .int _⟩⟩
/-- a new pair comes -/
theorem Wf.pair (w : Wf K mg b B g σ H s) {T : Addr} (hT : H T = none) {ds : List D} {vs : List V} (r : Reps K g ds vs) (hl : vs.length ≤ sizeLine) : ∃ g2, Mono g g2 ∧ Wf K mg b B g2 σ (L2.upd H T (.tup vs)) s ∧ Rep K g2 (.tup ds) (.ref T) := by
  have f := w.fresh hT
  have mm : Mono g (g.fz T (.tup vs)) := mono_fz f.F
  exact ⟨_, mm, (w.upd f (.tup vs) hl).frozen f upd_same, .tup (by show L2.upd g.F T _ T = _; rw [upd_same]) (r.mono mm)⟩
def enumItems (xs : List D) : List D := xs.mapIdx fun i d => .tup [.int (i : Nat), d]
theorem jrep_enum {a : Addr} {r : Src} (h : SL K mg g a r) : JRep K mg g (Ite K a) { r with items := enumItems r.items } := ⟨by simp [enumItems]; exact h.1, fun b B g1 σ H s m w ok i => by
  obtain ⟨vs, h1, h2⟩ := h.2 b B g1 σ H s m w ok
  refine ⟨fun d e => ?_, fun hi => ⟨vs, .of h1, by rw [← h2.length]; simpa [enumItems] using hi⟩⟩
  simp only [enumItems, List.getElem?_mapIdx, Option.map_eq_some_iff] at e
  obtain ⟨x, hx, rfl⟩ := e
  obtain ⟨v, ev, rv⟩ := h2.get hx
  refine ⟨⟨vs, v, .of h1, ev⟩, fun x H' y => ?_⟩
  obtain ⟨T, x', rfl, hT, rfl, y⟩ := y
  have := y vs (.of h1)
  rw [ev] at this
  cases this
  exact w.pair hT (.cons (.int _) (.cons rv .nil)) (by show 2 ≤ sizeLine; decide)⟩
def zipItems : List D → List D → List D := List.zipWith fun x y => .tup [x, y]
def Src.zip (r q : Src) (f : List D → List D → List D) : Src := ⟨f r.items q.items, r.live ++ q.live, r.of ++ q.of⟩
theorem split_eq {α : Type} {a b c d : List α} (h : a ++ b = c ++ d) (l : a.length = c.length) : a = c ∧ b = d := List.append_inj h l
theorem src_len {h : Hd} {r : Src} (e : srcOf h s = .ok r s') : r.live.length = r.of.length := by
  unfold srcOf at e
  split at e
  · cases e; rfl
  · cases e; rfl
  · split at e
    · cases e; rfl
    · cases e
  · split at e
    · cases e; rfl
    · cases e
  · cases e
theorem ok_zip {r q : Src} {f : List D → List D → List D} (hl : r.live.length = r.of.length) (ok : (r.zip q f).ok s) : r.ok s ∧ q.ok s := by
  unfold Src.ok Src.zip at ok
  simp only [List.map_append] at ok
  exact split_eq ok (by simp [hl])
theorem jrep_zip {a c : Addr} {r q : Src} (hl : r.live.length = r.of.length) (h : SL K mg g a r) (k : SL K mg g c q) : JRep K mg g (Itz K a c) (r.zip q zipItems) := ⟨by show (zipItems r.items q.items).length ≤ _; simp [zipItems]; have := h.1; omega, fun b B g1 σ H s m w ok i => by
  obtain ⟨ok1, ok2⟩ := ok_zip hl ok
  obtain ⟨vs, h1, h2⟩ := h.2 b B g1 σ H s m w ok1
  obtain ⟨us, k1, k2⟩ := k.2 b B g1 σ H s m w ok2
  refine ⟨fun d e => ?_, fun hi => ⟨vs, us, .of h1, .of k1, ?_⟩⟩
  · have e : (zipItems r.items q.items)[i]? = some d := e
    simp only [zipItems, List.getElem?_zipWith] at e
    cases q1 : r.items[i]? with
    | none => rw [q1] at e; cases e
    | some x =>
      cases q2 : q.items[i]? with
      | none => rw [q1, q2] at e; cases e
      | some y =>
        rw [q1, q2] at e
        cases e
        obtain ⟨v, ev, rv⟩ := h2.get q1
        obtain ⟨u, eu, ru⟩ := k2.get q2
        refine ⟨⟨vs, us, v, u, .of h1, .of k1, ev, eu⟩, fun x H' y => ?_⟩
        obtain ⟨T, x', y', rfl, hT, rfl, y1, y2⟩ := y
        have z1 := y1 vs (.of h1)
        have z2 := y2 us (.of k1)
        rw [ev] at z1; rw [eu] at z2
        cases z1; cases z2
        exact w.pair hT (.cons rv (.cons ru .nil)) (by show 2 ≤ sizeLine; decide)
  · have hi : (zipItems r.items q.items).length ≤ i := hi
    simp only [zipItems, List.length_zipWith] at hi
    rw [← h2.length, ← k2.length]
    omega⟩
theorem jrep_zipT {a c : Addr} {r q : Src} (hl : r.live.length = r.of.length) (h : ST K mg g a r) (k : ST K mg g c q) : JRep K mg g (RZ.ItzT K a c) (r.zip q zipItems) := ⟨by show (zipItems r.items q.items).length ≤ _; simp [zipItems]; have := h.1; omega, fun b B g1 σ H s m w ok i => by
  obtain ⟨ok1, ok2⟩ := ok_zip hl ok
  obtain ⟨vs, h1, h2⟩ := h.2 b B g1 σ H s m w ok1
  obtain ⟨us, k1, k2⟩ := k.2 b B g1 σ H s m w ok2
  refine ⟨fun d e => ?_, fun hi => ⟨vs, us, .of h1, .of k1, ?_⟩⟩
  · have e : (zipItems r.items q.items)[i]? = some d := e
    simp only [zipItems, List.getElem?_zipWith] at e
    cases q1 : r.items[i]? with
    | none => rw [q1] at e; cases e
    | some x =>
      cases q2 : q.items[i]? with
      | none => rw [q1, q2] at e; cases e
      | some y =>
        rw [q1, q2] at e
        cases e
        obtain ⟨v, ev, rv⟩ := h2.get q1
        obtain ⟨u, eu, ru⟩ := k2.get q2
        refine ⟨⟨vs, us, v, u, .of h1, .of k1, ev, eu⟩, fun x H' y => ?_⟩
        obtain ⟨T, x', y', rfl, hT, rfl, y1, y2⟩ := y
        have z1 := y1 vs (.of h1)
        have z2 := y2 us (.of k1)
        rw [ev] at z1; rw [eu] at z2
        cases z1; cases z2
        exact w.pair hT (.cons rv (.cons ru .nil)) (by show 2 ≤ sizeLine; decide)
  · have hi : (zipItems r.items q.items).length ≤ i := hi
    simp only [zipItems, List.length_zipWith] at hi
    rw [← h2.length, ← k2.length]
    omega⟩
end
end DL

/-! iteration rules, targets, for, comprehensions -/
namespace DL
open L2 PyProof.Rows PySem.Spec PySem

section
variable {X : Cx} {W : WX} {tg e e2 : Expr} {pins : List (Addr × Obj)} {σ : Sg} {H : Hp} {s : Shared} {RQ : It → Hp → Prop} {a : Addr} {vs : List V} {pos p tpos : Pos} {elts : List Expr} {kk : Nat}
theorem it_list (I : Inv X pins σ H s) (h : SqL X.K H a vs) (q : RQ (Itl X.K a) H) : wpAny (model X.prog X.w) X.A (pyIter (.ref a)) (PIE X pins σ tg RQ) X.xe s := by
  obtain ⟨its, _, pl, _⟩ := I.list h
  exact wpAny_pyIter_list pl.isList (pi_one (tk := s.toks) I _ (turn_list a _) ⟨_, Heap.get?_push_size _ rfl, rfl, rfl⟩ q)
theorem it_tup (I : Inv X pins σ H s) (h : SqT X.K H a vs) (q : RQ (Itt X.K a) H) : wpAny (model X.prog X.w) X.A (pyIter (.ref a)) (PIE X pins σ tg RQ) X.xe s := by
  obtain ⟨its, _, pl, _⟩ := I.tuple h
  exact wpAny_pyIter_tuple (show s.heap.IsTuple a its.toArray from pl) (pi_one (tk := s.toks) I _ (turn_tuple a _) ⟨_, Heap.get?_push_size _ rfl, rfl, rfl⟩ q)
theorem it_str (I : Inv X pins σ H s) {x : Str} {t : Tok} (q : RQ (Its x) H) : wpAny (model X.prog X.w) X.A (pyIter (.str x t)) (PIE X pins σ tg RQ) X.xe s := by
  by_cases ha : x.cps.all (· < 128) = true
  · exact wpAny_pyIter_ascii ha (pi_one (tk := s.toks) I _ (turn_str _ x t "str_ascii_iterator" (.inl rfl)) ⟨_, Heap.get?_push_size _ rfl, rfl, rfl⟩ q)
  · exact wpAny_pyIter_wide (by simpa using ha) (pi_one (tk := s.toks) I _ (turn_str _ x t "str_iterator" (.inr rfl)) ⟨_, Heap.get?_push_size _ rfl, rfl, rfl⟩ q)
def iAny (K : PySem.W.Frag) (tl : TE) : TI := fun σ H R => tl σ H fun x H1 => (∃ a vs, x = .ref a ∧ SqL K H1 a vs ∧ R (Itl K a) H1) ∨ (∃ a vs, x = .ref a ∧ SqT K H1 a vs ∧ R (Itt K a) H1) ∨ ∃ z, x = .str z ∧ R (Its z) H1
theorem pi_any {tl : TE} (hl : PE X e tl) : PI X tg e (iAny X.K tl) := ⟨fun pins s σ H R I h => thn (hl.run pins s σ H _ I h) fun v s1 ⟨x, H1, I1, r1, q1⟩ => by
  rcases q1 with ⟨a, vs, rfl, h1, q⟩ | ⟨a, vs, rfl, h1, q⟩ | ⟨z, rfl, q⟩
  · cases r1; exact it_list I1 h1 q
  · cases r1; exact it_tup I1 h1 q
  · obtain ⟨t, rfl⟩ := r1; exact it_str I1 q⟩
/-- over a list, a tuple, a text -/
def iSeq (t : S → R Hd) : S → DL.R Src := fun s => (t s).bind srcOf
theorem di_seq {t : S → DL.R Hd} (h : HE X W e t) : DI X W tg e (iSeq t) := fun b B => PI.weak (pi_any (h b B)) fun σ H Q ⟨g, s, w, p⟩ =>
  ⟨g, s, w, (PostI.bind (RR := rrH X.K) p).imp fun v H1 ⟨g1, s1, d, m1, w1, r1, p1⟩ => by
    cases q : srcOf d s1 with
    | exc x s2 => exfalso; unfold srcOf at q; (repeat' (first | split at q | cases q))
    | bad => rw [q] at p1; exact p1.elim
    | ok r s2 =>
      rw [q] at p1
      obtain ⟨rfl, h⟩ := src_seq w1 r1 q
      rcases h with ⟨a, rfl, ⟨h, vs, hv⟩ | ⟨h, vs, hv⟩⟩ | ⟨z, rfl, hz, rfl⟩
      · exact .inl ⟨a, vs, rfl, .of hv, PostI.here p1 w1 (jrep_list h)⟩
      · exact .inr (.inl ⟨a, vs, rfl, .of hv, PostI.here p1 w1 (jrep_tup h)⟩)
      · exact .inr (.inr ⟨z, rfl, PostI.here p1 w1 (jrep_str hz)⟩)⟩
/-- ranges -/
def rng1 : List Hd → S → R Src := fun hs s => match hs with
  | [.d (.int j)] => if -(2 ^ 62) ≤ j ∧ j ≤ 16777216 then .ok ⟨rngItems 0 1 j.toNat, [], []⟩ s else .bad
  | _ => .bad
def rng2 : List Hd → S → R Src := fun hs s => match hs with
  | [.d (.int i), .d (.int j)] => if -(2 ^ 62) ≤ i ∧ i < 2 ^ 62 ∧ -(2 ^ 62) ≤ j ∧ j < 2 ^ 62 ∧ j - i ≤ 16777216 then .ok ⟨rngItems i 1 (j - i).toNat, [], []⟩ s else .bad
  | _ => .bad
abbrev rngN (i j c : Int) : Nat := (Builtin.Range.rangeSize i j c).toNat
def rng3 : List Hd → S → R Src := fun hs s => match hs with
  | [.d (.int i), .d (.int j), .d (.int c)] => if 0 < c ∧ c < 1073741824 ∧ Builtin.Range.small i j c = true ∧ rngN i j c ≤ 16777216 then .ok ⟨rngItems i c (rngN i j c), [], []⟩ s else .bad
  | _ => .bad
def iCall (u : S → R (List Hd)) (f : List Hd → S → R Src) : S → R Src := fun s => (u s).bind f
theorem small_line {n : Nat} (h : n ≤ 16777216) : n ≤ sizeLine := by rw [sizeLine_eq]; exact h
theorem di_range1 {u : S → R (List Hd)} (hg : Gl X "range") (hm : X.mg "range" = none) (ha : HA X W [e] u) (hs : starEach [e] X.env = [(false, eval e X.env)] := by rfl) : DI X W tg (.Call (.Name "range" p) [e] [] pos) (iCall u rng1) := fun b B =>
  PI.weak (pi_range1 hg hm (ha b B) hs) fun σ H Q ⟨g, s, w, p⟩ => ⟨g, s, w, (PostI.bind (RR := rrHs X.K) p).imp fun v H1 ⟨g1, s1, hs, m1, w1, r1, p1⟩ => by
    unfold rng1 at p1
    split at p1
    · next j =>
      split at p1
      · next hl =>
        obtain ⟨v, rfl, rv⟩ := r1.one
        cases rv.int
        exact ⟨j, rfl, hl.1, by omega, PostI.here p1 w1 (jrep_range (small_line (by omega)))⟩
      · exact p1.elim
    · exact p1.elim⟩
theorem di_range2 {u : S → R (List Hd)} (hg : Gl X "range") (hm : X.mg "range" = none) (ha : HA X W [e, e2] u) (hs : starEach [e, e2] X.env = [(false, eval e X.env), (false, eval e2 X.env)] := by rfl) (hs2 : starEach [e2] X.env = [(false, eval e2 X.env)] := by rfl) :
    DI X W tg (.Call (.Name "range" p) [e, e2] [] pos) (iCall u rng2) := fun b B =>
  PI.weak (pi_range2 hg hm (ha b B) hs hs2) fun σ H Q ⟨g, s, w, p⟩ => ⟨g, s, w, (PostI.bind (RR := rrHs X.K) p).imp fun v H1 ⟨g1, s1, hs, m1, w1, r1, p1⟩ => by
    unfold rng2 at p1
    split at p1
    · next i j =>
      split at p1
      · next hl =>
        obtain ⟨v, u, rfl, rv, ru⟩ := r1.two
        cases rv.int
        cases ru.int
        obtain ⟨h1, h2, h3, h4, h5⟩ := hl
        exact ⟨i, j, rfl, ⟨h1, h2, h3, h4⟩, PostI.here p1 w1 (jrep_range (small_line (by omega)))⟩
      · exact p1.elim
    · exact p1.elim⟩
theorem RepHs.three {K : PySem.W.Frag} {σ : Sg} {g : Gh} {h k l : Hd} {vs : List V} (r : RepHs K σ g [h, k, l] vs) : ∃ v u w, vs = [v, u, w] ∧ RepH K σ g h v ∧ RepH K σ g k u ∧ RepH K σ g l w := by
  match vs, r with
  | [v, u, w], ⟨a, b, c, _⟩ => exact ⟨v, u, w, rfl, a, b, c⟩
theorem di_range3 {e3 : Expr} {u : S → R (List Hd)} (hg : Gl X "range") (hm : X.mg "range" = none) (ha : HA X W [e, e2, e3] u) (hs : starEach [e, e2, e3] X.env = (false, eval e X.env) :: starEach [e2, e3] X.env := by rfl) (hpl : (backTo pos (starEach [e2, e3] X.env)).any (·.1) = false := by rfl) :
    DI X W tg (.Call (.Name "range" p) [e, e2, e3] [] pos) (iCall u rng3) := fun b B =>
  PI.weak (pi_range3 hg hm (ha b B) hs hpl) fun σ H Q ⟨g, s, w, p⟩ => ⟨g, s, w, (PostI.bind (RR := rrHs X.K) p).imp fun v H1 ⟨g1, s1, hs, m1, w1, r1, p1⟩ => by
    unfold rng3 at p1
    split at p1
    · next i j c =>
      split at p1
      · next hl =>
        obtain ⟨v, u, x, rfl, rv, ru, rx⟩ := r1.three
        cases rv.int
        cases ru.int
        cases rx.int
        obtain ⟨h1, h2, h3, h4⟩ := hl
        exact ⟨i, j, c, _, rfl, ⟨by omega, by omega, h3, PyProof.Rows.rangeSize_toNat i j c⟩, PostI.here p1 w1 (jrep_rangeC (small_line h4))⟩
      · exact p1.elim
    · exact p1.elim⟩
/-- enumerate, zip -/
def enumS : List Hd → S → R Src := fun hs s => match hs with
  | [h] => (srcOf h s).bind fun r s1 => .ok { r with items := enumItems r.items } s1
  | _ => .bad
def isL (h : Hd) : Bool := match h with
  | .d (.lst _) => true
  | .d (.ref _) => true
  | _ => false
def isT (h : Hd) : Bool := match h with
  | .d (.tup _) => true
  | _ => false
theorem srcL {K : PySem.W.Frag} {mg : Mg} {b : Gh} {B : Hp} {g : Gh} {h : Hd} {v : V} {r : Src} {s s' : S} (il : isL h = true) (w : Wf K mg b B g σ H s) (rh : RepH K σ g h v) (e : srcOf h s = .ok r s') : s' = s ∧ ∃ a, v = .ref a ∧ SL K mg g a r ∧ ∃ vs, H a = some (.lst vs) := by
  obtain ⟨rfl, h⟩ := src_seq w rh e
  rcases h with ⟨a, rfl, h | ⟨⟨h1, h2⟩, vs, hv⟩⟩ | ⟨z, rfl, hz, rfl⟩
  · exact ⟨rfl, a, rfl, h⟩
  · exfalso
    match h, il with
    | .d (.lst xs), _ =>
      cases rh with
      | lst k1 k2 => rw [w.core.sub _ _ k1] at hv; cases hv
    | .d (.ref n), _ =>
      unfold srcOf at e
      simp only at e
      split at e
      · next xs q =>
        cases rh with
        | ref k1 =>
          obtain ⟨⟨o, q1, us, rfl, q3⟩, _⟩ := w.core.obj _ _ _ q k1
          rw [q1] at hv; cases hv
      · cases e
  · match h, il with
    | .d (.lst xs), _ => cases rh
    | .d (.ref n), _ => cases rh
theorem srcT {K : PySem.W.Frag} {mg : Mg} {b : Gh} {B : Hp} {g : Gh} {h : Hd} {v : V} {r : Src} {s s' : S} (il : isT h = true) (w : Wf K mg b B g σ H s) (rh : RepH K σ g h v) (e : srcOf h s = .ok r s') : s' = s ∧ ∃ a, v = .ref a ∧ ST K mg g a r ∧ ∃ vs, H a = some (.tup vs) := by
  obtain ⟨rfl, k⟩ := src_seq w rh e
  match h, il with
  | .d (.tup xs), _ =>
    cases rh with
    | tup k1 k2 =>
      rcases k with ⟨a, ea, ⟨h1, vs, hv⟩ | h⟩ | ⟨z, ez, _⟩
      · cases ea
        rw [w.core.sub _ _ k1] at hv; cases hv
      · exact ⟨rfl, a, ea, h⟩
      · cases ez
theorem src_noexc {h : Hd} {s s' : S} {x : Ex} : srcOf h s ≠ .exc x s' := fun e => by
  unfold srcOf at e
  (repeat' (first | split at e | cases e))
theorem di_enum {u : S → R (List Hd)} (hg : Gl X "enumerate") (hm : X.mg "enumerate" = none) (ha : HA X W [e] u) (hs : starEach [e] X.env = [(false, eval e X.env)] := by rfl) :
    DI X W (.Tuple elts kk tpos) (.Call (.Name "enumerate" p) [e] [] pos) (iCall u fun hs s => if hs.all isL then enumS hs s else .bad) := fun b B =>
  PI.weak (pi_enum hg hm (ha b B) hs) fun σ H Q ⟨g, s, w, p⟩ => ⟨g, s, w, (PostI.bind (RR := rrHs X.K) p).imp fun v H1 ⟨g1, s1, hs, m1, w1, r1, p1⟩ => by
    split at p1
    · next hl =>
      unfold enumS at p1
      split at p1
      · next h =>
        obtain ⟨v, rfl, rv⟩ := r1.one
        cases q : srcOf h s1 with
        | exc x s2 => exact absurd q src_noexc
        | bad => rw [q] at p1; exact p1.elim
        | ok r s2 =>
          rw [q] at p1
          obtain ⟨rfl, a, rfl, k, vs, hv⟩ := srcL (by simpa using hl) w1 rv q
          exact ⟨a, vs, rfl, .of hv, PostI.here p1 w1 (jrep_enum k)⟩
      · exact p1.elim
    · exact p1.elim⟩
def zipS : List Hd → S → R Src := fun hs s => match hs with
  | [h, k] => if (isL h && isL k) || (isT h && isT k) then (srcOf h s).bind fun r s1 => (srcOf k s1).bind fun q s2 => .ok (r.zip q zipItems) s2 else .bad
  | _ => .bad
theorem di_zip {u : S → R (List Hd)} (hg : Gl X "zip") (hm : X.mg "zip" = none) (ha : HA X W [e, e2] u) (hs : starEach [e, e2] X.env = (false, eval e X.env) :: starEach [e2] X.env := by rfl) (hpl : (backTo pos (starEach [e2] X.env)).any (·.1) = false := by rfl) :
    DI X W (.Tuple elts kk tpos) (.Call (.Name "zip" p) [e, e2] [] pos) (iCall u zipS) := fun b B =>
  PI.weak (RZ.pi_zipA hg hm (ha b B) hs hpl) fun σ H Q ⟨g, s, w, p⟩ => ⟨g, s, w, (PostI.bind (RR := rrHs X.K) p).imp fun v H1 ⟨g1, s1, hs, m1, w1, r1, p1⟩ => by
    unfold zipS at p1
    split at p1
    · next h k =>
      split at p1
      · next hl =>
        obtain ⟨v, u, rfl, rv, ru⟩ := r1.two
        cases q : srcOf h s1 with
        | exc x s2 => exact absurd q src_noexc
        | bad => rw [q] at p1; exact p1.elim
        | ok r s2 =>
          rw [q] at p1
          cases q2 : srcOf k s2 with
          | exc x s3 => exact absurd q2 src_noexc
          | bad => have p1 : PostI X.K X.mg b B W σ g1 ((srcOf k s2).bind fun q s2 => .ok (r.zip q zipItems) s2) Q := p1; rw [q2] at p1; exact p1.elim
          | ok r2 s3 =>
            have p2 : PostI X.K X.mg b B W σ g1 ((srcOf k s2).bind fun q s2 => .ok (r.zip q zipItems) s2) Q := p1
            rw [q2] at p2
            have p2 : PostI X.K X.mg b B W σ g1 (.ok (r.zip r2 zipItems) s3) Q := p2
            clear p1
            rcases Bool.or_eq_true_iff.mp hl with z | z
            · obtain ⟨z1, z2⟩ := Bool.and_eq_true_iff.mp z
              obtain ⟨rfl, a, rfl, k1, vs, hv⟩ := srcL z1 w1 rv q
              obtain ⟨rfl, c, rfl, k2, us, hu⟩ := srcL z2 w1 ru q2
              exact ⟨a, c, vs, us, rfl, .inl ⟨.of hv, .of hu, PostI.here p2 w1 (jrep_zip (src_len q) k1 k2)⟩⟩
            · obtain ⟨z1, z2⟩ := Bool.and_eq_true_iff.mp z
              obtain ⟨rfl, a, rfl, k1, vs, hv⟩ := srcT z1 w1 rv q
              obtain ⟨rfl, c, rfl, k2, us, hu⟩ := srcT z2 w1 ru q2
              exact ⟨a, c, vs, us, rfl, .inr ⟨.of hv, .of hu, PostI.here p2 w1 (jrep_zipT (src_len q) k1 k2)⟩⟩
      · exact p1.elim
    · exact p1.elim⟩
end

/-! ### targets -/
section
variable (K : PySem.W.Frag) (mg : Mg) (b : Gh) (B : Hp) (W : WX) (is : List Nat)
def PostG (g : Gh) (r : R Unit) (σ : Sg) (Q : L2.St → Hp → Prop) : Prop := match r with
  | .ok _ s' => ∀ g' σ' H', Mono g g' → Wf K mg b B g' σ' H' s' → wipe σ' is = wipe σ is → Q σ' H'
  | .exc x s' => False
  | .bad => False
def LG (t : D → S → R Unit) : TG := fun v σ H Q => ∃ g s d, Wf K mg b B g σ H s ∧ Rep K g d v ∧ PostG K mg b B is g (t d s) σ Q
def LGs (t : List D → S → R Unit) : TGs := fun vs σ H Q => ∃ g s ds, Wf K mg b B g σ H s ∧ Reps K g ds vs ∧ PostG K mg b B is g (t ds s) σ Q
end
def DG (X : Cx) (is : List Nat) (tg : Expr) (t : D → S → R Unit) : Prop := ∀ b B, PG X tg (LG X.K X.mg b B is t)
def DGs (X : Cx) (is : List Nat) (tg : List Expr) (t : List D → S → R Unit) : Prop := ∀ b B, PGs X tg (LGs X.K X.mg b B is t)
theorem PG.weak {X : Cx} {tg : Expr} {t t' : TG} (h : PG X tg t) (k : ∀ v σ H Q, t' v σ H Q → t v σ H Q) : PG X tg t' := ⟨fun pins s σ H v u Q I r q => h.run pins s σ H v u Q I r (k v σ H Q q)⟩
theorem PGs.weak {X : Cx} {tg : List Expr} {t t' : TGs} (h : PGs X tg t) (k : ∀ v σ H Q, t' v σ H Q → t v σ H Q) : PGs X tg t' := ⟨fun pins s σ H v u Q I r q => h.run pins s σ H v u Q I r (k v σ H Q q)⟩
theorem pg_or {X : Cx} {tg : Expr} {t t' : TG} (h : PG X tg t) (k : PG X tg t') : PG X tg (fun v σ H Q => t v σ H Q ∨ t' v σ H Q) := ⟨fun pins s σ H v u Q I r q => q.elim (fun q => h.run pins s σ H v u Q I r q) fun q => k.run pins s σ H v u Q I r q⟩
def gSet (i : Nat) : D → S → R Unit := fun d s => .ok () { s with env := s.env.set i (.val d) }
def gNone : List D → S → R Unit := fun ds s => match ds with
  | [] => .ok () s
  | _ => .bad
def gAnd (t : D → S → R Unit) (u : List D → S → R Unit) : List D → S → R Unit := fun ds s => match ds with
  | d :: r => (t d s).bind fun _ s1 => u r s1
  | [] => .bad
/-- taken apart: a tuple or a list of so many -/
def gTake (n : Nat) (u : List D → S → R Unit) : D → S → R Unit := fun d s => match d with
  | .tup ds => if ds.length = n then u ds s else .bad
  | .lst ds => if ds.length = n then u ds s else .bad
  | _ => .bad
section
variable {X : Cx} {e : Expr} {es : List Expr} {t : D → S → R Unit} {u : List D → S → R Unit} {pos : Pos}
theorem wipe_set (σ : Sg) (i : Nat) (x : Option V) : ∀ is : List Nat, wipe (σ.set i x) is = if i ∈ is then wipe σ is else (wipe σ is).set i x
  | [] => by simp [wipe]
  | v :: r => by
    show (wipe (σ.set i x) r).set v none = _
    rw [wipe_set σ i x r]
    by_cases h : i ∈ r
    · rw [if_pos h, if_pos (List.mem_cons_of_mem _ h)]
      rfl
    · rw [if_neg h]
      by_cases e : i = v
      · subst e
        rw [if_pos (by simp), List.set_set]
        rfl
      · rw [if_neg (by simp [e, h]), List.set_comm _ _ e]
        rfl
theorem PostG.mono {K : PySem.W.Frag} {mg : Mg} {b : Gh} {B : Hp} {is : List Nat} {g g' : Gh} (m : Mono g g') {r : R Unit} {σ σ2 : Sg} (es : wipe σ2 is = wipe σ is) {Q : L2.St → Hp → Prop} (h : PostG K mg b B is g r σ Q) : PostG K mg b B is g' r σ2 Q := by
  cases r with
  | ok a s => exact fun k σ' H' mm w e => h k σ' H' (m.trans mm) w (e.trans es)
  | exc x s => exact h
  | bad => exact h
theorem dg_name {is : List Nat} {i : Nat} {x : Str} (hm : i ∈ is) (hN : X.N.Nodup) (hi : X.N[i]? = some x) (hx : Loc X.env.scope x) (hf : X.fn x = true ∨ X.env.scope.names.lookup x = some .local := by first | exact .inl rfl | exact .inr rfl | assumption) : DG X is (.Name x pos) (gSet i) := fun b B =>
  PG.weak (pg_name hN hi hx hf) fun v σ H Q ⟨g, s, d, w, r, p⟩ => p g _ H (.refl g) (w.setVal r) (by rw [wipe_set, if_pos hm])
theorem dgs_nil {is : List Nat} : DGs X is [] gNone := fun b B => PGs.weak pgs_nil fun v σ H Q ⟨g, s, ds, w, r, p⟩ => by
  cases r with
  | nil => exact ⟨rfl, p g σ H (.refl g) w rfl⟩
  | cons _ _ => exact p.elim
theorem dgs_cons {is : List Nat} (h : DG X is e t) (k : DGs X is es u) (hs : (assignEach (e :: es) X.env).map (·.2) = assign e X.env :: (assignEach es X.env).map (·.2) := by rfl) : DGs X is (e :: es) (gAnd t u) := fun b B =>
  PGs.weak (pgs_cons (h b B) (k b B) hs) fun v σ H Q ⟨g, s, ds, w, r, p⟩ => by
    cases r with
    | nil => exact p.elim
    | @cons d v ds vs r1 r2 =>
      refine ⟨v, vs, rfl, g, s, d, w, r1, ?_⟩
      have p : PostG X.K X.mg b B is g ((t d s).bind fun _ s1 => u ds s1) σ Q := p
      revert p
      cases t d s with
      | ok a s1 => exact fun p g' σ' H' m w' es => ⟨g', s1, ds, w', r2.mono m, PostG.mono m es p⟩
      | exc x s => exact id
      | bad => exact id
theorem dg_tup {is : List Nat} {k n : Nat} (hc : X.calm = true) (h : DGs X is es u) (hn : (assignEach es X.env).length = n := by rfl) (hst : (assignEach es X.env).findIdx? (·.1) = none := by rfl) : DG X is (.Tuple es k pos) (gTake n u) := fun b B =>
  PG.weak (pg_or (pg_tup (k := k) (pos := pos) hc (h b B) hn hst) (pg_lst hc (h b B) hn hst)) fun v σ H Q ⟨g, s, d, w, r, p⟩ => by
    unfold gTake at p
    split at p
    · split at p
      · next hl =>
        cases r with
        | tup h1 h2 => exact .inl ⟨_, _, rfl, .of (w.core.sub _ _ h1), by rw [← h2.length]; exact hl, g, s, _, w, h2, p⟩
      · exact p.elim
    · split at p
      · next hl =>
        cases r with
        | lst h1 h2 => exact .inr ⟨_, _, rfl, .of (w.core.sub _ _ h1), by rw [← h2.length]; exact hl, g, s, _, w, h2, p⟩
      · exact p.elim
    · exact p.elim
end
/-- target = value -/
def sAsg (t : S → R D) (u : D → S → R Unit) : S → RS := fun s => (t s).st fun d s1 => (u d s1).st fun _ s2 => .nx s2
section
variable {X : Cx} {W : WX} {tg e : Expr} {t : S → R D} {u : D → S → R Unit} {pos : Pos}
/-- targets raise nothing -/
def NoX (u : D → S → R Unit) : Prop := ∀ d s x s', u d s ≠ .exc x s'
def NoXs (u : List D → S → R Unit) : Prop := ∀ d s x s', u d s ≠ .exc x s'
theorem nox_set {i : Nat} : NoX (gSet i) := fun d s x s' e => nomatch e
theorem nox_none : NoXs gNone := fun d s x s' e => by
  unfold gNone at e
  split at e <;> cases e
theorem nox_and {t : D → S → R Unit} {u : List D → S → R Unit} (h : NoX t) (k : NoXs u) : NoXs (gAnd t u) := fun d s x s' e => by
  unfold gAnd at e
  split at e
  · next d r =>
    cases q : t d s with
    | ok a s1 => rw [q] at e; exact k _ _ _ _ e
    | exc y s1 => exact h _ _ _ _ q
    | bad => rw [q] at e; cases e
  · cases e
theorem nox_take {n : Nat} {u : List D → S → R Unit} (k : NoXs u) : NoX (gTake n u) := fun d s x s' e => by
  unfold gTake at e
  split at e
  · split at e
    · exact k _ _ _ _ e
    · cases e
  · split at e
    · exact k _ _ _ _ e
    · cases e
  · cases e
theorem s_asg {is : List Nat} (he : DE X W e t) (hg : DG X is tg u) (nx : NoX u) (hs : swapsWithSole [tg] e pos.line X.env = pure false := by rfl) (hw : swappedStores [tg] e X.env = pure none := by rfl)
    (h1 : (assignEach [tg] X.env).map (·.2) = [assign tg X.env] := by rfl) : DS X W (.Assign [tg] e pos) (sAsg t u) := fun b B => PS.weak (ps_asg (he b B) (hg b B) hs hw h1) fun E σ H ⟨g, s, w, p⟩ =>
  ⟨g, s, w, (PostS.bind (RR := rrD X.K) p).imp fun v H1 ⟨g1, s1, d, m1, w1, r1, p1⟩ => ⟨g1, s1, d, w1, r1, by
    revert p1
    cases q : u d s1 with
    | ok a s2 => exact fun p1 g' σ' H' m w' _ => PostS.nx p1 m w'
    | exc x s2 => exact absurd q (nx _ _ _ _)
    | bad => exact id⟩⟩
end

/-! ### for -/
open Classical in
noncomputable def forGo (r : Src) (u : D → S → R Unit) (body : S → RS) : List D → S → RS
  | [], s => if r.ok s then .nx s else .bad
  | d :: ds, s => if r.ok s then (u d s).st fun _ s1 => (match body s1 with
      | .nx s2 => forGo r u body ds s2
      | .ct s2 => forGo r u body ds s2
      | .bk s2 => .nx s2
      | x => x) else .bad
noncomputable def sFor (t : S → R Src) (u : D → S → R Unit) (body : S → RS) : S → RS := fun s => (t s).st fun r s1 => forGo r u body r.items s1
/-- the walk of a for -/
theorem for_core {X : Cx} {W : WX} {u : D → S → R Unit} {tb : S → RS} {is : List Nat} {b : Gh} {B : Hp} {σ : L2.St} {E : Ends} (nx : NoX u) {r : Src} {g1 : Gh} {H1 : Hp} {J : It} {s1 : S} (w1 : Wf X.K X.mg b B g1 σ H1 s1) (jr : JRep X.K X.mg g1 J r)
    (p : PostS X.K X.mg b B W g1 (forGo r u tb r.items s1) E) : ∃ N : Nat → Nat → L2.St → Hp → Prop, (∃ m, N 0 m σ H1) ∧ ∀ i m σ H, N i m σ H →
  (J.stop i H ∧ E.nx σ H) ∨ (J.go i H ∧ ∃ M : L2.St → Hp → Prop, (∀ σ' H', M σ' H' → ∃ m', m' < m ∧ N (i + 1) m' σ' H') ∧ ∀ x H', J.yld i H x H' → LG X.K X.mg b B is u x σ H' fun σ2 H2 => LS X.K X.mg b B W tb { E with nx := M, ct := M, bk := E.nx } σ2 H2) := by
  refine ⟨fun i m σ H => m = r.items.length - i ∧ i ≤ r.items.length ∧ ∃ g s, Mono g1 g ∧ Wf X.K X.mg b B g σ H s ∧ PostS X.K X.mg b B W g (forGo r u tb (r.items.drop i) s) E, ⟨_, rfl, Nat.zero_le _, g1, s1, .refl g1, w1, p⟩, ?_⟩
  rintro i m σ H ⟨rfl, hi, g2, s2, m2, w2, p2⟩
  by_cases hlt : i < r.items.length
  · right
    rw [List.drop_eq_getElem_cons hlt] at p2
    unfold forGo at p2
    split at p2
    · next ok =>
      obtain ⟨go, yl⟩ := (jr.2 b B g2 σ H s2 m2 w2 ok i).1 _ (List.getElem?_eq_getElem hlt)
      refine ⟨go, fun σ' H' => ∃ g s, Mono g1 g ∧ Wf X.K X.mg b B g σ' H' s ∧ PostS X.K X.mg b B W g (forGo r u tb (r.items.drop (i + 1)) s) E, fun σ' H' q => ⟨r.items.length - (i + 1), by omega, rfl, hlt, q⟩, fun x H' y => ?_⟩
      obtain ⟨g3, m3, w3, r3⟩ := yl x H' y
      refine ⟨g3, s2, _, w3, r3, ?_⟩
      have p3 := PostS.mono m3 p2
      revert p3
      cases q : u r.items[i] s2 with
      | exc x s3 => exact absurd q (nx _ _ _ _)
      | bad => exact id
      | ok a s3 =>
        intro p3 g4 σ4 H4 m4 w4 _
        refine ⟨g4, s3, w4, ?_⟩
        have p4 : PostS X.K X.mg b B W g4 (match tb s3 with | .nx s2 => forGo r u tb (r.items.drop (i + 1)) s2 | .ct s2 => forGo r u tb (r.items.drop (i + 1)) s2 | .bk s2 => .nx s2 | x => x) E := PostS.mono m4 p3
        have mm : Mono g1 g4 := (m2.trans m3).trans m4
        revert p4
        cases tb s3 with
        | nx s5 => exact fun p4 g' σ' H' m w' => ⟨g', s5, mm.trans m, w', PostS.mono m p4⟩
        | ct s5 => exact fun p4 g' σ' H' m w' => ⟨g', s5, mm.trans m, w', PostS.mono m p4⟩
        | bk s5 => exact fun p4 g' σ' H' m w' => p4 g' σ' H' m w'
        | rt d s5 => exact id
        | exc x s5 => exact id
        | bad => exact id
    · exact p2.elim
  · left
    have e : i = r.items.length := by omega
    subst e
    rw [List.drop_length] at p2
    unfold forGo at p2
    split at p2
    · next ok => exact ⟨(jr.2 b B g2 σ H s2 m2 w2 ok _).2 (Nat.le_refl _), PostS.nx p2 (.refl g2) w2⟩
    · exact p2.elim
theorem s_for {X : Cx} {W : WX} {tg iter : Expr} {body : List Stmt} {t : S → R Src} {u : D → S → R Unit} {tb : S → RS} {pos : Pos} (hp : PassesOwn (model X.prog X.w) X.A X.env X.xe) (hc : X.calm = true) {is : List Nat} (hi : DI X W tg iter t) (hg : DG X is tg u) (nx : NoX u) (hb : DSs X W body tb)
    (hs : ∀ x, foldedSetIterable iter X.env x = pure x := by intro _; rfl) : DS X W (.For tg iter body [] pos) (sFor t u tb) := fun b B => PS.weak (ps_for hp hc (hi b B) (hg b B) (hb b B) hs) fun E σ H ⟨g, s, w, p⟩ => by
  refine ⟨g, s, w, ?_⟩
  unfold sFor at p
  revert p
  cases t s with
  | exc x s1 => exact fun p g' H' cls dd m w e => p g' σ H' cls dd m w e
  | bad => exact id
  | ok r s1 => exact fun p g1 H1 J m1 w1 jr => for_core nx w1 jr (PostS.mono m1 p)
end DL

/-! list comprehensions -/
namespace DL
open L2 PyProof.Rows PySem.Spec PySem

def Slot.pub : Slot → Slot
  | .own _ => .no
  | x => x
def wipeE (env : List Slot) : List Nat → List Slot
  | [] => env
  | v :: vs => (wipeE env vs).set v .no
/-- a block's own state: the names without what they own, the block's names forgotten -/
def blkS (env : List Slot) (m : List MO) : S := ⟨env, m, m.length⟩
section
variable {K : PySem.W.Frag} {mg : Mg} {b g g' : Gh} {B H H' : Hp} {σ σ' : Sg} {s s' : S} {p : Addr} {o : HO}
theorem wipeE_len (env : List Slot) : ∀ vs : List Nat, (wipeE env vs).length = env.length
  | [] => rfl
  | v :: vs => by show ((wipeE env vs).set v .no).length = _; rw [List.length_set, wipeE_len env vs]
theorem wipeE_get {env : List Slot} {i : Nat} {x : Slot} (hx : x ≠ .no) : ∀ {vs : List Nat}, (wipeE env vs)[i]? = some x → env[i]? = some x ∧ i ∉ vs
  | [], h => ⟨h, by simp⟩
  | v :: vs, h => by
    have h : ((wipeE env vs).set v .no)[i]? = some x := h
    by_cases e : v = i
    · subst e
      rw [List.getElem?_set] at h
      simp at h
      exact absurd h.2.symm hx
    · rw [List.getElem?_set_ne e] at h
      obtain ⟨h1, h2⟩ := wipeE_get hx h
      exact ⟨h1, by simp [h2, Ne.symm e]⟩
theorem wipe_keep {σ : Sg} {i : Nat} : ∀ {vs : List Nat}, i ∉ vs → (wipe σ vs)[i]? = σ[i]?
  | [], _ => rfl
  | v :: vs, h => by
    show ((wipe σ vs).set v none)[i]? = _
    rw [List.getElem?_set_ne (fun e => h (by simp [e])), wipe_keep (fun z => h (List.mem_cons_of_mem _ z))]
theorem wipe_get (σ : Sg) (i : Nat) : ∀ vs : List Nat, (wipe σ vs)[i]? = if i ∈ vs then (σ[i]?).map (fun _ => none) else σ[i]?
  | [] => by simp [wipe]
  | v :: vs => by
    show ((wipe σ vs).set v none)[i]? = _
    by_cases e : v = i
    · subst e
      rw [if_pos (by simp)]
      by_cases h : v < σ.length
      · rw [List.getElem?_set_self (by rw [wipe_length]; exact h), List.getElem?_eq_getElem h]; rfl
      · rw [List.getElem?_eq_none (by rw [List.length_set, wipe_length]; omega), List.getElem?_eq_none (by omega)]; rfl
    · rw [List.getElem?_set_ne e, wipe_get σ i vs]
      by_cases h : i ∈ vs
      · rw [if_pos h, if_pos (List.mem_cons_of_mem _ h)]
      · rw [if_neg h, if_neg (by simp [Ne.symm e, h])]
theorem wipe_wipe (σ : Sg) (vs : List Nat) : wipe (wipe σ vs) vs = wipe σ vs := by
  apply List.ext_getElem?
  intro i
  rw [wipe_get, wipe_get]
  by_cases h : i ∈ vs
  · rw [if_pos h, if_pos h, Option.map_map]; rfl
  · rw [if_neg h]
theorem upd_self {H : Hp} {a : Addr} {o : HO} (h : H a = some o) : upd H a o = H := by
  funext c
  by_cases e : c = a
  · rw [e, upd_same, h]
  · rw [upd_ne e]
theorem PostF.mono {W : WX} {r : R MO} {Q : VK} (m : Mono g g') (h : PostF K mg b B W σ g r Q) : PostF K mg b B W σ g' r Q := by
  cases r with
  | ok a s' => exact fun k H' c m' => h k H' c (m.trans m')
  | exc x s' => exact fun k H' c d m' => h k H' c d (m.trans m')
  | bad => exact h
theorem core_anc (c : Core K mg g H s.mem) : Anc g H g H := ⟨Same.refl _, List.prefix_rfl, fun _ _ e _ => e, fun _ h => h, fun _ h => .inl h, fun _ h => .inl h⟩
/-- into a block -/
theorem Wf.block (w : Wf K mg b B g σ H s) {m : List MO} {k : Gh} {J : Hp} (c : Core K mg k J m) (mm : Mono g k) (vs : List Nat) : Wf K mg k J k (wipe σ vs) J (blkS (wipeE (s.env.map Slot.pub) vs) m) := by
  refine ⟨c, core_anc (s := ⟨[], m, 0⟩) c, c.len, ?_, fun i d e => ?_, fun i mo e => ?_, fun i j mi mj a e => ?_⟩
  · show (wipe σ vs).length = (wipeE (s.env.map Slot.pub) vs).length
    rw [wipe_length, wipeE_len, List.length_map]; exact w.len
  · have e : (wipeE (s.env.map Slot.pub) vs)[i]? = some (.val d) := e
    obtain ⟨h1, h2⟩ := wipeE_get (by simp) e
    rw [List.getElem?_map, Option.map_eq_some_iff] at h1
    obtain ⟨x, h3, h4⟩ := h1
    cases x with
    | val d' => cases h4; rw [wipe_keep h2]; exact w.valMono mm h3
    | own _ => cases h4
    | no => cases h4
  · have e : (wipeE (s.env.map Slot.pub) vs)[i]? = some (.own mo) := e
    obtain ⟨h1, h2⟩ := wipeE_get (by simp) e
    rw [List.getElem?_map, Option.map_eq_some_iff] at h1
    obtain ⟨x, h3, h4⟩ := h1
    cases x <;> cases h4
  · have e : (wipeE (s.env.map Slot.pub) vs)[i]? = some (.own mi) := e
    obtain ⟨h1, h2⟩ := wipeE_get (by simp) e
    rw [List.getElem?_map, Option.map_eq_some_iff] at h1
    obtain ⟨x, h3, h4⟩ := h1
    cases x <;> cases h4
/-- out of it: all that stood ahead stands, the store is the block's -/
theorem Wf.outOf (w : Wf K mg b B g σ H s) {m : List MO} {k : Gh} {J : Hp} (c : Core K mg k J m) (a : Anc g H k J) : Wf K mg b B k σ J { s with mem := m } := by
  refine ⟨c, w.anc.trans a, w.lo, w.len, fun i d e => w.valMono a.mono e, fun i mo e => ?_, w.dist⟩
  obtain ⟨h0, x, h1, h2, h3, h4, u, h5, h6⟩ := w.own i mo e
  refine ⟨h0, x, h1, ?_, fun hm => ?_, h4, u, a.keep x u h5 h3, h6.mono a.mono⟩
  · apply Classical.byContradiction
    intro z
    rcases a.newF x z with q | q | q | ⟨vs, q⟩
    · exact q h2
    · rw [h5] at q; cases q
    · exact h3 q
    · have e1 := c.sub _ _ q
      rw [a.keep x u h5 h3] at e1
      cases e1
      exact h0 h6.notTup
  · rcases a.newM x hm with q | q
    · exact h3 q
    · rw [h5] at q; cases q
end
/-- nothing is raised in a block -/
abbrev WN : WX := fun _ _ _ _ => False
def R.nox {α : Type} (r : R α) : R α := match r with
  | .exc _ _ => .bad
  | r => r
theorem nox_ok {α : Type} (a : α) (s : S) : (R.ok a s).nox = .ok a s := rfl
def DTs (X : Cx) (W : WX) (ifs : List Expr) (t : S → R Bool) : Prop := ∀ b B, PTs X ifs (L X.K X.mg b B W rrB t)
def tAll : S → R Bool := fun s => .ok true s
theorem dts_nil {X : Cx} {W : WX} : DTs X W [] tAll := fun b B => ⟨fun pins s σ H Q I ⟨g, st, w, p⟩ => pts_nil.run pins s σ H Q I (Post.here (RR := rrB) p w rfl)⟩
theorem dts_one {X : Cx} {W : WX} {c : Expr} {t : S → R Bool} (h : DT X W c t) : DTs X W [c] t := fun b B => pts_one (h b B)
open Classical in
noncomputable def compGo (r : Src) (env : List Slot) (u : D → S → R Unit) (tt : S → R Bool) (te : S → R D) : List D → List D → List MO → R (List D)
  | [], acc, m => if r.ok (blkS env m) then .ok acc (blkS env m) else .bad
  | d :: ds, acc, m => if r.ok (blkS env m) then ((u d (blkS env m)).bind fun _ s1 => (tt s1).nox.bind fun c s2 =>
      if c = true then (te s2).nox.bind fun y s3 => compGo r env u tt te ds (acc ++ [y]) s3.mem else compGo r env u tt te ds acc s2.mem) else .bad
noncomputable def fComp (t : S → R Src) (vs : List Nat) (u : D → S → R Unit) (tt : S → R Bool) (te : S → R D) : S → R MO := fun s => (t s).bind fun r s1 =>
  (compGo r (wipeE (s1.env.map Slot.pub) vs) u tt te r.items [] s1.mem).bind fun ys s2 => .ok (.lst ys) { s1 with mem := s2.mem }
/-- what a turn of the walk leaves -/
structure Turning (K : PySem.W.Frag) (mg : Mg) (g1 : Gh) (H1 : Hp) (A : Addr) (n i : Nat) (g : Gh) (H : Hp) (m : List MO) (acc : List D) : Prop where
  mono : Mono g1 g
  core : Core K mg g H m
  anc : Anc g1 H1 g H
  F : g.F A = none
  mu : A ∉ g.mu
  at_ : ∃ vs, H A = some (.lst vs) ∧ Reps K g acc vs
  le : acc.length ≤ i
theorem compGo_noexc {r : Src} {env : List Slot} {u : D → S → R Unit} {tt : S → R Bool} {te : S → R D} (nx : NoX u) : ∀ (ds acc : List D) (m : List MO) (x : Ex) (s : S), compGo r env u tt te ds acc m ≠ .exc x s
  | [], acc, m, x, s, e => by
    unfold compGo at e
    split at e <;> cases e
  | d :: ds, acc, m, x, s, e => by
    unfold compGo at e
    split at e
    · cases q : u d (blkS env m) with
      | exc y s1 => exact nx _ _ _ _ q
      | bad => rw [q] at e; cases e
      | ok a s1 =>
        rw [q] at e
        simp only [bind_ok] at e
        cases q2 : tt s1 with
        | exc y s2 => rw [q2] at e; cases e
        | bad => rw [q2] at e; cases e
        | ok c s2 =>
          rw [q2] at e
          simp only [nox_ok, bind_ok] at e
          split at e
          · cases q3 : te s2 with
            | exc y s3 => rw [q3] at e; cases e
            | bad => rw [q3] at e; cases e
            | ok y s3 =>
              rw [q3] at e
              exact compGo_noexc nx _ _ _ _ _ e
          · exact compGo_noexc nx _ _ _ _ _ e
    · cases e
section
variable {X : Cx} {W : WX}
theorem comp_core {u : D → S → R Unit} {tt : S → R Bool} {te : S → R D} {t : S → R Src} {is : List Nat} (nx : NoX u) (b : Gh) (B : Hp) {σ : Sg} {H : Hp} {Q : VK} (h : LF X.K X.mg b B W (fComp t is u tt te) σ H Q) :
    tLc (LI X.K X.mg b B W t) (fun v σ H Q => ∃ b B, LG X.K X.mg b B is u v σ H Q) (fun σ H Q => ∃ b B, L X.K X.mg b B WN rrB tt σ H Q) (fun σ H Q => ∃ b B, L X.K X.mg b B WN (rrD X.K) te σ H Q) is σ H Q := by
  obtain ⟨g, s, w, p⟩ := h
  refine ⟨g, s, w, ?_⟩
  unfold fComp at p
  revert p
  cases t s with
  | exc x s1 => exact id
  | bad => exact id
  | ok r s1 =>
    intro p g1 H1 J m1 w1 jr A hA
    have p : PostF X.K X.mg b B W σ g ((compGo r (wipeE (s1.env.map Slot.pub) is) u tt te r.items [] s1.mem).bind fun ys s2 => .ok (.lst ys) { s1 with mem := s2.mem }) Q := p
    generalize henv : wipeE (s1.env.map Slot.pub) is = env at p
    have fA := w1.fresh hA
    have w1A : Wf X.K X.mg b B g1 σ (upd H1 A (.lst [])) s1 := w1.upd fA (.lst []) (Nat.zero_le _)
    refine ⟨fun i m H => m = r.items.length - i ∧ i ≤ r.items.length ∧ ∃ g2 mem acc, Turning X.K X.mg g1 H1 A r.items.length i g2 H mem acc ∧ PostF X.K X.mg b B W σ g2 ((compGo r env u tt te (r.items.drop i) acc mem).bind fun ys s2 => .ok (.lst ys) { s1 with mem := s2.mem }) Q,
      ⟨_, rfl, Nat.zero_le _, g1, s1.mem, [], ⟨.refl g1, w1A.core, ⟨Same.refl _, List.prefix_rfl, fun a o e _ => ?_, fun a h => ?_, fun _ h => .inl h, fun _ h => .inl h⟩, fA.F, fA.mu, ⟨[], upd_same, .nil⟩, Nat.le_refl _⟩, ?_⟩, ?_⟩
    · rw [upd_ne (fun z => by rw [z, hA] at e; cases e)]; exact e
    · by_cases z : a = A
      · rw [z, upd_same]; simp
      · rw [upd_ne z]; exact h
    · exact PostF.mono m1 p
    · rintro i m H ⟨rfl, hi, g2, mem, acc, T, p2⟩
      obtain ⟨vs, hv, rv⟩ := T.at_
      have wb : Wf X.K X.mg g2 H g2 (wipe σ is) H (blkS env mem) := by rw [← henv]; exact w1.block T.core T.mono is
      by_cases hlt : i < r.items.length
      · right
        rw [List.drop_eq_getElem_cons hlt] at p2
        unfold compGo at p2
        split at p2
        · next ok =>
          obtain ⟨go, yl⟩ := (jr.2 g2 H g2 (wipe σ is) H (blkS env mem) T.mono wb ok i).1 _ (List.getElem?_eq_getElem hlt)
          refine ⟨go, fun H' => i + 1 ≤ r.items.length ∧ ∃ g2 mem acc, Turning X.K X.mg g1 H1 A r.items.length (i + 1) g2 H' mem acc ∧ PostF X.K X.mg b B W σ g2 ((compGo r env u tt te (r.items.drop (i + 1)) acc mem).bind fun ys s2 => .ok (.lst ys) { s1 with mem := s2.mem }) Q,
            fun H' ⟨q0, q⟩ => ⟨r.items.length - (i + 1), by omega, rfl, q0, q⟩, fun x H' y => ?_⟩
          obtain ⟨g3, m3, w3, r3⟩ := yl x H' y
          refine ⟨g2, H, g3, blkS env mem, _, w3, r3, ?_⟩
          -- from here on: what the heap says behind each part, over (g2, H)
          have back : ∀ {g' : Gh} {H' : Hp} {m' : List MO} {acc' : List D} {vs' : List V}, Core X.K X.mg g' H' m' → Anc g2 H g' H' → acc'.length ≤ i + 1 → Reps X.K g' acc' vs' → vs'.length ≤ sizeLine → Turning X.K X.mg g1 H1 A r.items.length (i + 1) g' (upd H' A (.lst vs')) m' acc' := fun {g' H' m' acc' vs'} c a hl ra hz => by
            have fF : g'.F A = none := Classical.byContradiction fun z => by
              rcases a.newF A z with q | q | q | ⟨ws, q⟩
              · exact q T.F
              · rw [hv] at q; cases q
              · exact T.mu q
              · have e1 := c.sub _ _ q
                rw [a.keep A _ hv T.mu] at e1
                cases e1
            have fM : A ∉ g'.mu := fun z => (a.newM A z).elim (fun q => T.mu q) fun q => by rw [hv] at q; cases q
            have an := T.anc.trans a
            refine ⟨T.mono.trans a.mono, ⟨fun c0 o e => ?_, fun c0 o e => ?_, c.len, c.nd, fun n mo c0 e1 e2 => ?_⟩, ⟨an.sub, an.pre, fun c0 o e n => ?_, fun c0 h => ?_, an.newF, an.newM⟩, fF, fM, ⟨vs', upd_same, ra⟩, hl⟩
            · rw [upd_ne (fun z => by rw [z, fF] at e; cases e)]; exact c.sub c0 o e
            · by_cases z : c0 = A
              · rw [z, upd_same] at e; cases e; exact hz
              · rw [upd_ne z] at e; exact c.sz c0 o e
            · obtain ⟨⟨o, e3, r3⟩, q⟩ := c.obj n mo c0 e1 e2
              exact ⟨⟨o, by rw [upd_ne (fun z : c0 = A => fM (by rw [← z]; exact List.mem_of_getElem? e2))]; exact e3, r3⟩, q⟩
            · rw [upd_ne (fun z => by rw [z, hA] at e; cases e)]; exact an.keep c0 o e n
            · by_cases z : c0 = A
              · rw [z, upd_same]; simp
              · rw [upd_ne z]; exact an.there c0 h
          have keepA : ∀ {g' : Gh} {H' : Hp}, Anc g2 H g' H' → H' A = some (.lst vs) := fun a => a.keep A _ hv T.mu
          have hlen : r.items.length ≤ sizeLine := jr.1
          cases q1 : u r.items[i] (blkS env mem) with
          | exc x s3 => exact absurd q1 (nx _ _ _ _)
          | bad => rw [q1] at p2; exact p2.elim
          | ok a s3 =>
            rw [q1] at p2
            intro g4 σ4 H4 m4 w4 es
            refine ⟨by rw [es, wipe_wipe], g2, H, g4, s3, w4, ?_⟩
            simp only [bind_ok] at p2
            cases q2 : tt s3 with
            | exc x s5 => rw [q2] at p2; exact p2.elim
            | bad => rw [q2] at p2; exact p2.elim
            | ok c s5 =>
              rw [q2] at p2
              simp only [nox_ok, bind_ok] at p2
              intro g5 H5 c' m5 w5 ec
              cases ec
              cases c with
              | false =>
                rw [if_neg Bool.false_ne_true] at p2 ⊢
                have T5 := back (acc' := acc) w5.core w5.anc (Nat.le_succ_of_le T.le) (rv.mono w5.anc.mono) (by rw [← rv.length]; have := T.le; omega)
                rw [upd_self (keepA w5.anc)] at T5
                exact ⟨hlt, g5, s5.mem, acc, T5, PostF.mono w5.anc.mono p2⟩
              | true =>
                rw [if_pos rfl] at p2 ⊢
                cases q3 : te s5 with
                | exc x s6 => rw [q3] at p2; exact p2.elim
                | bad => rw [q3] at p2; exact p2.elim
                | ok y s6 =>
                  rw [q3] at p2
                  simp only [nox_ok, bind_ok] at p2
                  refine ⟨g2, H, g5, s5, w5, ?_⟩
                  rw [q3]
                  intro g6 H6 v m6 w6 r6
                  have hl := T.le
                  have hvl : vs.length < sizeLine := by rw [← rv.length]; omega
                  refine ⟨vs, keepA w6.anc, hvl, hlt, g6, s6.mem, acc ++ [y], back w6.core w6.anc (by simp; omega) ((rv.mono w6.anc.mono).append (.one r6)) (by simp; omega), PostF.mono w6.anc.mono p2⟩
        · exact p2.elim
      · left
        have e : i = r.items.length := by omega
        subst e
        rw [List.drop_length] at p2
        unfold compGo at p2
        split at p2
        · next ok =>
          refine ⟨(jr.2 g2 H g2 (wipe σ is) H (blkS env mem) T.mono wb ok _).2 (Nat.le_refl _), ?_⟩
          exact p2 g2 H A (.refl g2) (w1.outOf T.core T.anc) ⟨T.F, T.mu, fA.B, fA.own⟩ ⟨_, hv, vs, rfl, rv⟩ (fun z => nomatch z)
        · exact p2.elim
end
end DL

/-! comprehensions as values and stored; defs, calls, raise, try -/
namespace DL
open L2 PyProof.Rows PySem.Spec PySem

section
variable {X : Cx} {W : WX} {elt tg iter : Expr} {ifs : List Expr} {scope : Scope} {own : List (Str × Nat)} {pos spos : Pos} {t : S → R Src} {u : D → S → R Unit} {tt : S → R Bool} {te : S → R D}
theorem fe_comp (hc : X.calm = true) (hN : X.N.Nodup) (hi : DI X W tg iter t) (ok : BlkOk X.N X.env.scope scope own) (nx : NoX u)
    (hg : ∀ (s : Shared) (H : Hp) (C : Addr) (cl : List (Str × Addr)) (fp : List Addr), DG (X.blk s H scope (compEnvC scope cl C X.env) fp) (own.map (·.2)) tg u)
    (ht : ∀ (s : Shared) (H : Hp) (C : Addr) (cl : List (Str × Addr)) (fp : List Addr), DTs (X.blk s H scope (compEnvC scope cl C X.env) fp) WN ifs tt)
    (he : ∀ (s : Shared) (H : Hp) (C : Addr) (cl : List (Str × Addr)) (fp : List Addr), DE (X.blk s H scope (compEnvC scope cl C X.env) fp) WN elt te) (hs : ∀ x, foldedSetIterable iter X.env x = pure x := by intro _; rfl) :
    FE X W (.ListComp elt [⟨tg, iter, ifs, 0⟩] scope pos) (fComp t (own.map (·.2)) u tt te) := fun b B => PE.weak (pe_lc hc hN (hi b B) ok
      (g := fun v σ H Q => ∃ b B, LG X.K X.mg b B (own.map (·.2)) u v σ H Q) (tt := fun σ H Q => ∃ b B, L X.K X.mg b B WN rrB tt σ H Q) (te := fun σ H Q => ∃ b B, L X.K X.mg b B WN (rrD X.K) te σ H Q)
      (fun s H C cl fp => ⟨fun pins s' σ H v u Q I r ⟨b, B, q⟩ => (hg s _ C cl fp b B).run pins s' σ H v u Q I r q⟩)
      (fun s H C cl fp => ⟨fun pins s' σ H Q I ⟨b, B, q⟩ => (ht s _ C cl fp b B).run pins s' σ H Q I q⟩)
      (fun s H C cl fp => ⟨fun pins s' σ H Q I ⟨b, B, q⟩ => (he s _ C cl fp b B).run pins s' σ H Q I q⟩) hs) fun σ H Q q => comp_core nx b B q
theorem comp_set {b : Gh} {B : Hp} {i : Nat} {y : Str} {py : Pos} {tm : S → RS} (hc : X.calm = true) (hN : X.N.Nodup) (hy : X.N[i]? = some y) (hyl : X.env.scope.names.lookup y = some .local)
    (hsw : swapsWith (.ListComp elt [⟨tg, iter, ifs, 0⟩] scope pos) (some (.Name y py)) spos.line X.env = pure true) (hi : DI X W tg iter t) (ok : BlkOk X.N X.env.scope scope own) (nx : NoX u)
    (hg : ∀ (s : Shared) (H : Hp) (C : Addr) (cl : List (Str × Addr)) (fp : List Addr), DG (X.blk s H scope (compEnvC scope cl C X.env) fp) (own.map (·.2)) tg u)
    (ht : ∀ (s : Shared) (H : Hp) (C : Addr) (cl : List (Str × Addr)) (fp : List Addr), DTs (X.blk s H scope (compEnvC scope cl C X.env) fp) WN ifs tt)
    (he : ∀ (s : Shared) (H : Hp) (C : Addr) (cl : List (Str × Addr)) (fp : List Addr), DE (X.blk s H scope (compEnvC scope cl C X.env) fp) WN elt te) (hs : ∀ x, foldedSetIterable iter X.env x = pure x)
    (hq : ∀ (E : Ends) σ H, LS X.K X.mg b B W tm E σ H → LF X.K X.mg b B W (fComp t (own.map (·.2)) u tt te) σ H fun v H' => E.nx (σ.set i (some v)) H') :
    PS X (.Assign [.Name y py] (.ListComp elt [⟨tg, iter, ifs, 0⟩] scope pos) spos) (LS X.K X.mg b B W tm) := PS.weak (ps_setLc hc hN hy hyl hsw (hi b B) ok
      (g := fun v σ H Q => ∃ b B, LG X.K X.mg b B (own.map (·.2)) u v σ H Q) (tt := fun σ H Q => ∃ b B, L X.K X.mg b B WN rrB tt σ H Q) (te := fun σ H Q => ∃ b B, L X.K X.mg b B WN (rrD X.K) te σ H Q)
      (fun s H C cl fp => ⟨fun pins s' σ H v u Q I r ⟨b, B, q⟩ => (hg s _ C cl fp b B).run pins s' σ H v u Q I r q⟩)
      (fun s H C cl fp => ⟨fun pins s' σ H Q I ⟨b, B, q⟩ => (ht s _ C cl fp b B).run pins s' σ H Q I q⟩)
      (fun s H C cl fp => ⟨fun pins s' σ H Q I ⟨b, B, q⟩ => (he s _ C cl fp b B).run pins s' σ H Q I q⟩) hs) fun E σ H q => comp_core nx b B (hq E σ H q)
theorem s_ownC {i : Nat} {y : Str} {py : Pos} (hc : X.calm = true) (hN : X.N.Nodup) (hy : X.N[i]? = some y) (hyl : X.env.scope.names.lookup y = some .local)
    (hsw : swapsWith (.ListComp elt [⟨tg, iter, ifs, 0⟩] scope pos) (some (.Name y py)) spos.line X.env = pure true) (hi : DI X W tg iter t) (ok : BlkOk X.N X.env.scope scope own) (nx : NoX u)
    (hg : ∀ (s : Shared) (H : Hp) (C : Addr) (cl : List (Str × Addr)) (fp : List Addr), DG (X.blk s H scope (compEnvC scope cl C X.env) fp) (own.map (·.2)) tg u)
    (ht : ∀ (s : Shared) (H : Hp) (C : Addr) (cl : List (Str × Addr)) (fp : List Addr), DTs (X.blk s H scope (compEnvC scope cl C X.env) fp) WN ifs tt)
    (he : ∀ (s : Shared) (H : Hp) (C : Addr) (cl : List (Str × Addr)) (fp : List Addr), DE (X.blk s H scope (compEnvC scope cl C X.env) fp) WN elt te) (hs : ∀ x, foldedSetIterable iter X.env x = pure x := by intro _; rfl) :
    DS X W (.Assign [.Name y py] (.ListComp elt [⟨tg, iter, ifs, 0⟩] scope pos) spos) (sOwn i (fComp t (own.map (·.2)) u tt te)) := fun b B => comp_set hc hN hy hyl hsw hi ok nx hg ht he hs fun E σ H ⟨g, s, w, p⟩ => ⟨g, s, w, own_post p⟩
theorem fz_post_st {K : PySem.W.Frag} {mg : Mg} {b : Gh} {B : Hp} {W : WX} {σ : Sg} {g : Gh} {s : S} {i : Nat} {t : S → R MO} {E : Ends} (p : PostS K mg b B W g (sSet i (fz t) s) E) :
    PostF K mg b B W σ g (t s) fun v H' => E.nx (σ.set i (some v)) H' := fz_post ((PostS.bind (RR := rrD K) p).imp fun v H1 ⟨g1, s1, d, m1, w1, r1, p1⟩ => PostS.nx p1 (.refl g1) (w1.setVal r1))
theorem lay_post_st {K : PySem.W.Frag} {mg : Mg} {b : Gh} {B : Hp} {W : WX} {σ : Sg} {g : Gh} {s : S} {i : Nat} {t : S → R MO} {E : Ends} (p : PostS K mg b B W g (sSet i (lay t) s) E) :
    PostF K mg b B W σ g (t s) fun v H' => E.nx (σ.set i (some v)) H' := lay_post ((PostS.bind (RR := rrD K) p).imp fun v H1 ⟨g1, s1, d, m1, w1, r1, p1⟩ => PostS.nx p1 (.refl g1) (w1.setVal r1))
theorem s_setC {i : Nat} {y : Str} {py : Pos} (hc : X.calm = true) (hN : X.N.Nodup) (hy : X.N[i]? = some y) (hyl : X.env.scope.names.lookup y = some .local)
    (hsw : swapsWith (.ListComp elt [⟨tg, iter, ifs, 0⟩] scope pos) (some (.Name y py)) spos.line X.env = pure true) (hi : DI X W tg iter t) (ok : BlkOk X.N X.env.scope scope own) (nx : NoX u)
    (hg : ∀ (s : Shared) (H : Hp) (C : Addr) (cl : List (Str × Addr)) (fp : List Addr), DG (X.blk s H scope (compEnvC scope cl C X.env) fp) (own.map (·.2)) tg u)
    (ht : ∀ (s : Shared) (H : Hp) (C : Addr) (cl : List (Str × Addr)) (fp : List Addr), DTs (X.blk s H scope (compEnvC scope cl C X.env) fp) WN ifs tt)
    (he : ∀ (s : Shared) (H : Hp) (C : Addr) (cl : List (Str × Addr)) (fp : List Addr), DE (X.blk s H scope (compEnvC scope cl C X.env) fp) WN elt te) (hs : ∀ x, foldedSetIterable iter X.env x = pure x := by intro _; rfl) :
    DS X W (.Assign [.Name y py] (.ListComp elt [⟨tg, iter, ifs, 0⟩] scope pos) spos) (sSet i (fz (fComp t (own.map (·.2)) u tt te))) := fun b B => comp_set hc hN hy hyl hsw hi ok nx hg ht he hs fun E σ H ⟨g, s, w, p⟩ => ⟨g, s, w, fz_post_st p⟩
theorem s_layC {i : Nat} {y : Str} {py : Pos} (hc : X.calm = true) (hN : X.N.Nodup) (hy : X.N[i]? = some y) (hyl : X.env.scope.names.lookup y = some .local)
    (hsw : swapsWith (.ListComp elt [⟨tg, iter, ifs, 0⟩] scope pos) (some (.Name y py)) spos.line X.env = pure true) (hi : DI X W tg iter t) (ok : BlkOk X.N X.env.scope scope own) (nx : NoX u)
    (hg : ∀ (s : Shared) (H : Hp) (C : Addr) (cl : List (Str × Addr)) (fp : List Addr), DG (X.blk s H scope (compEnvC scope cl C X.env) fp) (own.map (·.2)) tg u)
    (ht : ∀ (s : Shared) (H : Hp) (C : Addr) (cl : List (Str × Addr)) (fp : List Addr), DTs (X.blk s H scope (compEnvC scope cl C X.env) fp) WN ifs tt)
    (he : ∀ (s : Shared) (H : Hp) (C : Addr) (cl : List (Str × Addr)) (fp : List Addr), DE (X.blk s H scope (compEnvC scope cl C X.env) fp) WN elt te) (hs : ∀ x, foldedSetIterable iter X.env x = pure x := by intro _; rfl) :
    DS X W (.Assign [.Name y py] (.ListComp elt [⟨tg, iter, ifs, 0⟩] scope pos) spos) (sSet i (lay (fComp t (own.map (·.2)) u tt te))) := fun b B => comp_set hc hN hy hyl hsw hi ok nx hg ht he hs fun E σ H ⟨g, s, w, p⟩ => ⟨g, s, w, lay_post_st p⟩
end

/-! ### what a def does with data -/
inductive O where
  | ok (d : D) (m : List MO) | exc (x : Ex) (m : List MO) | bad
abbrev Fn := List D → List MO → O
def O.toR (o : O) (s : S) : R D := match o with
  | .ok d m => .ok d { s with mem := m }
  | .exc x m => .exc x { s with mem := m }
  | .bad => .bad
/-- a body, from its parameters -/
def runF (n : Nat) (body : S → RS) : Fn := fun ds m => match body ⟨ds.map Slot.val ++ List.replicate (n - ds.length) .no, m, m.length⟩ with
  | .nx s => .ok .non s.mem
  | .rt d s => .ok d s.mem
  | .exc x s => .exc x s.mem
  | _ => .bad
/-- the promise -/
def SpF (K : PySem.W.Frag) (mg : Mg) (ar : Nat) (F : Fn) : Sp := fun vs H Q E => vs.length = ar ∧ ∃ g m ds, Core K mg g H m ∧ Reps K g ds vs ∧ match F ds m with
  | .ok d m' => ∀ g' H' v, Anc g H g' H' → Core K mg g' H' m' → Rep K g' d v → Q v H'
  | .exc x m' => ∀ g' H' cls dd, Anc g H g' H' → Core K mg g' H' m' → ERep K mg g' H' x cls dd → E cls dd H'
  | .bad => False
section
variable {K : PySem.W.Frag} {mg : Mg} {b g g' : Gh} {B H H' : Hp} {σ : Sg} {s : S}
/-- a callee has run: the frame's own things stand -/
theorem Wf.called (w : Wf K mg b B g σ H s) {m : List MO} (a : Anc g H g' H') (c : Core K mg g' H' m) : Wf K mg b B g' σ H' { s with mem := m } := w.outOf c a
theorem start_get {N : List Str} {vs : List V} {i : Nat} {v : V} (h : vs[i]? = some v) : (L2.start N vs)[i]? = some (some v) := by
  unfold L2.start
  rw [List.getElem?_append_left (by simpa using (List.getElem?_eq_some_iff.mp h).1), List.getElem?_map, h]
  rfl
theorem Wf.start {N : List Str} {ds : List D} {vs : List V} {m : List MO} (c : Core K mg g H m) (r : Reps K g ds vs) (hl : vs.length ≤ N.length) :
    Wf K mg g H g (L2.start N vs) H ⟨ds.map Slot.val ++ List.replicate (N.length - ds.length) .no, m, m.length⟩ := by
  have hd : ds.length = vs.length := r.length
  refine ⟨c, core_anc (s := ⟨[], m, 0⟩) c, c.len, ?_, fun i d e => ?_, fun i mo e => ?_, fun i j mi mj a e => ?_⟩
  · unfold L2.start
    simp
    omega
  · have e : (ds.map Slot.val ++ List.replicate (N.length - ds.length) .no)[i]? = some (.val d) := e
    by_cases hi : i < ds.length
    · rw [List.getElem?_append_left (by simpa using hi), List.getElem?_map, List.getElem?_eq_getElem hi] at e
      cases e
      obtain ⟨v, h1, h2⟩ := r.get (List.getElem?_eq_getElem hi)
      exact ⟨v, start_get h1, h2⟩
    · rw [List.getElem?_append_right (by simp; omega), List.getElem?_replicate] at e
      split at e <;> cases e
  · have e : (ds.map Slot.val ++ List.replicate (N.length - ds.length) .no)[i]? = some (.own mo) := e
    exfalso
    by_cases hi : i < ds.length
    · rw [List.getElem?_append_left (by simpa using hi), List.getElem?_map, List.getElem?_eq_getElem hi] at e
      cases e
    · rw [List.getElem?_append_right (by simp; omega), List.getElem?_replicate] at e
      split at e <;> cases e
  · have e : (ds.map Slot.val ++ List.replicate (N.length - ds.length) .no)[i]? = some (.own mi) := e
    exfalso
    by_cases hi : i < ds.length
    · rw [List.getElem?_append_left (by simpa using hi), List.getElem?_map, List.getElem?_eq_getElem hi] at e
      cases e
    · rw [List.getElem?_append_right (by simp; omega), List.getElem?_replicate] at e
      split at e <;> cases e
end
abbrev FnD (P : Program) (w : World) (K : PySem.W.Frag) (mg : Mg) (base : Heap) (k : Nat) (f : Addr) (fd : FuncData) (ps : List Str) (F : Fn) : Prop := FnOk P w K mg base (L2.CX P w) k f fd ps (SpF K mg ps.length F)
section
variable {P : Program} {w : World} {K : PySem.W.Frag} {mg : Mg} {base : Heap}
/-- a def keeps it, by its body -/
theorem fnd_ok {x qual : Str} {st : Stmt} {f : Addr} {fd : FuncData} {N ps : List Str} {k : Nat} {body : S → RS} (F : Fun K x qual st f fd) (Sc : FnScope N ps (defScope st))
    (hbody : ∀ (cdv : Value) (A : Around) (outer : List Env) (s : Shared) (H : Hp) (E : XK), Room k (A.deeper (envOfC qual (defScope st) s.heap.objs.size f cdv)) →
      DSs (cxOf (L2.CX P w) P w K mg base N qual (defScope st) f cdv A outer s H E) (fun cls d _ H => E cls d H) (defBody st) body) : FnD P w K mg base (k + 1) f fd ps (runF N.length body) := by
  have hpl : ps.length ≤ N.length := by have := congrArg List.length Sc.pre; rw [List.length_take] at this; omega
  refine F.okX Sc (fun vs H Q E h => h.1) fun cdv A outer s H vs Q E hr hsp => ?_
  obtain ⟨hl, g, m, ds, c, r, h⟩ := hsp
  refine ⟨_, hbody cdv A outer s H E hr g H, g, _, Wf.start c r (by omega), ?_⟩
  unfold runF at h
  revert h
  cases body ⟨ds.map Slot.val ++ List.replicate (N.length - ds.length) .no, m, m.length⟩ with
  | nx s' => exact fun h g' σ' H' mm w => h g' H' .non w.anc w.core .non
  | rt d s' => exact fun h g' σ' H' v mm w r => h g' H' v w.anc w.core r
  | exc x s' => exact fun h g' σ' H' cls dd mm w r => h g' H' cls dd w.anc w.core r
  | bk s' => exact fun h => h.elim
  | ct s' => exact fun h => h.elim
  | bad => exact fun h => h.elim
end
/-- a call of a def -/
def dCall (F : Fn) (u : S → R (List D)) : S → R D := fun s => (u s).bind fun ds s1 => (F ds s1.mem).toR s1
section
variable {X : Cx} {W : WX} {k : Nat} {f : Addr} {fd : FuncData} {ps : List Str} {F : Fn} {x : Str} {p pos : Pos} {e : Expr} {es : List Expr} {u : S → R (List D)}
theorem spf_of {b : Gh} {B : Hp} {σ : Sg} {g : Gh} {H : Hp} {s : S} {ds : List D} {vs : List V} {Q : VK} (w : Wf X.K X.mg b B g σ H s) (r : Reps X.K g ds vs) (hl : ds.length = ps.length) (p : Post X.K X.mg b B W (rrD X.K) σ g ((F ds s.mem).toR s) Q) :
    SpF X.K X.mg ps.length F vs H Q (WE W σ) := by
  refine ⟨by rw [← r.length, hl], g, s.mem, ds, w.core, r, ?_⟩
  revert p
  cases F ds s.mem with
  | ok d m' => exact fun p g' H' v a c r' => p g' H' v a.mono (w.called a c) r'
  | exc x m' => exact fun p g' H' cls dd a c r' => p g' H' cls dd a.mono (w.called a c) r'
  | bad => exact id
theorem de_call (G : FnD X.prog X.w X.K X.mg X.base k f fd ps F) (hr : Room k X.A) (tk : Takes X W) (hg : Gl X x) (hm : X.mg x = some (.ref f)) (hk : PySem.W.keepIn X.K (.ref f) = true) (hb : Binds X.K fd ps [])
    (ha : DA X W (e :: es) u) (hl : (e :: es).length = ps.length) (hdb : (x == ("__debug__" : Str)) = false := by decide) (he : starEach (e :: es) X.env = (false, eval e X.env) :: starEach es X.env := by rfl) (hpl : (backTo pos (starEach es X.env)).any (·.1) = false := by rfl) :
    DE X W (.Call (.Name x p) (e :: es) [] pos) (dCall F u) := fun b B => PE.weak (pe_callS G hr hg hm hk hb (passAt tk) (ha.run b B) hdb he hpl) fun σ H Q ⟨g, s, w, h⟩ =>
  ⟨g, s, w, post_len (P := fun ds => ds.length = (e :: es).length) (fun a s' q => ha.len _ _ _ q) ((Post.bind (RR := fun σ g a v => rrA X.K σ g a v ∧ a.length = (e :: es).length) h).imp fun vs H1 ⟨g1, s1, ds, m1, w1, ⟨r1, q1⟩, p1⟩ => spf_of w1 r1 (q1.trans hl) p1)⟩
end

/-! ### raise -/
def sRaise (c : Str) : S → RS := fun s => .exc { c := c } s
theorem s_raise {X : Cx} {W : WX} {x m : Str} {j : Nat} {p p2 p3 pos : Pos} {C : Addr} {bmB : List Value} {B newId initId : String} (hc : X.calm = true) (tk : Takes X W) (F : ExcBaseFacts B newId initId bmB) (q : PySem.W.excIn X.K C bmB newId = true) (gC : X.mg x = some (.ref C)) (kC : PySem.W.keepIn X.K (.ref C) = true)
    (r : Raises X (.ref C)) (hg : Gl X x) (hdb : (x == ("__debug__" : Str)) = false := by decide) : DS X W (.Raise (some (.Call (.Name x p) [.Constant (.str m) j p2] [] p3)) none pos) (sRaise x) := fun b B =>
  PS.weak (ps_raise hc tk (pmk_own F q gC kC r hg hdb)) fun E σ H ⟨g, s, w, h⟩ => h g σ H (.ref C) none (.refl g) w ⟨C, gC, rfl, rfl⟩
end DL

/-! == of data, isinstance, is of bools, append, o[i] = v -/
namespace DL
open L2 PyProof.Rows PySem.Spec PySem

/-! ### == -/
def pd (m : List MO) : Nat → D → Option PyData
  | 0, _ => none
  | _ + 1, .non => some .none
  | _ + 1, .bl b => some (.bool b)
  | _ + 1, .int i => some (.int i)
  | _ + 1, .str x => some (.str x)
  | n + 1, .tup xs => (xs.mapM (pd m n)).map .tuple
  | n + 1, .lst xs => (xs.mapM (pd m n)).map .list
  | n + 1, .loc xs => (xs.mapM (pd m n)).map .list
  | n + 1, .ref k => match m[k]? with
    | some (.lst xs) => (xs.mapM (pd m n)).map .list
    | _ => none
  | _ + 1, .dic _ => none
theorem mapM_nil {α β : Type} (f : α → Option β) : ([] : List α).mapM f = some [] := by simp
theorem mapM_cons {α β : Type} (f : α → Option β) (a : α) (r : List α) : (a :: r).mapM f = (f a).bind fun x => (r.mapM f).map (x :: ·) := by
  rw [List.mapM_cons]
  cases f a with
  | none => rfl
  | some x => cases r.mapM f <;> rfl
section
variable {K : PySem.W.Frag} {mg : Mg} {b : Gh} {B : Hp} {g : Gh} {σ : Sg} {H : Hp} {s : S}
theorem dps {n : Nat} (ih : ∀ d v p, Rep K g d v → pd s.mem n d = some p → Dp K H v p) : ∀ (ds : List D) (vs : List V) (ps : List PyData), Reps K g ds vs → ds.mapM (pd s.mem n) = some ps → DpAll K H vs ps
  | [], vs, ps, r, e => by
    rw [mapM_nil] at e
    cases e
    cases r
    exact .nil
  | d :: ds, vs, ps, r, e => by
    rw [mapM_cons] at e
    cases r with
    | cons r1 r2 =>
      cases q : pd s.mem n d with
      | none => rw [q] at e; cases e
      | some p =>
        rw [q] at e
        cases q2 : ds.mapM (pd s.mem n) with
        | none => rw [q2] at e; cases e
        | some ps2 =>
          rw [q2] at e
          cases e
          exact .cons (ih _ _ _ r1 q) (dps ih ds _ _ r2 q2)
theorem map_inv {α β : Type} {f : α → β} {o : Option α} {y : β} (h : o.map f = some y) : ∃ x, o = some x ∧ f x = y := by
  cases o with
  | none => cases h
  | some x => cases h; exact ⟨x, rfl, rfl⟩
theorem pd_rep (w : Wf K mg b B g σ H s) : ∀ (n : Nat) (d : D) (v : V) (p : PyData), Rep K g d v → pd s.mem n d = some p → Dp K H v p
  | 0, _, _, _, _, e => by cases e
  | n + 1, d, v, p, r, e => by
    cases r with
    | non => cases e; exact .non
    | bl c => cases e; exact .bl c
    | int i => cases e; exact .int i
    | str x => cases e; exact .str x
    | tup h1 h2 =>
      obtain ⟨ps, q, rfl⟩ := map_inv (show (List.mapM (pd s.mem n) _).map PyData.tuple = some p from e)
      exact .tup (.of (w.core.sub _ _ h1)) (dps (pd_rep w n) _ _ _ h2 q)
    | lst h1 h2 =>
      obtain ⟨ps, q, rfl⟩ := map_inv (show (List.mapM (pd s.mem n) _).map PyData.list = some p from e)
      exact .lst (.of (w.core.sub _ _ h1)) (dps (pd_rep w n) _ _ _ h2 q)
    | loc h1 h2 =>
      obtain ⟨ps, q, rfl⟩ := map_inv (show (List.mapM (pd s.mem n) _).map PyData.list = some p from e)
      exact .lst (w.core.sub.seq h1) (dps (pd_rep w n) _ _ _ h2 q)
    | dic h1 h2 => cases e
    | @ref k a h1 =>
      unfold pd at e
      split at e
      · next xs q =>
        obtain ⟨⟨o, q1, us, rfl, q3⟩, _⟩ := w.core.obj _ _ _ q h1
        obtain ⟨ps, q4, rfl⟩ := map_inv e
        exact .lst (.of q1) (dps (pd_rep w n) _ _ _ q3 q4)
      · cases e
end
def hdat (h : Hd) (s : S) : Option PyData := match h with
  | .d d => pd s.mem 12 d
  | .own i => match s.env[i]? with
    | some (.own (.lst xs)) => (xs.mapM (pd s.mem 11)).map .list
    | _ => none
theorem hdat_rep {K : PySem.W.Frag} {mg : Mg} {b : Gh} {B : Hp} {g : Gh} {σ : Sg} {H : Hp} {s : S} (w : Wf K mg b B g σ H s) {h : Hd} {v : V} {p : PyData} (r : RepH K σ g h v) (e : hdat h s = some p) : Dp K H v p := by
  cases h with
  | d d => exact pd_rep w 12 d v p r e
  | own i =>
    unfold hdat at e
    simp only at e
    split at e
    · next xs q =>
      obtain ⟨_, a, h1, _, _, _, o, h2, us, rfl, h3⟩ := w.own i _ q
      have r : σ[i]? = some (some v) := r
      rw [h1] at r
      cases r
      obtain ⟨ps, q4, rfl⟩ := map_inv e
      exact .lst (.of h2) (dps (pd_rep w 11) _ _ _ h3 q4)
    · cases e
def eqO (x y : Hd) (s : S) : Option Bool := match hdat x s, hdat y s with
  | some p, some q => if SeqAt.shaped p && SeqAt.shaped q then some (PyData.eqv p q) else none
  | _, _ => none
def eqH (neg : Bool) : Hd → Hd → S → R D := fun x y s => .of ((eqO x y s).map fun c => .bl (c != neg)) s
theorem eqO_inv {x y : Hd} {s : S} {c : Bool} (h : eqO x y s = some c) : ∃ p q, hdat x s = some p ∧ hdat y s = some q ∧ SeqAt.shaped p = true ∧ SeqAt.shaped q = true ∧ c = PyData.eqv p q := by
  unfold eqO at h
  split at h
  · next p q e1 e2 =>
    split at h
    · next hs =>
      cases h
      obtain ⟨h1, h2⟩ := Bool.and_eq_true_iff.mp hs
      exact ⟨p, q, e1, e2, h1, h2, rfl⟩
    · cases h
  · cases h
theorem h_eq {X : Cx} {W : WX} : Op2 X W (eqH false) (rEqD X.K) := by
  intro b B gh σ H s x y hx hy Q w rx ry p
  unfold eqH at p
  cases e : eqO x y s with
  | none => rw [e] at p; exact p.elim
  | some c =>
    rw [e] at p
    obtain ⟨pp, qq, e1, e2, s1, s2, rfl⟩ := eqO_inv e
    refine ⟨pp, qq, hdat_rep w rx e1, hdat_rep w ry e2, s1, s2, Post.here (RR := rrD X.K) p w ?_⟩
    show Rep X.K gh (.bl (PyData.eqv pp qq != false)) _
    rw [show (PyData.eqv pp qq != false) = PyData.eqv pp qq by cases PyData.eqv pp qq <;> rfl]
    exact .bl _
theorem h_ne {X : Cx} {W : WX} : Op2 X W (eqH true) (rNeD X.K) := by
  intro b B gh σ H s x y hx hy Q w rx ry p
  unfold eqH at p
  cases e : eqO x y s with
  | none => rw [e] at p; exact p.elim
  | some c =>
    rw [e] at p
    obtain ⟨pp, qq, e1, e2, s1, s2, rfl⟩ := eqO_inv e
    refine ⟨pp, qq, hdat_rep w rx e1, hdat_rep w ry e2, s1, s2, Post.here (RR := rrD X.K) p w ?_⟩
    show Rep X.K gh (.bl (PyData.eqv pp qq != true)) _
    rw [show (PyData.eqv pp qq != true) = !PyData.eqv pp qq by cases PyData.eqv pp qq <;> rfl]
    exact .bl _
/-- is, is not of bools -/
def isbH (neg : Bool) : Hd → Hd → S → R D := fun x y s => match x, y with
  | .d (.bl a), .d (.bl c) => .ok (.bl (decide (a = c) != neg)) s
  | _, _ => .bad
theorem h_isb {X : Cx} {W : WX} : Op2 X W (isbH false) rIsB := by
  intro b B gh σ H s x y hx hy Q w rx ry p
  unfold isbH at p
  split at p
  · cases rx.bl
    cases ry.bl
    refine ⟨_, _, rfl, rfl, Post.here (RR := rrD X.K) p w ?_⟩
    next a c => rw [show (decide (a = c) != false) = decide (a = c) by cases decide (a = c) <;> rfl]; exact .bl _
  · exact p.elim
theorem h_notb {X : Cx} {W : WX} : Op2 X W (isbH true) rNotB := by
  intro b B gh σ H s x y hx hy Q w rx ry p
  unfold isbH at p
  split at p
  · cases rx.bl
    cases ry.bl
    refine ⟨_, _, rfl, rfl, Post.here (RR := rrD X.K) p w ?_⟩
    next a c => rw [show (decide (a = c) != true) = !decide (a = c) by cases decide (a = c) <;> rfl]; exact .bl _
  · exact p.elim

/-! ### isinstance -/
inductive Ty where
  | non | bl | int | str | tup | lst | dic
  deriving DecidableEq
def Ty.nm : Ty → String
  | .non => "NoneType" | .bl => "bool" | .int => "int" | .str => "str" | .tup => "tuple" | .lst => "list" | .dic => "dict"
def Ty.isT (a c : Ty) : Bool := a == c || (a == .bl && c == .int)
theorem kit_isT (a c : Ty) (h : c ≠ .non) : kitB a.nm c.nm = some (a.isT c) := by
  cases c with
  | non => exact absurd rfl h
  | _ => cases a <;> decide +kernel
def MO.ty : MO → Option Ty
  | .lst _ => some .lst
  | .dic _ => some .dic
  | .dT _ => some .dic
  | _ => none
def tyH (h : Hd) (s : S) : Option Ty := match h with
  | .d .non => some .non
  | .d (.bl _) => some .bl
  | .d (.int _) => some .int
  | .d (.str _) => some .str
  | .d (.tup _) => some .tup
  | .d (.loc _) => some .lst
  | h => (holds h s).bind MO.ty
theorem tyO {K : PySem.W.Frag} {mg : Mg} {g : Gh} {H : Hp} {a : Addr} {m : MO} {t : Ty} (r : RepM K mg g H m a) (e : m.ty = some t) : TyX K H (.ref a) (.type t.nm) := by
  obtain ⟨o, h, r⟩ := r
  cases m with
  | lst xs => cases e; obtain ⟨vs, rfl, _⟩ := r; exact .base (.lst h)
  | dic xs => cases e; obtain ⟨vs, rfl, _⟩ := r; exact .base (.dK h)
  | dT xs => cases e; obtain ⟨vs, rfl, _⟩ := r; exact .base (.dT h)
  | ins _ _ => cases e
  | gone => cases e
theorem tyH_rep {K : PySem.W.Frag} {mg : Mg} {b : Gh} {B : Hp} {g : Gh} {σ : Sg} {H : Hp} {s : S} (w : Wf K mg b B g σ H s) {h : Hd} {v : V} {t : Ty} (r : RepH K σ g h v) (e : tyH h s = some t) : TyX K H v (.type t.nm) := by
  have gen : (holds h s).bind MO.ty = some t → TyX K H v (.type t.nm) := fun e => by
    cases q : holds h s with
    | none => rw [q] at e; cases e
    | some m =>
      rw [q] at e
      obtain ⟨a, rfl, rm⟩ := holds_rep w r q
      exact tyO rm e
  unfold tyH at e
  split at e
  · cases r; cases e; exact .base .non
  · cases r; cases e; exact .base (.bl _)
  · cases r; cases e; exact .base (.int _)
  · cases r; cases e; exact .base (.str _)
  · cases e
    cases r with
    | tup h1 h2 => exact .base (.tup (w.core.sub _ _ h1))
  · cases e
    cases r with
    | loc h1 h2 =>
      rcases w.core.sub.seq h1 with h | ⟨o, its, n, h3, h4, _⟩
      · rcases h with h | ⟨o, h⟩
        · exact .base (.lst h)
        · exact .base (.frz h)
      · exact .kList h3 h4
  · exact gen e
def isiD (cs : List Ty) (t : S → R Hd) : S → R D := fun s => (t s).bind fun h s1 => match tyH h s1 with
  | some a => .ok (.bl (cs.any a.isT)) s1
  | none => .bad
section
variable {X : Cx} {W : WX} {e : Expr} {t : S → R Hd} {p p2 p3 pos : Pos} {c c2 : Ty}
theorem pe_cls {x : Str} {c : Ty} (hg : Gl X x) (hm : X.mg x = none) (hv : bootBuiltins x = some (.type c.nm)) (hn : x ≠ "__name__" := by decide) (hd : (x == ("__debug__" : Str)) = false := by decide) : PE X (.Name x p) (tC (.ty c.nm)) := pe_bltn hg hm hv rfl hn hd
theorem de_isi {x : Str} (hg : Gl X "isinstance") (hm : X.mg "isinstance" = none) (he : HE X W e t) (gx : Gl X x) (mx : X.mg x = none) (hv : bootBuiltins x = some (.type c.nm)) (hc : c ≠ .non) (hn : x ≠ "__name__" := by decide) (hd : (x == ("__debug__" : Str)) = false := by decide)
    (hs : starEach [e, .Name x p2] X.env = (false, eval e X.env) :: starEach [.Name x p2] X.env := by rfl) (hs2 : starEach [.Name x p2] X.env = (false, eval (.Name x p2) X.env) :: starEach [] X.env := by rfl) (hpl : (backTo pos (starEach [.Name x p2] X.env)).any (·.1) = false := by rfl) :
    DE X W (.Call (.Name "isinstance" p) [e, .Name x p2] [] pos) (isiD [c] t) := fun b B =>
  PE.weak (pe_callB call_isi hg hm PyProof.Rows.boot_isinstance (pa_cons (he b B) (pa_cons (pe_cls gx mx hv hn hd) pa_nil hs2) hs) (by decide) (by decide) hs hpl) fun σ H Q ⟨g, s, w, h⟩ =>
    ⟨g, s, w, (Post.bind (RR := rrH X.K) h).imp fun v H1 ⟨g1, s1, hh, m1, w1, r1, p1⟩ => by
      split at p1
      · next a ea =>
        refine ⟨v, .ty c.nm, .type a.nm, .type c.nm, a.isT c, rfl, .ty _, tyH_rep w1 r1 ea, kit_ty (kit_isT a c hc), Post.here (RR := rrD X.K) p1 w1 ?_⟩
        rw [show [c].any a.isT = a.isT c by simp]
        exact .bl _
      · exact p1.elim⟩
/-- isinstance(x, (c1, c2)) -/
theorem kit_any (a : Ty) {K : PySem.W.Frag} : ∀ cs : List Ty, (∀ c ∈ cs, c ≠ .non) → PySem.W.kitAny K (.type a.nm) (cs.map fun c => .type c.nm) = some (cs.any a.isT)
  | [], _ => kitAny_nil
  | c :: r, h => kitAny_cons (kit_ty (kit_isT a c (h c (by simp)))) (fun e => by rw [kit_any a r fun c hc => h c (by simp [hc])]; simp [e]) (fun e => by simp [e])
theorem paired_cls : ∀ cs : List Ty, Paired ClsV (cs.map fun c => V.ty c.nm) (cs.map fun c => Value.type c.nm)
  | [] => .nil
  | c :: r => .cons (.ty _) (paired_cls r)
theorem de_isiT {x y : Str} {k : Nat} {p4 p5 : Pos} (hg : Gl X "isinstance") (hm : X.mg "isinstance" = none) (he : HE X W e t) (gx : Gl X x) (mx : X.mg x = none) (hv : bootBuiltins x = some (.type c.nm)) (gy : Gl X y) (my : X.mg y = none) (hvy : bootBuiltins y = some (.type c2.nm))
    (hc : c ≠ .non) (hc2 : c2 ≠ .non) (hn : x ≠ "__name__" := by decide) (hd : (x == ("__debug__" : Str)) = false := by decide) (hny : y ≠ "__name__" := by decide) (hdy : (y == ("__debug__" : Str)) = false := by decide)
    (hs : starEach [e, .Tuple [.Name x p2, .Name y p4] k p5] X.env = (false, eval e X.env) :: starEach [.Tuple [.Name x p2, .Name y p4] k p5] X.env := by rfl) (hs2 : starEach [.Tuple [.Name x p2, .Name y p4] k p5] X.env = (false, eval (.Tuple [.Name x p2, .Name y p4] k p5) X.env) :: starEach [] X.env := by rfl) (hpl : (backTo pos (starEach [.Tuple [.Name x p2, .Name y p4] k p5] X.env)).any (·.1) = false := by rfl)
    (hs3 : starEach [.Name x p2, .Name y p4] X.env = (false, eval (.Name x p2) X.env) :: starEach [.Name y p4] X.env := by rfl) (hs4 : starEach [.Name y p4] X.env = (false, eval (.Name y p4) X.env) :: starEach [] X.env := by rfl) :
    DE X W (.Call (.Name "isinstance" p) [e, .Tuple [.Name x p2, .Name y p4] k p5] [] pos) (isiD [c, c2] t) := fun b B =>
  PE.weak (pe_callB call_isiT hg hm PyProof.Rows.boot_isinstance (pa_cons (he b B) (pa_cons (pe_tup (pa_cons (pe_cls gx mx hv hn hd) (pa_cons (pe_cls gy my hvy hny hdy) pa_nil hs4) hs3)) pa_nil hs2) hs) (by decide) (by decide) hs hpl) fun σ H Q ⟨g, s, w, h⟩ =>
    ⟨g, s, w, (Post.bind (RR := rrH X.K) h).imp fun v H1 ⟨g1, s1, hh, m1, w1, r1, p1⟩ => by
      split at p1
      · next a ea =>
        refine ⟨by show 2 ≤ sizeLine; decide, fun l hl => ?_⟩
        have w2 := w1.upd (w1.fresh hl) (.tup [.ty c.nm, .ty c2.nm]) (by show 2 ≤ sizeLine; decide)
        refine ⟨v, l, [.ty c.nm, .ty c2.nm], .type a.nm, [.type c.nm, .type c2.nm], [c, c2].any a.isT, rfl, upd_same, paired_cls [c, c2], tyH_rep w2 r1 ea, kit_any a [c, c2] (by simp [hc, hc2]), Post.here (RR := rrD X.K) p1 w2 (.bl _)⟩
      · exact p1.elim⟩
end

/-! ### xs.append(v) -/
def dApp (to : S → R Hd) (ta : S → R D) : S → R D := fun s => (to s).bind fun h s1 => match mine h s1 with
  | some (.lst _) => (ta s1).bind fun d s2 => (match mine h s2 with
    | some (.lst xs) => if xs.length < sizeLine then .ok .non (put h (.lst (xs ++ [d])) s2) else .bad
    | _ => .bad)
  | _ => .bad
section
variable {X : Cx} {W : WX} {o e i : Expr} {to : S → R Hd} {ta : S → R D} {ti : S → R D} {apos cpos : Pos}
theorem de_app (ho : HE X W o to) (ha : DE X W e ta)
    (hs1 : starEach [e] X.env = (false, eval e X.env) :: starEach [] X.env := by rfl)
    (hbase : attributeBase o "append" X.env (eval o X.env) = eval o X.env := by rfl)
    (hfew : ((backTo cpos (starEach [e] X.env)).all (fun x => !x.1) && (backToKw cpos (keywordEach [] X.env)).all (fun x => x.1.isSome)
      && decide (([e] : List Expr).length + ([] : List Keyword).length + (if ([] : List Keyword).isEmpty then 0 else 1) < 30)) = true := by rfl)
    (hline : (apos.endLine == cpos.line) = true := by rfl) (hplain : (backTo cpos (starEach [] X.env)).any (·.1) = false := by rfl) :
    DE X W (.Call (.Attribute o "append" apos) [e] [] cpos) (dApp to ta) := fun b B =>
  PE.weak (pe_bm PySem.F.plainAttrs_list PySem.F.slot_list_append PySem.F.type_list_append mt_append (ho b B) (pa_cons (ha b B) pa_nil hs1) hbase hfew hline hs1 hplain) fun σ H Q ⟨g, s, w, h⟩ =>
    ⟨g, s, w, (Post.bind (RR := rrH X.K) h).imp fun v H1 ⟨g1, s1, hh, m1, w1, r1, p1⟩ => by
      split at p1
      · next xs0 e0 =>
        obtain ⟨a, vs0, rfl, h0, _⟩ := holds_lst w1 r1 (mine_holds e0)
        refine ⟨.inl ⟨rfl, vs0, .of h0⟩, g1, s1, w1, (Post.bind (RR := rrD X.K) p1).imp fun u H2 ⟨g2, s2, d, m2, w2, r2, p2⟩ => ?_⟩
        split at p2
        · next xs e2 =>
          split at p2
          · next hl =>
            obtain ⟨a', vs, ea, h2, rv⟩ := holds_lst w2 (RepH.mono m2 r1) (mine_holds e2)
            cases ea
            have hz : (vs ++ [u]).length ≤ sizeLine := by simp; rw [← rv.length]; omega
            refine ⟨a, vs, u, rfl, rfl, h2, by rw [← rv.length]; exact hl, Post.here (RR := rrD X.K) p2 (wf_put w2 (RepH.mono m2 r1) e2 (fun z => nomatch z) rfl (m := .lst (xs ++ [d])) ⟨_, rfl, rv.append (.one r2)⟩ (fun z => nomatch z) hz) .non⟩
          · exact p2.elim
        · exact p2.elim
      · exact p1.elim⟩

/-! ### o[i] = v -/
/-- a change of what a handle holds: the key, the value -/
def sPut (f : MO → D → D → Option MO) (tv : S → R D) (to : S → R Hd) (ti : S → R D) : S → RS := fun s => (tv s).st fun v s1 => (to s1).st fun h s2 => (ti s2).st fun k s3 => match mine h s3 with
  | some m => (match f m k v with
    | some m' => .nx (put h m' s3)
    | none => .bad)
  | none => .bad
def setL : MO → D → D → Option MO := fun m k v => match m, k with
  | .lst xs, .int j => (ixN xs.length j).map fun n => .lst (xs.set n v)
  | _, _ => none
theorem s_putL {pos tpos : Pos} (hv : DE X W e ta) (ho : HE X W o to) (hi : DE X W i ti) (ha : ∀ v, assign (.Subscript o i tpos) X.env v = (do
      let ov ← holding [v] (eval o X.env)
      let iv ← holding [v, ov] (eval i X.env)
      standAt tpos
      holding [v, ov, iv] (setItem ov iv v)
      release [v, ov, iv] []) := by intro _; rfl) (hs : swapsWithSole [.Subscript o i tpos] e pos.line X.env = pure false := by rfl) (hw : swappedStores [.Subscript o i tpos] e X.env = pure none := by rfl)
    (h1 : (assignEach [.Subscript o i tpos] X.env).map (·.2) = [assign (.Subscript o i tpos) X.env] := by rfl) : DS X W (.Assign [.Subscript o i tpos] e pos) (sPut setL ta to ti) := fun b B =>
  PS.weak (ps_asg (hv b B) (pg_sub (ho b B) (hi b B) set_list ha) hs hw h1) fun E σ H ⟨g, s, w, p⟩ =>
    ⟨g, s, w, (PostS.bind (RR := rrD X.K) p).imp fun v H1 ⟨g1, s1, d, m1, w1, r1, p1⟩ => ⟨g1, s1, w1, (PostS.bind (RR := rrH X.K) p1).imp fun u H2 ⟨g2, s2, hh, m2, w2, r2, p2⟩ =>
      ⟨g2, s2, w2, (PostS.bind (RR := rrD X.K) p2).imp fun iv H3 ⟨g3, s3, k, m3, w3, r3, p3⟩ => by
        split at p3
        · next m em =>
          split at p3
          · next m' ef =>
            unfold setL at ef
            split at ef
            · next xs j =>
              obtain ⟨n, hn, rfl⟩ := map_inv ef
              obtain ⟨a, vs, rfl, h2, rv⟩ := holds_lst w3 (RepH.mono m3 r2) (mine_holds em)
              cases r3
              have hz : (vs.set n v).length ≤ sizeLine := by rw [List.length_set]; exact w3.core.sz _ _ h2
              refine ⟨a, vs, j, n, rfl, rfl, h2, by rw [← rv.length]; exact hn, PostS.nx p3 (.refl g3) (wf_put w3 (RepH.mono m3 r2) em (fun z => nomatch z) rfl (m := .lst (xs.set n d)) ⟨_, rfl, rv.set n (r1.mono (m2.trans m3))⟩ (fun z => nomatch z) hz)⟩
            · cases ef
          · exact p3.elim
        · exact p3.elim⟩⟩⟩
end
end DL

/-! dicts with tuple keys: the walk over items, get, put -/
namespace DL
open L2 PyProof.Rows PySem.Spec PySem

section
variable {X : Cx} {pins : List (Addr × Obj)} {σ : L2.St} {H : Hp} {s : Shared} {d : Addr} {o : Obj}
theorem frzT_all {kvs : List (List Key × V)} (I : Inv X pins σ H s) (h : H d = some (.frz o (.dT kvs))) :
    (d == sysModules) = false ∧ s.heap.get? d = some o ∧ o.ExactDict ∧ ∃ (es : Array DictEntry) (ep : Nat), o.data = .dict es ep ∧ es.size = kvs.length ∧
      ∀ (i : Nat) (k : List Key) (v : V), kvs[i]? = some (k, v) → ∃ (en : DictEntry) (q : Addr), es[i]? = some en ∧ en.key = .ref q ∧ H q = some (.tup (k.map kV)) ∧ RelV v en.val := by
  obtain ⟨hd, z, hs, xs, pr, o', es, ep, ho, hx, hdt, he, _⟩ := I.hok d _ h
  rw [hd] at ho
  cases ho
  refine ⟨hs, hd, hx, es, ep, hdt, ?_, fun i k v e => ?_⟩
  · have l1 : es.size = xs.length := size_of_entries he
    have l2 : kvs.length = xs.length := Paired.length pr
    omega
  · obtain ⟨b, hb, e1, e2, e3⟩ := paired_get pr e
    have q := entry_at he i
    rw [hb] at q
    exact ⟨_, b.2.1, q, rfl, e2, e3⟩
end
/-- the pairs of a locked dict of tuple keys -/
def ItiT (d : Addr) (o : Obj) (kvs : List (List Key × V)) : It :=
  ⟨fun i H => H d = some (.frz o (.dT kvs)) ∧ i < kvs.length, fun i H x H' => ∃ T k v q, kvs[i]? = some (k, v) ∧ x = .ref T ∧ H T = none ∧ H' = upd H T (.tup [.ref q, v]) ∧ H q = some (.tup (k.map kV)), fun i H => H d = some (.frz o (.dT kvs)) ∧ kvs.length ≤ i⟩
section
variable {P : Program} {w : World} {K : PySem.W.Frag} {d : Addr} {o : Obj} {es : Array DictEntry} {ep : Nat}
theorem turn_itemsT {kvs : List (List Key × V)} {elts : List Expr} {kk : Nat} {tpos : Pos} (it : Addr) (hod : o.data = .dict es ep) :
    Turn P w K (.Tuple elts kk tpos) (ItiT d o kvs) [it] it (fun i h => ∃ ok ov, IsItemIter h it d i kvs.length ep ok ov) where
  mem := by simp
  obj := fun i h st b hb => by
    have e : b = it := by simpa using hb
    subst e
    obtain ⟨ok, ov, e⟩ := st
    exact ⟨_, e, fun v z => nomatch z⟩
  keep := fun i h h' st k => let ⟨ok, ov, e⟩ := st; ⟨ok, ov, k it (by simp) _ e⟩
  item := by
    intro X hP hw hK hc i pins s σ H E I hf st hg
    subst hP hw hK
    obtain ⟨hd, hi⟩ := hg
    obtain ⟨hs, hgd, hx, es', ep', hdt, hsz, ent⟩ := frzT_all I hd
    obtain ⟨rfl, rfl⟩ := dict_ep hod hdt
    obtain ⟨⟨k, v⟩, hkv⟩ : ∃ p, kvs[i]? = some p := ⟨kvs[i], List.getElem?_eq_getElem hi⟩
    obtain ⟨en, q, hen, hkey, hq, rv⟩ := ent i k v hkv
    obtain ⟨hlt', hen2⟩ := Array.getElem?_eq_some_iff.mp hen
    obtain ⟨ok, ov, he⟩ := st
    rw [← hsz] at he
    have hlt : it < s.heap.objs.size := Heap.lt_size he
    refine wpAny_pyNext_items_item_raw he ⟨o, hgd, hx, hdt⟩ hlt' fun h' ho hT hz hk => ?_
    refine ⟨_, rfl, wpAny_letOwnedTupleGo_items (s := { s with heap := h' }) ho fun h'' he' sb => ?_⟩
    have hT2 : h''.get? s.heap.objs.size = some { cls := .type "tuple", data := .seq #[es'[i].key, es'[i].val] } := (sb.2 _ (Nat.ne_of_gt hlt)).trans hT
    rw [hen2, hkey] at hT2
    have new : ObjOk X.prog X.w (upd H s.heap.objs.size (.tup [.ref q, v])) h'' s.heap.objs.size (.tup [.ref q, v]) :=
      ⟨by show 2 ≤ sizeLine; decide, [.ref q, en.val], .cons rfl (.cons rv .nil), ⟨_, hT2, rfl, _, rfl⟩⟩
    have I1 : Inv X pins σ (upd H s.heap.objs.size (.tup [.ref q, v])) { s with heap := h'' } :=
      I.turnedNew (t' := s.toks) (ch := [it]) (fun b ob hb e => (sb.2 b (by simpa using hb)).trans (hk b ob (by simpa using hb) e)) hf (Nat.le_refl _) new
    refine ⟨.ref s.heap.objs.size, _, I1, rfl, ⟨_, k, v, q, hkv, rfl, I.hok.fresh (Nat.le_refl _), rfl, hq⟩, ⟨es'[i].key, es'[i].val, ?_⟩, fun b hb => ?_⟩
    · rw [← hsz]; exact he'
    · have e : b = it := by simpa using hb
      rw [e, upd_ne (Nat.ne_of_lt hlt)]
      exact (hf it (by simp)).1
  done := by
    intro X hP hw hK hc i pins s σ H E I hf st hg
    subst hP hw hK
    obtain ⟨hd, hi⟩ := hg
    obtain ⟨f0, f1, f2, f3, f4, f5⟩ := hf it (by simp)
    obtain ⟨hs, hgd, hx, es', ep', hdt, hsz, ent⟩ := frzT_all I hd
    obtain ⟨rfl, rfl⟩ := dict_ep hod hdt
    obtain ⟨ok, ov, he⟩ := st
    rw [← hsz] at he
    exact wpAny_pyNext_items_end_raw (I.ok.hd hc) he ⟨o, hgd, hx, hdt⟩ (by omega) fun h' eb => ⟨rfl, I.turned (t' := s.toks) (fun b ob hb e => eb b ob hb e) f0 f1 f3 f4 f5⟩
  self := fun A i s Q E st h => let ⟨_, _, e⟩ := st; PySem.W.kcp_self e h
end
def iItemsT (td : TE) : TI := fun σ H R => td σ H fun x H1 => ∃ d o kvs, x = .ref d ∧ H1 d = some (.frz o (.dT kvs)) ∧ R (ItiT d o kvs) H1
theorem pi_itemsT {X : Cx} {e : Expr} {td : TE} {apos cpos : Pos} {elts : List Expr} {kk : Nat} {tpos : Pos} (he : PE X e td) (hbase : attributeBase e "items" X.env (eval e X.env) = eval e X.env := by rfl) (hline : (apos.endLine == cpos.line) = true := by rfl) :
    PI X (.Tuple elts kk tpos) (.Call (.Attribute e "items" apos) [] [] cpos) (iItemsT td) := by
  refine ⟨fun pins s σ H R I h => ?_⟩
  refine wpAny_Call_method (T := "dict") (id := "dict.items") hbase rfl hline PySem.F.plainAttrs_dict PySem.F.slot_dict_items PySem.F.type_dict_items (thn (he.run pins s σ H _ I h) fun u s1 ⟨x, H1, I1, rx, d, o, kvs, ex, hd, q⟩ => ?_)
  subst ex
  obtain rfl : u = Value.ref d := rx
  obtain ⟨hs, hgd, hx, es, ep, hdt, hsz, ent⟩ := frzT_all I1 hd
  have hr : s1.heap.DictRaw d es ep := ⟨o, hgd, hx, hdt⟩
  refine ⟨hr.typeIs, fun b q => by cases q; exact ⟨o, hgd, hx.2.1⟩, ?_⟩
  have I2 : Inv X pins σ H1 { s1 with heap := s1.heap.push { cls := .type "dict_items", data := .fields #[.ref d] } } := I1.kept (t' := s1.toks) fun b ob q => Heap.get?_push_of_some _ q
  have fin : wpAny (model X.prog X.w) X.A (pyIter (.ref s1.heap.objs.size)) (PIE X pins σ (.Tuple elts kk tpos) R) X.xe { s1 with heap := s1.heap.push { cls := .type "dict_items", data := .fields #[.ref d] } } := by
    refine wpAny_pyIter_items_raw (d := d) (es := es) (ep := ep) ⟨_, Heap.get?_push_size _ rfl, rfl, rfl⟩ (hr.at fun o q => Heap.get?_push_of_some _ q) (pi_one (tk := s1.toks) I2 _ (turn_itemsT _ hdt) ⟨.none, .none, ?_⟩ q)
    rw [← hsz]
    exact Heap.get?_push_size _ rfl
  show wpAny _ _ (callWith cpos (.builtin "dict.items") [.ref d] [] []) _ X.xe s1
  exact method_meetsIn PySem.F.slot_dict_items PySem.F.entry_dict_items rfl (PySem.evalArgs_none ⟨rfl, hr.typeIs, PySem.F.args_dict_items_1 _, _, meets_dict_items_raw d hs, ⟨⟨es, ep, hr⟩, fin⟩⟩)
end DL

/-! dicts as data: keys, get, put, the walk over items -/
namespace DL
open L2 PyProof.Rows PySem.Spec PySem

def keyD : Key → D
  | .inl i => .int i
  | .inr x => .str x
def keyOf : D → Option Key
  | .int i => some (.inl i)
  | .str x => some (.inr x)
  | _ => none
def keysOf : D → Option (List Key)
  | .tup xs => xs.mapM keyOf
  | _ => none
section
variable {κ : Type} [DecidableEq κ]
def getA (kvs : List (κ × D)) (k : κ) : Option D := (kvs.find? fun kv => decide (kv.1 = k)).map (·.2)
def putA (kvs : List (κ × D)) (k : κ) (v : D) : List (κ × D) :=
  if (kvs.any fun kv => decide (kv.1 = k)) = true then kvs.map (fun kv => if kv.1 = k then (kv.1, v) else kv) else kvs ++ [(k, v)]
variable {K : PySem.W.Frag} {g g' : Gh}
/-- both nothing, or a value that stands for the other -/
def RepOp (K : PySem.W.Frag) (g : Gh) : Option D → Option V → Prop
  | none, none => True
  | some d, some v => Rep K g d v
  | _, _ => False
theorem RepA.get {ds : List (κ × D)} {vs : List (κ × V)} (h : RepA K g ds vs) (k : κ) : RepOp K g (getA ds k) (valV vs k) := by
  induction h with
  | nil => exact trivial
  | @cons j d v ds vs r t ih =>
    by_cases e : j = k
    · unfold getA valV
      rw [List.find?_cons_of_pos (by simpa using e), List.find?_cons_of_pos (by simpa using e)]
      exact r
    · unfold getA valV at ih ⊢
      rw [List.find?_cons_of_neg (by simpa using e), List.find?_cons_of_neg (by simpa using e)]
      exact ih
theorem RepA.any {ds : List (κ × D)} {vs : List (κ × V)} (h : RepA K g ds vs) (k : κ) : (ds.any fun kv => decide (kv.1 = k)) = vs.any fun kv => decide (kv.1 = k) := by
  induction h with
  | nil => rfl
  | cons r t ih => rw [List.any_cons, List.any_cons, ih]
theorem RepA.length {ds : List (κ × D)} {vs : List (κ × V)} (h : RepA K g ds vs) : ds.length = vs.length := by
  induction h with
  | nil => rfl
  | cons r t ih => simp [ih]
theorem RepA.snoc {ds : List (κ × D)} {vs : List (κ × V)} (h : RepA K g ds vs) (k : κ) {d : D} {v : V} (r : Rep K g d v) : RepA K g (ds ++ [(k, d)]) (vs ++ [(k, v)]) := by
  induction h with
  | nil => exact .cons r .nil
  | cons q t ih => exact .cons q ih
theorem RepA.repl {ds : List (κ × D)} {vs : List (κ × V)} (h : RepA K g ds vs) (k : κ) {d : D} {v : V} (r : Rep K g d v) :
    RepA K g (ds.map fun kv => if kv.1 = k then (kv.1, d) else kv) (vs.map fun kv => if kv.1 = k then (kv.1, v) else kv) := by
  induction h with
  | nil => exact .nil
  | @cons j d0 v0 ds vs q t ih =>
    rw [List.map_cons, List.map_cons]
    by_cases e : j = k
    · rw [if_pos e, if_pos e]; exact .cons r ih
    · rw [if_neg e, if_neg e]; exact .cons q ih
theorem RepA.put {ds : List (κ × D)} {vs : List (κ × V)} (h : RepA K g ds vs) (k : κ) {d : D} {v : V} (r : Rep K g d v) : RepA K g (putA ds k d) (putK vs k v) := by
  unfold putA putK
  rw [h.any k]
  split
  · exact h.repl k r
  · exact h.snoc k r
theorem RepA.nth {ds : List (κ × D)} {vs : List (κ × V)} (h : RepA K g ds vs) : ∀ {i : Nat} {k : κ} {d : D}, ds[i]? = some (k, d) → ∃ v, vs[i]? = some (k, v) ∧ Rep K g d v := by
  induction h with
  | nil => intro i k d e; simp at e
  | @cons j d0 v0 ds vs q t ih =>
    intro i k d e
    cases i with
    | zero => simp at e; obtain ⟨rfl, rfl⟩ := e; exact ⟨v0, rfl, q⟩
    | succ i => simpa using ih (by simpa using e)
end
section
variable {K : PySem.W.Frag} {g : Gh}
theorem RepK.toA {ds : List (Key × D)} : ∀ {vs : List (Key × V)}, RepK K g ds vs → RepA K g ds vs := by
  induction ds with
  | nil => intro vs h; cases h; exact .nil
  | cons d r ih => intro vs h; cases h with | cons a b => exact .cons a (ih b)
theorem RepA.toK {ds : List (Key × D)} {vs : List (Key × V)} (h : RepA K g ds vs) : RepK K g ds vs := by
  induction h with
  | nil => exact .nil
  | cons r t ih => exact .cons r ih
theorem key_rep {d : D} {k : Key} {v : V} (e : keyOf d = some k) (r : Rep K g d v) : v = kV k := by
  cases r <;> cases e <;> rfl
theorem keys_rep : ∀ {ds : List D} {ks : List Key} {vs : List V}, ds.mapM keyOf = some ks → Reps K g ds vs → vs = ks.map kV
  | [], ks, vs, e, r => by rw [mapM_nil] at e; cases e; cases r; rfl
  | d :: ds, ks, vs, e, r => by
    rw [mapM_cons] at e
    cases q : keyOf d with
    | none => rw [q] at e; cases e
    | some k =>
      rw [q] at e
      obtain ⟨ks2, q2, rfl⟩ := map_inv (show (ds.mapM keyOf).map (k :: ·) = some ks from e)
      cases r with
      | cons r1 r2 => rw [key_rep q r1, keys_rep q2 r2]; rfl
theorem tkey_rep {d : D} {ks : List Key} {v : V} (e : keysOf d = some ks) (r : Rep K g d v) : ∃ a, v = .ref a ∧ g.F a = some (.tup (ks.map kV)) := by
  cases r with
  | tup h1 h2 => rw [keys_rep e h2] at h1; exact ⟨_, rfl, h1⟩
  | _ => cases e
theorem reps_keyD : ∀ ks : List Key, Reps K g (ks.map keyD) (ks.map kV)
  | [] => .nil
  | k :: r => by
    refine .cons ?_ (reps_keyD r)
    cases k with
    | inl i => exact .int i
    | inr x => exact .str x
end

/-! ### d[k] = v, d[k], d.get(k), k in d -/
def setD : MO → D → D → Option MO := fun m k v => match m with
  | .dic kvs => (keyOf k).bind fun j => if kvs.length < sizeLine then some (.dic (putA kvs j v)) else none
  | .dT kvs => (keysOf k).bind fun j => if kvs.length < sizeLine then some (.dT (putA kvs j v)) else none
  | _ => none
/-- what the dict holds at k: none (no such key) or some -/
def getD : MO → D → Option (Option D) := fun m k => match m with
  | .dic kvs => (keyOf k).map fun j => getA kvs j
  | .dT kvs => (keysOf k).map fun j => getA kvs j
  | _ => none
def MO.isD : MO → Bool
  | .dic _ => true
  | .dT _ => true
  | _ => false
section
variable {K : PySem.W.Frag} {mg : Mg} {b : Gh} {B : Hp} {g : Gh} {σ : Sg} {H : Hp} {s : S}
theorem getD_rep (w : Wf K mg b B g σ H s) {h : Hd} {u : V} {m : MO} {k : D} {kv : V} {r : Option D} (rh : RepH K σ g h u) (em : holds h s = some m) (eg : getD m k = some r) (rk : Rep K g k kv) : ∃ a o, u = .ref a ∧ DGet H a kv o ∧ RepOp K g r o := by
  obtain ⟨a, rfl, o, h1, h2⟩ := holds_rep w rh em
  cases m with
  | dic kvs =>
    obtain ⟨ws, rfl, h3⟩ := h2
    obtain ⟨j, ej, rfl⟩ := map_inv eg
    exact ⟨a, valV ws j, rfl, .inl ⟨ws, j, .inl h1, key_rep ej rk, rfl⟩, h3.toA.get j⟩
  | dT kvs =>
    obtain ⟨ws, rfl, h3⟩ := h2
    obtain ⟨j, ej, rfl⟩ := map_inv eg
    obtain ⟨c, rfl, hc⟩ := tkey_rep ej rk
    exact ⟨a, valV ws j, rfl, .inr ⟨ws, j, c, .inl h1, rfl, w.core.sub _ _ hc, rfl⟩, h3.get j⟩
  | lst _ => cases eg
  | ins _ _ => cases eg
  | gone => cases eg
theorem isD_rep (w : Wf K mg b B g σ H s) {h : Hd} {u : V} {m : MO} (rh : RepH K σ g h u) (em : holds h s = some m) (eg : m.isD = true) : ∃ a, u = .ref a ∧ IsD H a := by
  obtain ⟨a, rfl, o, h1, h2⟩ := holds_rep w rh em
  cases m with
  | dic kvs => obtain ⟨ws, rfl, h3⟩ := h2; exact ⟨a, rfl, .inl ⟨ws, .inl h1⟩⟩
  | dT kvs => obtain ⟨ws, rfl, h3⟩ := h2; exact ⟨a, rfl, .inr ⟨ws, .inl h1⟩⟩
  | lst _ => cases eg
  | ins _ _ => cases eg
  | gone => cases eg
end
def dGet1 (to : S → R Hd) (tk : S → R D) : S → R D := fun s => (to s).bind fun h s1 => match holds h s1 with
  | some m0 => if m0.isD = true then (tk s1).bind fun k s2 => (match holds h s2 with
    | some m => .of ((getD m k).map fun r => r.getD .non) s2
    | none => .bad) else .bad
  | none => .bad
section
variable {X : Cx} {W : WX} {o e i : Expr} {to : S → R Hd} {tk ta : S → R D} {apos cpos pos : Pos}
theorem RepOp.getD {K : PySem.W.Frag} {g : Gh} {r : Option D} {o : Option V} (h : RepOp K g r o) : Rep K g (r.getD .non) (o.getD .non) := by
  cases r with
  | none => cases o with
    | none => exact .non
    | some _ => exact h.elim
  | some _ => cases o with
    | none => exact h.elim
    | some _ => exact h
theorem de_get1 (hu : X.A.units + 1 < cLine) (ho : HE X W o to) (hk : DE X W e tk) (m : M1 X o "get" apos e cpos) : DE X W (.Call (.Attribute o "get" apos) [e] [] cpos) (dGet1 to tk) := fun b B =>
  PE.weak (pe_dget1 hu (ho b B) (hk b B) m) fun σ H Q ⟨g, s, w, h⟩ => ⟨g, s, w, (Post.bind (RR := rrH X.K) h).imp fun v H1 ⟨g1, s1, hh, m1, w1, r1, p1⟩ => by
    split at p1
    · next m0 e0 =>
      split at p1
      · next hd =>
        obtain ⟨a, rfl, ia⟩ := isD_rep w1 r1 e0 hd
        refine ⟨a, rfl, ia, g1, s1, w1, (Post.bind (RR := rrD X.K) p1).imp fun u H2 ⟨g2, s2, k, m2, w2, r2, p2⟩ => ?_⟩
        split at p2
        · next mm em =>
          cases q : getD mm k with
          | none => rw [q] at p2; exact p2.elim
          | some r =>
            rw [q] at p2
            obtain ⟨a', o, ea, h3, h4⟩ := getD_rep w2 (RepH.mono m2 r1) em q r2
            cases ea
            exact ⟨o, h3, Post.here (RR := rrD X.K) p2 w2 h4.getD⟩
        · exact p2.elim
      · exact p1.elim
    · exact p1.elim⟩
/-- d[k] that is there -/
def ixD : Hd → D → S → R D := fun h k s => match holds h s with
  | some m => .of ((getD m k).bind id) s
  | none => .bad
def dIxD (to : S → R Hd) (tk : S → R D) : S → R D := fun s => (to s).bind fun h s1 => (tk s1).bind fun k s2 => ixD h k s2
theorem de_ixD (hu : X.A.units + 1 < cLine) (ho : HE X W o to) (hk : DE X W i tk) (hs : NoSl i) : DE X W (.Subscript o i pos) (dIxD to tk) := fun b B =>
  PE.weak (pe_dget hu (ho b B) (hk b B) hs) fun σ H Q ⟨g, s, w, h⟩ => ⟨g, s, w, (Post.bind (RR := rrH X.K) h).imp fun v H1 ⟨g1, s1, hh, m1, w1, r1, p1⟩ =>
    ⟨g1, s1, w1, (Post.bind (RR := rrD X.K) p1).imp fun u H2 ⟨g2, s2, k, m2, w2, r2, p2⟩ => by
      unfold ixD at p2
      split at p2
      · next mm em =>
        cases q : getD mm k with
        | none => rw [q] at p2; exact p2.elim
        | some r =>
          rw [q] at p2
          obtain ⟨a', o, ea, h3, h4⟩ := getD_rep w2 (RepH.mono m2 r1) em q r2
          cases r with
          | none => exact p2.elim
          | some d =>
            cases o with
            | none => exact h4.elim
            | some x => exact ⟨a', x, ea, h3, Post.here (RR := rrD X.K) p2 w2 h4⟩
      · exact p2.elim⟩⟩
theorem s_putD (hu : X.A.units + 1 < cLine) {tpos : Pos} (hv : DE X W e ta) (ho : HE X W o to) (hi : DE X W i tk) (hs : swapsWith e (some (.Subscript o i tpos)) pos.line X.env = pure false := by rfl) : DS X W (.Assign [.Subscript o i tpos] e pos) (sPut setD ta to tk) := fun b B =>
  PS.weak (ps_dput hu (ho b B) (hi b B) (hv b B) hs) fun E σ H ⟨g, s, w, p⟩ =>
    ⟨g, s, w, (PostS.bind (RR := rrD X.K) p).imp fun v H1 ⟨g1, s1, d, m1, w1, r1, p1⟩ => ⟨g1, s1, w1, (PostS.bind (RR := rrH X.K) p1).imp fun u H2 ⟨g2, s2, hh, m2, w2, r2, p2⟩ =>
      ⟨g2, s2, w2, (PostS.bind (RR := rrD X.K) p2).imp fun iv H3 ⟨g3, s3, k, m3, w3, r3, p3⟩ => by
        split at p3
        · next m em =>
          split at p3
          · next m' ef =>
            obtain ⟨a, rfl, oo, h1, h2⟩ := holds_rep w3 (RepH.mono m3 r2) (mine_holds em)
            unfold setD at ef
            split at ef
            · next kvs =>
              obtain ⟨ws, rfl, h3⟩ := h2
              cases q : keyOf k with
              | none => rw [q] at ef; cases ef
              | some j =>
                rw [q] at ef
                simp only [Option.bind_some] at ef
                split at ef
                · next hl =>
                  cases ef
                  cases key_rep q r3
                  exact ⟨a, _, rfl, .k h1 (by rw [← h3.toA.length]; exact hl), PostS.nx p3 (.refl g3) (wf_put w3 (RepH.mono m3 r2) em (fun z => nomatch z) rfl (m := .dic (putA kvs j d)) ⟨_, rfl, (h3.toA.put j (r1.mono (m2.trans m3))).toK⟩ (fun z => nomatch z) trivial)⟩
                · cases ef
            · next kvs =>
              obtain ⟨ws, rfl, h3⟩ := h2
              cases q : keysOf k with
              | none => rw [q] at ef; cases ef
              | some j =>
                rw [q] at ef
                simp only [Option.bind_some] at ef
                split at ef
                · next hl =>
                  cases ef
                  obtain ⟨c, rfl, hc⟩ := tkey_rep q r3
                  exact ⟨a, _, rfl, .t h1 (w3.core.sub _ _ hc) (by rw [← h3.length]; exact hl), PostS.nx p3 (.refl g3) (wf_put w3 (RepH.mono m3 r2) em (fun z => nomatch z) rfl (m := .dT (putA kvs j d)) ⟨_, rfl, h3.put j (r1.mono (m2.trans m3))⟩ (fun z => nomatch z) trivial)⟩
                · cases ef
            · cases ef
          · exact p3.elim
        · exact p3.elim⟩⟩⟩
/-- {} -/
def nD (m : MO) : S → R MO := fun s => .ok m s
theorem fe_dicT : FE X W (.Dict [] [] pos) (nD (.dT [])) := fun b B => PE.weak pe_dnewT fun σ H Q ⟨g, s, w, p⟩ l hl => by
  have w1 := w.upd (w.fresh hl) (.dT []) trivial
  have f := w.fresh hl
  exact p g _ l (.refl g) w1 f ⟨_, upd_same, [], rfl, .nil⟩ (fun z => nomatch z)
theorem fe_dicK : FE X W (.Dict [] [] pos) (nD (.dic [])) := fun b B => PE.weak pe_dnewK fun σ H Q ⟨g, s, w, p⟩ l hl => by
  have w1 := w.upd (w.fresh hl) (.dK []) trivial
  have f := w.fresh hl
  exact p g _ l (.refl g) w1 f ⟨_, upd_same, [], rfl, .nil⟩ (fun z => nomatch z)
end
end DL

/-! for .. in d.items(), tuple keys: the dict is locked while it runs -/
namespace DL
open L2 PyProof.Rows PySem.Spec PySem

abbrev Gh.un (g : Gh) (a : Addr) : Gh := ⟨fun c => if c = a then none else g.F c, g.mu⟩
theorem un_ne {g : Gh} {a c : Addr} (h : c ≠ a) : (g.un a).F c = g.F c := if_neg h
theorem un_same {g : Gh} {a : Addr} : (g.un a).F a = none := if_pos rfl
section
variable {K : PySem.W.Frag} {g : Gh} {a : Addr} {od : Obj} {ws0 : List (List Key × V)}
theorem un_seq (hF : g.F a = some (.frz od (.dT ws0))) {c : Addr} {vs : List V} (h : SqL K g.F c vs) : SqL K (g.un a).F c vs := by
  rcases h with h | h
  · rcases h with h | ⟨o, h⟩
    · exact .inl (.inl (by rw [un_ne (fun z => by rw [z, hF] at h; cases h)]; exact h))
    · exact .inl (.inr ⟨o, by rw [un_ne (fun z => by rw [z, hF] at h; cases h)]; exact h⟩)
  · exact .inr h
mutual
theorem Rep.un (hF : g.F a = some (.frz od (.dT ws0))) {d : D} {v : V} : Rep K g d v → Rep K (g.un a) d v
  | .non => .non | .bl b => .bl b | .int i => .int i | .str x => .str x
  | .tup e r => .tup (by rw [un_ne (fun z => by rw [z, hF] at e; cases e)]; exact e) (Reps.un hF r)
  | .lst e r => .lst (by rw [un_ne (fun z => by rw [z, hF] at e; cases e)]; exact e) (Reps.un hF r)
  | .dic e r => .dic (by rw [un_ne (fun z => by rw [z, hF] at e; cases e)]; exact e) (RepK.un hF r)
  | .loc e r => .loc (un_seq hF e) (Reps.un hF r)
  | .ref e => .ref e
theorem Reps.un (hF : g.F a = some (.frz od (.dT ws0))) {ds : List D} {vs : List V} : Reps K g ds vs → Reps K (g.un a) ds vs
  | .nil => .nil
  | .cons r t => .cons (Rep.un hF r) (Reps.un hF t)
theorem RepK.un (hF : g.F a = some (.frz od (.dT ws0))) {ds : List (Key × D)} {vs : List (Key × V)} : RepK K g ds vs → RepK K (g.un a) ds vs
  | .nil => .nil
  | .cons r t => .cons (Rep.un hF r) (RepK.un hF t)
end
theorem RepA.un (hF : g.F a = some (.frz od (.dT ws0))) {κ : Type} {ds : List (κ × D)} {vs : List (κ × V)} (h : RepA K g ds vs) : RepA K (g.un a) ds vs := by
  induction h with
  | nil => exact .nil
  | cons r _ ih => exact .cons (r.un hF) ih
theorem RepO.un (hF : g.F a = some (.frz od (.dT ws0))) {mg : Mg} {mo : MO} {o : HO} (h : RepO K mg g mo o) : RepO K mg (g.un a) mo o := by
  cases mo with
  | lst ds => obtain ⟨vs, e, r⟩ := h; exact ⟨vs, e, r.un hF⟩
  | dic ds => obtain ⟨vs, e, r⟩ := h; exact ⟨vs, e, r.un hF⟩
  | dT ds => obtain ⟨vs, e, r⟩ := h; exact ⟨vs, e, r.un hF⟩
  | ins c fs => obtain ⟨C, dx, ws, e, q, r⟩ := h; exact ⟨C, dx, ws, e, q, r.un hF⟩
  | gone => exact True.intro
end
section
variable {K : PySem.W.Frag} {mg : Mg} {b g : Gh} {B H : Hp} {σ : Sg} {s : S} {a : Addr} {n : Nat} {od : Obj} {ws : List (List Key × V)} {kvs : List (List Key × D)}
theorem mu_inj (nd : g.mu.Nodup) (h1 : g.mu[n]? = some a) {k : Nat} (hk : g.mu[k]? = some a) : k = n := by
  have hk' := List.getElem?_eq_some_iff.mp hk
  have hn' := List.getElem?_eq_some_iff.mp h1
  exact (List.getElem_inj nd).mp (hk'.2.trans hn'.2.symm)
theorem Wf.locked (w : Wf K mg b B g σ H s) (e : s.mem[n]? = some (.dT kvs)) (h1 : g.mu[n]? = some a) : Wf K mg b B (g.fz a (.frz od (.dT ws))) σ (L2.upd H a (.frz od (.dT ws))) { s with mem := s.mem.set n .gone } := by
  obtain ⟨_, hF⟩ := w.core.obj n _ a e h1
  have hF := hF (fun z => nomatch z)
  have hmem : a ∈ g.mu := List.mem_of_getElem? h1
  have mm : Mono g (g.fz a (.frz od (.dT ws))) := mono_fz hF
  have ne : ∀ c, c ≠ a → (g.fz a (.frz od (.dT ws))).F c = g.F c := fun c h => upd_ne h
  refine ⟨⟨fun c u q => ?_, fun c u q => ?_, by show (s.mem.set n .gone).length = _; rw [List.length_set]; exact w.core.len, w.core.nd, fun k mo c q1 q2 => ?_⟩, ⟨w.anc.sub.trans mm.1, w.anc.pre, fun c u q nn => ?_, fun c q => ?_, fun c q => ?_, w.anc.newM⟩, w.lo, w.len, fun i d e => w.valMono mm e, fun i mo q => ?_, w.dist⟩
  · by_cases z : c = a
    · subst z
      rw [show (g.fz c (.frz od (.dT ws))).F c = some (.frz od (.dT ws)) from upd_same] at q
      cases q; exact upd_same
    · rw [ne c z] at q; rw [upd_ne z]; exact w.core.sub c u q
  · by_cases z : c = a
    · rw [z, upd_same] at q; cases q; trivial
    · rw [upd_ne z] at q; exact w.core.sz c u q
  · have q1 : (s.mem.set n MO.gone)[k]? = some mo := q1
    by_cases hk : k = n
    · subst hk
      have q2 : g.mu[k]? = some c := q2
      rw [h1] at q2; cases q2
      rw [List.getElem?_set_self (List.getElem?_eq_some_iff.mp e).1] at q1
      cases q1
      exact ⟨⟨_, upd_same, trivial⟩, fun z => absurd rfl z⟩
    · rw [List.getElem?_set_ne (Ne.symm hk)] at q1
      obtain ⟨⟨u, e3, r3⟩, q3⟩ := w.core.obj k mo c q1 q2
      have hc : c ≠ a := fun z => hk (mu_inj w.core.nd h1 (by rw [← z]; exact q2))
      exact ⟨⟨u, by rw [upd_ne hc]; exact e3, r3.mono mm⟩, fun z => by rw [ne c hc]; exact q3 z⟩
  · have hne : c ≠ a := fun z => by
      subst z
      exact (w.anc.newM c hmem).elim nn fun z => by rw [z] at q; cases q
    rw [upd_ne hne]; exact w.anc.keep c u q nn
  · by_cases z : c = a
    · subst z; rw [upd_same]; simp
    · rw [upd_ne z]; exact w.anc.there c q
  · by_cases z : c = a
    · subst z
      exact (w.anc.newM c hmem).elim (fun z => .inr (.inr (.inl z))) fun z => .inr (.inl z)
    · rw [ne c z] at q
      rcases w.anc.newF c q with z1 | z1 | z1 | ⟨vs, z1⟩
      · exact .inl z1
      · exact .inr (.inl z1)
      · exact .inr (.inr (.inl z1))
      · exact .inr (.inr (.inr ⟨vs, by rw [ne c z]; exact z1⟩))
  · obtain ⟨n1, c, e1, e2, e3, e4, u, e5, r5⟩ := w.own i mo q
    have hc : c ≠ a := fun z : c = a => e3 (by rw [z]; exact hmem)
    exact ⟨n1, c, e1, by rw [ne c hc]; exact e2, e3, e4, u, by rw [upd_ne hc]; exact e5, r5.mono mm⟩
theorem Wf.unlocked (w : Wf K mg b B g σ H s) (e : s.mem[n]? = some .gone) (h1 : g.mu[n]? = some a) (hF : g.F a = some (.frz od (.dT ws))) (r : RepA K g kvs ws) (bF : b.F a = none) : Wf K mg b B (g.un a) σ (L2.upd H a (.dT ws)) { s with mem := s.mem.set n (.dT kvs) } := by
  have hmem : a ∈ g.mu := List.mem_of_getElem? h1
  have some_ne : ∀ c u, (g.un a).F c = some u → c ≠ a := fun c u q z => by rw [z, un_same] at q; cases q
  refine ⟨⟨fun c u q => ?_, fun c u q => ?_, by show (s.mem.set n (.dT kvs)).length = _; rw [List.length_set]; exact w.core.len, w.core.nd, fun k mo c q1 q2 => ?_⟩, ⟨fun c u q => ?_, w.anc.pre, fun c u q nn => ?_, fun c q => ?_, fun c q => ?_, w.anc.newM⟩, w.lo, w.len, fun i d e => ?_, fun i mo q => ?_, w.dist⟩
  · have z := some_ne c u q
    rw [un_ne z] at q
    rw [upd_ne z]; exact w.core.sub c u q
  · by_cases z : c = a
    · rw [z, upd_same] at q; cases q; trivial
    · rw [upd_ne z] at q; exact w.core.sz c u q
  · have q1 : (s.mem.set n (.dT kvs))[k]? = some mo := q1
    by_cases hk : k = n
    · subst hk
      have q2 : g.mu[k]? = some c := q2
      rw [h1] at q2; cases q2
      rw [List.getElem?_set_self (List.getElem?_eq_some_iff.mp e).1] at q1
      cases q1
      exact ⟨⟨_, upd_same, _, rfl, r.un hF⟩, fun _ => un_same⟩
    · rw [List.getElem?_set_ne (Ne.symm hk)] at q1
      obtain ⟨⟨u, e3, r3⟩, q3⟩ := w.core.obj k mo c q1 q2
      have hc : c ≠ a := fun z => hk (mu_inj w.core.nd h1 (by rw [← z]; exact q2))
      exact ⟨⟨u, by rw [upd_ne hc]; exact e3, r3.un hF⟩, fun z => by rw [un_ne hc]; exact q3 z⟩
  · have z : c ≠ a := fun z => by rw [z, bF] at q; cases q
    rw [un_ne z]; exact w.anc.sub c u q
  · have hne : c ≠ a := fun z => by
      subst z
      exact (w.anc.newM c hmem).elim nn fun z => by rw [z] at q; cases q
    rw [upd_ne hne]; exact w.anc.keep c u q nn
  · by_cases z : c = a
    · subst z; rw [upd_same]; simp
    · rw [upd_ne z]; exact w.anc.there c q
  · by_cases z : c = a
    · rw [z] at q; exact absurd un_same q
    · rw [un_ne z] at q
      rcases w.anc.newF c q with z1 | z1 | z1 | ⟨vs, z1⟩
      · exact .inl z1
      · exact .inr (.inl z1)
      · exact .inr (.inr (.inl z1))
      · exact .inr (.inr (.inr ⟨vs, by rw [un_ne z]; exact z1⟩))
  · obtain ⟨v, q1, q2⟩ := w.val i d e
    exact ⟨v, q1, q2.un hF⟩
  · obtain ⟨n1, c, e1, e2, e3, e4, u, e5, r5⟩ := w.own i mo q
    have hc : c ≠ a := fun z : c = a => e3 (by rw [z]; exact hmem)
    exact ⟨n1, c, e1, by rw [un_ne hc]; exact e2, e3, e4, u, by rw [upd_ne hc]; exact e5, r5.un hF⟩
/-- a tuple that stands in the heap is data -/
theorem Wf.tupF (w : Wf K mg b B g σ H s) {q : Addr} {vs : List V} (h : H q = some (.tup vs)) : ∃ g', Mono g g' ∧ g'.F q = some (.tup vs) ∧ (∀ c, c ≠ q → g'.F c = g.F c) ∧ Wf K mg b B g' σ H s := by
  cases hq : g.F q with
  | some o =>
    have e := w.core.sub q o hq
    rw [h] at e; cases e
    exact ⟨g, .refl g, hq, fun _ _ => rfl, w⟩
  | none =>
    have mm : Mono g (g.fz q (.tup vs)) := mono_fz hq
    have ne : ∀ c, c ≠ q → (g.fz q (.tup vs)).F c = g.F c := fun c h => upd_ne h
    refine ⟨g.fz q (.tup vs), mm, upd_same, fun c hc => ne c hc, ⟨⟨fun c u e => ?_, w.core.sz, w.core.len, w.core.nd, fun k mo c q1 q2 => ?_⟩, ⟨w.anc.sub.trans mm.1, w.anc.pre, w.anc.keep, w.anc.there, fun c e => ?_, w.anc.newM⟩, w.lo, w.len, fun i d e => w.valMono mm e, fun i mo e => ?_, w.dist⟩⟩
    · by_cases z : c = q
      · subst z
        rw [show (g.fz c (.tup vs)).F c = some (.tup vs) from upd_same] at e
        cases e; exact h
      · rw [ne c z] at e; exact w.core.sub c u e
    · obtain ⟨⟨u, e3, r3⟩, q3⟩ := w.core.obj k mo c q1 q2
      refine ⟨⟨u, e3, r3.mono mm⟩, fun z => ?_⟩
      have hc : c ≠ q := fun y => by
        subst y
        rw [h] at e3; cases e3
        exact z r3.notTup
      rw [ne c hc]; exact q3 z
    · by_cases z : c = q
      · exact .inr (.inr (.inr ⟨vs, by rw [z]; exact upd_same⟩))
      · rw [ne c z] at e
        rcases w.anc.newF c e with z1 | z1 | z1 | ⟨us, z1⟩
        · exact .inl z1
        · exact .inr (.inl z1)
        · exact .inr (.inr (.inl z1))
        · exact .inr (.inr (.inr ⟨us, by rw [ne c z]; exact z1⟩))
    · obtain ⟨n1, c, e1, e2, e3, e4, u, e5, r5⟩ := w.own i mo e
      have hc : c ≠ q := fun y => by
        subst y
        rw [h] at e5; cases e5
        exact n1 r5.notTup
      exact ⟨n1, c, e1, by rw [ne c hc]; exact e2, e3, e4, u, e5, r5.mono mm⟩
end
def itemsD (kvs : List (List Key × D)) : List D := kvs.map fun kv => .tup [.tup (kv.1.map keyD), kv.2]
theorem jrep_items {K : PySem.W.Frag} {mg : Mg} {g : Gh} {d : Addr} {od : Obj} {ws : List (List Key × V)} {kvs : List (List Key × D)} (hF : g.F d = some (.frz od (.dT ws))) (r : RepA K g kvs ws) (hl : kvs.length ≤ sizeLine) : JRep K mg g (ItiT d od ws) ⟨itemsD kvs, [], []⟩ := by
  have le : (itemsD kvs).length = kvs.length := by unfold itemsD; rw [List.length_map]
  refine ⟨by show (itemsD kvs).length ≤ sizeLine; rw [le]; exact hl, fun b B g1 σ H s mm w _ i => ⟨fun x ex => ?_, fun hi => ?_⟩⟩
  · have ex : (itemsD kvs)[i]? = some x := ex
    unfold itemsD at ex
    rw [List.getElem?_map, Option.map_eq_some_iff] at ex
    obtain ⟨⟨k, dd⟩, ek, rfl⟩ := ex
    obtain ⟨v, ev, rv⟩ := r.nth ek
    refine ⟨⟨w.core.sub _ _ (mm.1 _ _ hF), (List.getElem?_eq_some_iff.mp ev).1⟩, fun x H' hy => ?_⟩
    obtain ⟨T, k2, v2, q, e2, rfl, hT, rfl, hq⟩ := hy
    rw [ev] at e2
    cases e2
    obtain ⟨g2, m2, hq2, hne, w2⟩ := w.tupF hq
    have f := w2.fresh hT
    have m3 : Mono g2 (g2.fz T (.tup [.ref q, v])) := mono_fz f.F
    refine ⟨_, m2.trans m3, (w2.upd f (.tup [.ref q, v]) (by show 2 ≤ sizeLine; decide)).frozen f upd_same, ?_⟩
    exact .tup (show upd g2.F T _ T = _ from upd_same) (.cons (.tup (m3.1 _ _ hq2) (reps_keyD k)) (.cons (rv.mono ((mm.trans m2).trans m3)) .nil))
  · have hi : (itemsD kvs).length ≤ i := hi
    exact ⟨w.core.sub _ _ (mm.1 _ _ hF), by rw [← r.length, ← le]; exact hi⟩
/-- the dict at n stands again as it stood -/
def unlk (n : Nat) (kvs : List (List Key × D)) (r : RS) : RS := match r with
  | .nx s => (match s.mem[n]? with
    | some .gone => .nx { s with mem := s.mem.set n (.dT kvs) }
    | _ => .bad)
  | .rt d s => (match s.mem[n]? with
    | some .gone => .rt d { s with mem := s.mem.set n (.dT kvs) }
    | _ => .bad)
  | _ => .bad
noncomputable def sItems (i : Nat) (u : D → S → R Unit) (body : S → RS) : S → RS := fun s => match s.env[i]? with
  | some (.val (.ref n)) => (match s.mem[n]? with
    | some (.dT kvs) => if kvs.length ≤ sizeLine then unlk n kvs (forGo ⟨itemsD kvs, [], []⟩ u body (itemsD kvs) { s with mem := s.mem.set n .gone }) else .bad
    | _ => .bad)
  | _ => .bad
theorem s_items {X : Cx} {W : WX} {i : Nat} {x : Str} {xp apos cpos tpos pos : Pos} {elts : List Expr} {kk : Nat} {body : List Stmt} {u : D → S → R Unit} {tb : S → RS} (hp : PassesOwn (model X.prog X.w) X.A X.env X.xe) (hc : X.calm = true) {is : List Nat}
    (hN : X.N[i]? = some x) (hv : Vis X.env.scope x) (hg : DG X is (.Tuple elts kk tpos) u) (nx : NoX u) (hb : DSs X W body tb) (hd : (x == ("__debug__" : Str)) = false := by decide) (hcd : (x == ("__classdict__" : Str)) = false := by decide)
    (hs : ∀ y, foldedSetIterable (.Call (.Attribute (.Name x xp) "items" apos) [] [] cpos) X.env y = pure y := by intro _; rfl)
    (hbase : attributeBase (.Name x xp) "items" X.env (eval (.Name x xp) X.env) = eval (.Name x xp) X.env := by rfl) (hline : (apos.endLine == cpos.line) = true := by rfl) :
    DS X W (.For (.Tuple elts kk tpos) (.Call (.Attribute (.Name x xp) "items" apos) [] [] cpos) body [] pos) (sItems i u tb) := fun b B =>
  PS.weak (ps_lock (ps_for hp hc (pi_itemsT (pe_var hN hv hd hcd) hbase hline) (hg b B) (hb b B) hs)) fun E σ H ⟨g, s, w, p⟩ => by
    unfold sItems at p
    split at p
    · next n en =>
      split at p
      · next kvs em =>
        split at p
        · next hl =>
          obtain ⟨v, hv1, hv2⟩ := w.val i _ en
          cases hv2 with
          | @ref n a h1 =>
            obtain ⟨⟨o, ho, ws, rfl, rA⟩, hF⟩ := w.core.obj n _ a em h1
            have hF := hF (fun z => nomatch z)
            have bF : b.F a = none := by
              cases q : b.F a with
              | none => rfl
              | some u => rw [w.anc.sub _ _ q] at hF; cases hF
            refine ⟨a, .dT ws, ho, trivial, fun od => ⟨.ref a, hv1, a, od, ws, rfl, upd_same, ?_⟩⟩
            have w1 := w.locked (od := od) (ws := ws) em h1
            have m1 : Mono g (g.fz a (.frz od (.dT ws))) := mono_fz hF
            have rA1 := rA.mono m1
            have fin : ∀ g', Mono (g.fz a (.frz od (.dT ws))) g' → Mono g (g'.un a) := fun g' m => ⟨fun c u q => by
                have hc : c ≠ a := fun z => by rw [z, hF] at q; cases q
                rw [un_ne hc]; exact m.1 _ _ (m1.1 _ _ q), m.2⟩
            refine for_core nx w1 (jrep_items (K := X.K) (mg := X.mg) (g := g.fz a (.frz od (.dT ws))) upd_same rA1 hl) ?_
            revert p
            show PostS X.K X.mg b B W g (unlk n kvs (forGo ⟨itemsD kvs, [], []⟩ u tb (itemsD kvs) { s with mem := s.mem.set n .gone })) E → PostS X.K X.mg b B W _ (forGo ⟨itemsD kvs, [], []⟩ u tb (itemsD kvs) { s with mem := s.mem.set n .gone }) _
            cases forGo ⟨itemsD kvs, [], []⟩ u tb (itemsD kvs) { s with mem := s.mem.set n .gone } with
            | nx s2 =>
              intro p g' σ' H' m w'
              unfold unlk at p
              simp only at p
              split at p
              · next e2 =>
                have hF' : g'.F a = some (.frz od (.dT ws)) := m.1 _ _ upd_same
                have h1' : g'.mu[n]? = some a := pre_get m.2 h1
                exact ⟨w'.core.sub _ _ hF', p _ σ' _ (fin g' m) (w'.unlocked e2 h1' hF' (rA1.mono m) bF)⟩
              · exact p.elim
            | rt d s2 =>
              intro p g' σ' H' v m w' rv
              unfold unlk at p
              simp only at p
              split at p
              · next e2 =>
                have hF' : g'.F a = some (.frz od (.dT ws)) := m.1 _ _ upd_same
                have h1' : g'.mu[n]? = some a := pre_get m.2 h1
                exact ⟨w'.core.sub _ _ hF', p _ σ' _ v (fin g' m) (w'.unlocked e2 h1' hF' (rA1.mono m) bF) (rv.un hF')⟩
              · exact p.elim
            | bk s2 => exact fun p => p.elim
            | ct s2 => exact fun p => p.elim
            | exc x s2 => exact fun p => p.elim
            | bad => exact fun p => p.elim
        · exact p.elim
      · exact p.elim
    · exact p.elim
end DL

/-! list(range(a, b, c)); a, b = x, y; what is never reached -/
namespace DL
open L2 PyProof.Rows PySem.Spec PySem

/-! ### never reached -/
def sBad : S → RS := fun _ => .bad
def dBad : S → R D := fun _ => .bad
theorem s_bad {X : Cx} {W : WX} {st : Stmt} : DS X W st sBad := fun b B => ⟨fun pins s σ H E I ⟨g, s', w, p⟩ => p.elim⟩
theorem de_bad {X : Cx} {W : WX} {e : Expr} : DE X W e dBad := fun b B => ⟨fun pins s σ H E I ⟨g, s', w, p⟩ => p.elim⟩
theorem ss_bad {X : Cx} {W : WX} {sts : List Stmt} : DSs X W sts sBad := fun b B => ⟨fun pins s σ H E I ⟨g, s', w, p⟩ => p.elim⟩

/-! ### list(range(a, b, c)) -/
def rgC (a c : Int) (n : Nat) : List V := (List.range n).map fun i => V.int (a + (i : Nat) * c)
theorem vals_rgC {a c : Int} {n : Nat} {acc : Array Value} (h : ItemsOf (fun i v => ∃ t, v = .int (a + i * c) t) acc n) : Vals (rgC a c n) acc.toList := by
  have e : acc.toList.length = n := by rw [Array.length_toList]; exact h.1
  unfold rgC
  rw [← e]
  refine vals_of_get acc.toList _ fun j u hj => ?_
  obtain ⟨t, rfl⟩ := h.2 j u (by rw [← hj, Array.getElem?_toList])
  exact ⟨t, rfl⟩
def tLstRg3 (ta : TA) : TE := fun σ H Q => ta σ H fun vs H1 => ∃ (i j c : Int) (n : Nat), vs = [.int i, .int j, .int c] ∧ RgC i j c n ∧ n ≤ 2 ^ 24 ∧ ∀ q, H1 q = none → Q (.ref q) (upd H1 q (.lst (rgC i c n)))
theorem pe_listRg3 {X : Cx} {a b c : Expr} {ta : TA} {p p2 pos pos2 : Pos} (hc : X.calm = true) (hg2 : Gl X "list") (hm2 : X.mg "list" = none) (hg : Gl X "range") (hm : X.mg "range" = none) (ha : PA X [a, b, c] ta)
    (hs : starEach [a, b, c] X.env = (false, eval a X.env) :: starEach [b, c] X.env := by rfl) (hpl : (backTo pos (starEach [b, c] X.env)).any (·.1) = false := by rfl)
    (na : starEach [.Call (.Name "range" p) [a, b, c] [] pos] X.env = (false, eval (.Call (.Name "range" p) [a, b, c] [] pos) X.env) :: starEach [] X.env := by rfl) :
    PE X (.Call (.Name "list" p2) [.Call (.Name "range" p) [a, b, c] [] pos] [] pos2) (tLstRg3 ta) := by
  refine ⟨fun pins s σ H Q I h => ?_⟩
  refine Call_ (ld_blt I hg2 hm2 boot_list (PyProof.Rows.callWith_type1 (args_cons (Call_ (ld_blt I hg hm boot_range (PyProof.Rows.callWith_type1 (thn (ha.run pos pins s σ H _ I h) fun us s1 ⟨vs, H1, I1, r1, q1⟩ => ?_) hs hpl))) na) na))
  obtain ⟨i, j, k, n, e, ⟨c0, c1, c2, c3⟩, hn, q⟩ := q1
  subst e
  cases r1 with
  | cons r rr =>
    cases rr with
    | cons r' rr =>
      cases rr with
      | cons r'' rr =>
        cases rr
        obtain ⟨t, rfl⟩ := r
        obtain ⟨t', rfl⟩ := r'
        obtain ⟨t'', rfl⟩ := r''
        refine call_range_3 c0 (args_nil ?_) (.inl (PyProof.noPylong_small c1))
        have I2 : Inv X pins σ H1 { s1 with heap := s1.heap.push { cls := .type "range", data := .fields #[.int i t, .int j t', .int k t''] } } := I1.kept (t' := s1.toks) fun b o e => Heap.get?_push_of_some _ e
        refine call_list_range (n := n) (I2.ok.hd hc) (IsRange.new ..) c2 c3 hn fun h' tk acc c' hk e' hi => ?_
        refine ⟨.ref _, upd H1 _ (.lst (rgC i k n)), I2.laid hk (Nat.le_refl _) (show ObjOk X.prog X.w _ _ _ (.lst (rgC i k n)) from ⟨?_, acc.toList, c', vals_rgC hi, ?_⟩), rfl, q _ (I2.hok.fresh (Nat.le_refl _))⟩
        · unfold rgC; rw [List.length_map, List.length_range, sizeLine_eq]; omega
        · rw [Array.toArray_toList]; exact e'
def listRg3 : List Hd → S → R MO := fun hs s => match hs with
  | [.d (.int i), .d (.int j), .d (.int c)] => if 0 < c ∧ c < 1073741824 ∧ Builtin.Range.small i j c = true ∧ rngN i j c ≤ 16777216 then .ok (.lst (rngItems i c (rngN i j c))) s else .bad
  | _ => .bad
theorem rgC_rep {K : PySem.W.Frag} {g : Gh} (a c : Int) (n : Nat) : Reps K g (rngItems a c n) (rgC a c n) := by
  unfold rngItems rgC
  induction (List.range n) with
  | nil => exact .nil
  | cons i r ih => exact .cons (.int _) ih
theorem fe_listRg3 {X : Cx} {W : WX} {a b c : Expr} {u : S → R (List Hd)} {p p2 pos pos2 : Pos} (hc : X.calm = true) (hg2 : Gl X "list") (hm2 : X.mg "list" = none) (hg : Gl X "range") (hm : X.mg "range" = none) (ha : HA X W [a, b, c] u)
    (hs : starEach [a, b, c] X.env = (false, eval a X.env) :: starEach [b, c] X.env := by rfl) (hpl : (backTo pos (starEach [b, c] X.env)).any (·.1) = false := by rfl)
    (na : starEach [.Call (.Name "range" p) [a, b, c] [] pos] X.env = (false, eval (.Call (.Name "range" p) [a, b, c] [] pos) X.env) :: starEach [] X.env := by rfl) :
    FE X W (.Call (.Name "list" p2) [.Call (.Name "range" p) [a, b, c] [] pos] [] pos2) (call u listRg3) := fun bb B =>
  PE.weak (pe_listRg3 hc hg2 hm2 hg hm (ha bb B) hs hpl na) fun σ H Q ⟨g, s, w, p⟩ => ⟨g, s, w, (PostF.bind (RR := rrHs X.K) p).imp fun v H1 ⟨g1, s1, hs, m1, w1, r1, p1⟩ => by
    unfold listRg3 at p1
    split at p1
    · next i j c =>
      split at p1
      · next hl =>
        obtain ⟨v, u, x, rfl, rv, ru, rx⟩ := r1.three
        cases rv.int
        cases ru.int
        cases rx.int
        obtain ⟨h1, h2, h3, h4⟩ := hl
        refine ⟨i, j, c, _, rfl, ⟨by omega, by omega, h3, PyProof.Rows.rangeSize_toNat i j c⟩, h4, fun q hq => p1.lst w1 (rgC_rep i c _) ?_ hq⟩
        unfold rgC; rw [List.length_map, List.length_range]; exact small_line h4
      · exact p1.elim
    · exact p1.elim⟩

/-! ### a, b = x, y; a, b, c = x, y, z: all of them data -/
def sPar2 (i j : Nat) (u : S → R (List D)) : S → RS := fun s => (u s).st fun ds s1 => match ds with
  | [a, b] => .nx { s1 with env := (s1.env.set i (.val a)).set j (.val b) }
  | _ => .bad
def sPar3 (i j l : Nat) (u : S → R (List D)) : S → RS := fun s => (u s).st fun ds s1 => match ds with
  | [a, b, c] => .nx { s1 with env := ((s1.env.set i (.val a)).set j (.val b)).set l (.val c) }
  | _ => .bad
section
variable {X : Cx} {W : WX} {i j l : Nat} {x y z : Str} {a b c : Expr} {u : S → R (List D)} {px py pz pt pos : Pos}
theorem s_par2 {kt k2 : Nat} {pt2 : Pos} (hc : X.calm = true) (hN : X.N.Nodup) (hi : X.N[i]? = some x) (hj : X.N[j]? = some y) (hij : i ≠ j)
    (hx : X.env.scope.names.lookup x = some .local) (hy : X.env.scope.names.lookup y = some .local) (ha : DA X W [a, b] u)
    (hw : swappedStores [.Tuple [.Name x px, .Name y py] kt pt] (.Tuple [a, b] k2 pt2) X.env = pure (some [x, y]) := by rfl)
    (hs : swapsWithSole [.Tuple [.Name x px, .Name y py] kt pt] (.Tuple [a, b] k2 pt2) pos.line X.env = pure false := by rfl) :
    DS X W (.Assign [.Tuple [.Name x px, .Name y py] kt pt] (.Tuple [a, b] k2 pt2) pos) (sPar2 i j u) := fun b B =>
  PS.weak (ps_par hc hN hi hj hij hx hy (ha.run b B) hw hs) fun E σ H ⟨g, s, w, p⟩ => ⟨g, s, w, (PostS.bind (RR := rrA X.K) p).imp fun vs H1 ⟨g1, s1, ds, m1, w1, r1, p1⟩ => by
    match ds, r1, p1 with
    | [], _, p1 => exact p1.elim
    | [_], _, p1 => exact p1.elim
    | [d1, d2], .cons r1 (.cons r2 .nil), p1 => exact ⟨_, _, rfl, PostS.nx p1 (.refl g1) (Wf.setVal (Wf.setVal w1 r1) r2)⟩
    | _ :: _ :: _ :: _, _, p1 => exact p1.elim⟩
theorem s_par3 {kt k2 : Nat} {pt2 : Pos} (hc : X.calm = true) (hN : X.N.Nodup) (hi : X.N[i]? = some x) (hj : X.N[j]? = some y) (hl : X.N[l]? = some z) (hij : i ≠ j) (hil : i ≠ l) (hjl : j ≠ l)
    (hx : X.env.scope.names.lookup x = some .local) (hy : X.env.scope.names.lookup y = some .local) (hz : X.env.scope.names.lookup z = some .local) (ha : DA X W [a, b, c] u)
    (hw : swappedStores [.Tuple [.Name x px, .Name y py, .Name z pz] kt pt] (.Tuple [a, b, c] k2 pt2) X.env = pure (some [x, y, z]) := by rfl)
    (hs : swapsWithSole [.Tuple [.Name x px, .Name y py, .Name z pz] kt pt] (.Tuple [a, b, c] k2 pt2) pos.line X.env = pure false := by rfl) :
    DS X W (.Assign [.Tuple [.Name x px, .Name y py, .Name z pz] kt pt] (.Tuple [a, b, c] k2 pt2) pos) (sPar3 i j l u) := fun b B =>
  PS.weak (ps_par3 hc hN hi hj hl hij hil hjl hx hy hz (ha.run b B) hw hs) fun E σ H ⟨g, s, w, p⟩ => ⟨g, s, w, (PostS.bind (RR := rrA X.K) p).imp fun vs H1 ⟨g1, s1, ds, m1, w1, r1, p1⟩ => by
    match ds, r1, p1 with
    | [], _, p1 => exact p1.elim
    | [_], _, p1 => exact p1.elim
    | [_, _], _, p1 => exact p1.elim
    | [d1, d2, d3], .cons r1 (.cons r2 (.cons r3 .nil)), p1 => exact ⟨_, _, _, rfl, PostS.nx p1 (.refl g1) (Wf.setVal (Wf.setVal (Wf.setVal w1 r1) r2) r3)⟩
    | _ :: _ :: _ :: _ :: _, _, p1 => exact p1.elim⟩
end
end DL

/-! defs bundled: what a name calls -/
namespace DL
open L2 PyProof.Rows PySem.Spec PySem

/-- the name x calls F -/
structure Cl (P : Program) (w : World) (K : PySem.W.Frag) (mg : Mg) (base : Heap) (k : Nat) (x : Str) (ps : List Str) (F : Fn) : Prop where
  ex : ∃ (f : Addr) (fd : FuncData), mg x = some (.ref f) ∧ PySem.W.keepIn K (.ref f) = true ∧ Binds K fd ps [] ∧ FnD P w K mg base k f fd ps F
section
variable {X : Cx} {W : WX} {k j : Nat} {ps : List Str} {F : Fn} {x : Str} {p pos : Pos} {e : Expr} {es : List Expr} {u : S → R (List D)}
theorem de_callC (C : Cl X.prog X.w X.K X.mg X.base k x ps F) (hr : Room j X.A) (hk : k ≤ j) (tk : Takes X W) (hg : Gl X x)
    (ha : DA X W (e :: es) u) (hl : (e :: es).length = ps.length) (hdb : (x == ("__debug__" : Str)) = false := by decide) (he : starEach (e :: es) X.env = (false, eval e X.env) :: starEach es X.env := by rfl) (hpl : (backTo pos (starEach es X.env)).any (·.1) = false := by rfl) :
    DE X W (.Call (.Name x p) (e :: es) [] pos) (dCall F u) := by
  obtain ⟨f, fd, h1, h2, h3, h4⟩ := C.ex
  exact de_call h4 (hr.mono hk) tk hg h1 h2 h3 ha hl hdb he hpl
/-- a module's int, its token unknown -/
theorem de_gintE {i : Int} (hg : Gl X x) (hm : ∃ t, X.mg x = some (.int i t)) (hd : (x == ("__debug__" : Str)) = false := by decide) : DE X W (.Name x pos) (dC (.int i)) := by
  obtain ⟨t, h⟩ := hm
  exact de_gint hg h hd
theorem de_gstrE {i : Str} (hg : Gl X x) (hm : ∃ t, X.mg x = some (.str i t)) (hd : (x == ("__debug__" : Str)) = false := by decide) : DE X W (.Name x pos) (dC (.str i)) := by
  obtain ⟨t, h⟩ := hm
  exact de_gstr hg h hd
end
section
variable {P : Program} {w : World} {K : PySem.W.Frag} {mg : Mg} {base : Heap}
theorem fnD_ok {x qual : Str} {st : Stmt} {f : Addr} {fd : FuncData} {N ps : List Str} {k : Nat} {body : S → RS} {dvs : List V} (F : FunD K x qual (defArgs st) (defBody st) (defScope st) dvs [] f fd) (Sc : FnScope N ps (defScope st))
    (hbody : ∀ (cdv : Value) (A : Around) (outer : List Env) (s : Shared) (H : Hp) (E : XK), Room k (A.deeper (envOfC qual (defScope st) s.heap.objs.size f cdv)) →
      DSs (cxOf (L2.CX P w) P w K mg base N qual (defScope st) f cdv A outer s H E) (fun cls d _ H => E cls d H) (defBody st) body) : FnD P w K mg base (k + 1) f fd ps (runF N.length body) := by
  have hpl : ps.length ≤ N.length := by have := congrArg List.length Sc.pre; rw [List.length_take] at this; omega
  refine F.ok Sc (fun vs H Q E h => h.1) fun cdv A outer s H vs Q E hr hsp => ?_
  obtain ⟨hl, g, m, ds, c, r, h⟩ := hsp
  refine ⟨_, hbody cdv A outer s H E hr g H, g, _, Wf.start c r (by omega), ?_⟩
  unfold runF at h
  revert h
  cases body ⟨ds.map Slot.val ++ List.replicate (N.length - ds.length) .no, m, m.length⟩ with
  | nx s' => exact fun h g' σ' H' mm w => h g' H' .non w.anc w.core .non
  | rt d s' => exact fun h g' σ' H' v mm w r => h g' H' v w.anc w.core r
  | exc x s' => exact fun h g' σ' H' cls dd mm w r => h g' H' cls dd w.anc w.core r
  | bk s' => exact fun h => h.elim
  | ct s' => exact fun h => h.elim
  | bad => exact fun h => h.elim
/-- all parameters of a def with defaults are written -/
theorem binds_d {x qual : Str} {params : Arguments} {body : List Stmt} {scope : Scope} {dvs : List V} {f : Addr} {fd : FuncData} {ps : List Str} (F : FunD K x qual params body scope dvs [] f fd) (n nd : Nat) (hn : n = ps.length) (hd : dvs.length = nd ∧ dvs ≠ [])
    (h : ∀ (T : Addr) (kV doc pm : Value) (an : Option Addr) (cdv ct : Value) (us its : List Value), us.length = n → its.length = nd →
      ∃ k, bindArgs (PySem.W.fnOf x qual params body scope (.ref T) kV doc pm an cdv ct) ⟨us, []⟩ = seqItems? (.ref T) >>= k ∧ k (some its.toArray) = pure (ps.zip (us ++ its.drop nd))) : Binds K fd ps [] := by
  obtain ⟨ds, h1, h2⟩ := F.binds1 n nd hd.2 (by rw [hd.1]; omega) (fun T kV doc pm an cdv ct us its e1 e2 => h T kV doc pm an cdv ct us its e1 (by rw [e2, hd.1]))
  rw [← hd.1, List.drop_length] at h1
  cases h1
  exact h2
end
end DL

/-! the law's own promise -/
namespace DL
open L2 PyProof.Rows PySem.Spec PySem

def spLaw (K : PySem.W.Frag) : Sp := fun vs H Q _ => ∃ (a : Addr) (ns : List Int), vs = [.ref a] ∧ SqL K H a (ns.map V.int) ∧ ns.length ≤ 63 ∧ Only H ∧ ∀ H', Q (.bl true) H'
theorem law_sp {K : PySem.W.Frag} {mg : Mg} {F : Fn} (h : ∀ ns : List Int, ns.length ≤ 63 → ∃ m, F [.loc (ns.map D.int)] [] = .ok (.bl true) m) (vs : List V) (H : Hp) (Q : VK) (E : XK) (hs : spLaw K vs H Q E) : SpF K mg 1 F vs H Q E := by
  obtain ⟨a, ns, rfl, hS, hl, hO, q⟩ := hs
  obtain ⟨m, e⟩ := h ns hl
  refine ⟨rfl, ⟨H, []⟩, [], [.loc (ns.map D.int)], ⟨Same.refl _, fun b o e => ?_, rfl, List.nodup_nil, fun n mo b e1 _ => by simp at e1⟩, .cons (.loc hS (Reps.ints ns)) .nil, ?_⟩
  · rcases hO b with z | ⟨o', xs, z⟩
    · rw [z] at e; cases e
    · rw [z] at e; cases e; trivial
  · rw [e]
    intro g' H' v _ _ r
    cases r
    exact q H'
theorem funD_mk {K : PySem.W.Frag} {x qual : Str} {st : Stmt} {f T : Addr} {oc cT : Value} {od an oT : Option Addr} {osl sT : Array (Option Value)} {kV doc pm cdv ct : Value} {dvs : List V} {its : List Value} {n : Nat}
    (l : K.lookup f = some ⟨oc, od, .func (PySem.W.fnOf x qual (defArgs st) (defBody st) (defScope st) (.ref T) kV doc pm an cdv ct), osl⟩)
    (c : PySem.W.codeIn K cdv qual = true) (k : PySem.W.keepIn K (.ref f) = true) (lT : K.lookup T = some ⟨cT, oT, .seq its.toArray n, sT⟩) (hd : dvs ≠ []) (hv : Vals dvs its) :
    FunD K x qual (defArgs st) (defBody st) (defScope st) dvs [] f (PySem.W.fnOf x qual (defArgs st) (defBody st) (defScope st) (.ref T) kV doc pm an cdv ct) :=
  ⟨⟨oc, od, .ref T, kV, doc, pm, an, cdv, ct, osl, rfl, l, c, .inr ⟨hd, T, _, its, n, rfl, lT, rfl, hv⟩, .inl rfl⟩, k⟩
theorem cx_no {P : Program} {w : World} {H : Hp} {s : Shared} {e : Value} {s' : Shared} (h : L2.CX P w [] H s (fun _ _ _ => False) e s') : False := by
  obtain ⟨_, _, _, _, _, _, _, _, _, _, _, _, z⟩ := h
  exact z
end DL

/-! evaluation: what simp unfolds; loops by prefixes -/
namespace DL
open L2 PyProof.Rows PySem.Spec PySem
section
variable {α β γ : Type} (s : S) (env : List Slot) (mem : List MO) (lo : Nat)
@[simp] theorem ev_bind_ok (a : α) (k : α → S → R β) : (R.ok a s).bind k = k a s := rfl
@[simp] theorem ev_bind_exc (x : Ex) (k : α → S → R β) : (R.exc x s : R α).bind k = .exc x s := rfl
@[simp] theorem ev_bind_bad (k : α → S → R β) : (R.bad : R α).bind k = .bad := rfl
@[simp] theorem ev_st_ok (a : α) (k : α → S → RS) : (R.ok a s).st k = k a s := rfl
@[simp] theorem ev_st_exc (x : Ex) (k : α → S → RS) : (R.exc x s : R α).st k = .exc x s := rfl
@[simp] theorem ev_st_bad (k : α → S → RS) : (R.bad : R α).st k = .bad := rfl
@[simp] theorem ev_then_nx (k : S → RS) : (RS.nx s).then k = k s := rfl
@[simp] theorem ev_then_rt (d : D) (k : S → RS) : (RS.rt d s).then k = .rt d s := rfl
@[simp] theorem ev_then_bk (k : S → RS) : (RS.bk s).then k = .bk s := rfl
@[simp] theorem ev_then_ct (k : S → RS) : (RS.ct s).then k = .ct s := rfl
@[simp] theorem ev_then_exc (x : Ex) (k : S → RS) : (RS.exc x s).then k = .exc x s := rfl
@[simp] theorem ev_of_some (a : α) : R.of (some a) s = .ok a s := rfl
@[simp] theorem ev_nox_ok (a : α) : (R.ok a s).nox = .ok a s := rfl
@[simp] theorem ev_sNil : sNil s = .nx s := rfl
@[simp] theorem ev_sSeq (t u : S → RS) : sSeq t u s = (t s).then u := rfl
@[simp] theorem ev_sBreak : sBreak s = .bk s := rfl
@[simp] theorem ev_sCont : sCont s = .ct s := rfl
@[simp] theorem ev_sRet (t : S → R D) : sRet t s = (t s).st fun d s1 => .rt d s1 := rfl
@[simp] theorem ev_sExpr (t : S → R D) : sExpr t s = (t s).st fun _ s1 => .nx s1 := rfl
@[simp] theorem ev_sIf (c : S → R Bool) (t u : S → RS) : sIf c t u s = (c s).st fun k s1 => if k = true then t s1 else u s1 := rfl
@[simp] theorem ev_sSet (i : Nat) (t : S → R D) : sSet i t s = (t s).st fun d s1 => .nx ⟨s1.env.set i (.val d), s1.mem, s1.lo⟩ := rfl
@[simp] theorem ev_sOwn (i : Nat) (t : S → R MO) : sOwn i t s = (t s).st fun d s1 => .nx ⟨s1.env.set i (.own d), s1.mem, s1.lo⟩ := rfl
@[simp] theorem ev_sAsg (t : S → R D) (u : D → S → R Unit) : sAsg t u s = (t s).st fun d s1 => (u d s1).st fun _ s2 => .nx s2 := rfl
@[simp] theorem ev_gSet (i : Nat) (d : D) : gSet i d s = .ok () ⟨s.env.set i (.val d), s.mem, s.lo⟩ := rfl
@[simp] theorem ev_gNone : gNone [] s = .ok () s := rfl
@[simp] theorem ev_gAnd (t : D → S → R Unit) (u : List D → S → R Unit) (d : D) (r : List D) : gAnd t u (d :: r) s = (t d s).bind fun _ s1 => u r s1 := rfl
@[simp] theorem ev_gTake_tup (n : Nat) (u : List D → S → R Unit) (ds : List D) : gTake n u (.tup ds) s = if ds.length = n then u ds s else .bad := rfl
@[simp] theorem ev_gTake_lst (n : Nat) (u : List D → S → R Unit) (ds : List D) : gTake n u (.lst ds) s = if ds.length = n then u ds s else .bad := rfl
@[simp] theorem ev_dC (d : D) : dC d s = .ok d s := rfl
theorem ev_dPk_val {i : Nat} {d : D} (h : env[i]? = some (.val d)) : dPk i ⟨env, mem, lo⟩ = .ok (.d d) ⟨env, mem, lo⟩ := by unfold dPk; simp only [h]
@[simp] theorem ev_dPk (i : Nat) : dPk i ⟨env, mem, lo⟩ = match env[i]? with | some (.val d) => .ok (.d d) ⟨env, mem, lo⟩ | some (.own _) => .ok (.own i) ⟨env, mem, lo⟩ | _ => .bad := rfl
@[simp] theorem ev_dVar (i : Nat) : dVar i ⟨env, mem, lo⟩ = match env[i]? with | some (.val d) => .ok d ⟨env, mem, lo⟩ | some (.own m) => (if m.plain then .ok m.d ⟨env.set i (.val m.d), mem, lo⟩ else .bad) | _ => .bad := rfl
@[simp] theorem ev_plain_lst (xs : List D) : (MO.lst xs).plain = true := rfl
@[simp] theorem ev_plain_dic (xs : List (Key × D)) : (MO.dic xs).plain = true := rfl
@[simp] theorem ev_d_lst (xs : List D) : (MO.lst xs).d = .lst xs := rfl
@[simp] theorem ev_hD (t : S → R D) : hD t s = (t s).bind fun d s1 => .ok (.d d) s1 := rfl
@[simp] theorem ev_two (ta : S → R α) (tb : S → R β) (f : α → β → S → R γ) : two ta tb f s = (ta s).bind fun x s1 => (tb s1).bind fun y s2 => f x y s2 := rfl
@[simp] theorem ev_one (ta : S → R α) (f : α → S → R γ) : one ta f s = (ta s).bind fun x s1 => f x s1 := rfl
@[simp] theorem ev_asB (t : S → R D) : asB t s = (t s).bind fun d s1 => match d with | .bl c => .ok c s1 | _ => .bad := rfl
@[simp] theorem ev_tru (t : S → R Hd) : tru t s = (t s).bind fun h s1 => .of (truth h s1) s1 := rfl
@[simp] theorem ev_tAnd (t u : S → R Bool) : tAnd t u s = (t s).bind fun c s1 => if c = true then u s1 else .ok false s1 := rfl
@[simp] theorem ev_tOr (t u : S → R Bool) : tOr t u s = (t s).bind fun c s1 => if c = true then .ok true s1 else u s1 := rfl
@[simp] theorem ev_tNot (t : S → R Bool) : tNot t s = (t s).bind fun c s1 => .ok (!c) s1 := rfl
@[simp] theorem ev_dOr (t u : S → R D) : dOr t u s = (t s).bind fun d s1 => (R.of (truth (.d d) s1) s1).bind fun c s2 => if c = true then .ok d s2 else u s2 := rfl
@[simp] theorem ev_dAnd (t u : S → R D) : dAnd t u s = (t s).bind fun d s1 => (R.of (truth (.d d) s1) s1).bind fun c s2 => if c = true then u s2 else .ok d s2 := rfl
@[simp] theorem ev_dNot (t : S → R Hd) : dNot t s = (tru t s).bind fun c s1 => .ok (.bl (!c)) s1 := rfl
@[simp] theorem ev_dIf (t : S → R Bool) (ta tb : S → R D) : dIf t ta tb s = (t s).bind fun c s1 => if c = true then ta s1 else tb s1 := rfl
@[simp] theorem ev_chain (ta tb : S → R Hd) (f : Hd → Hd → S → R D) (tc : S → R Hd) (f' : Hd → Hd → S → R D) : chain ta tb f tc f' s =
  (ta s).bind fun x s1 => (tb s1).bind fun y s2 => (f x y s2).bind fun d s3 => match d with
    | .bl true => (tc s3).bind fun z s4 => f' y z s4
    | .bl false => .ok (.bl false) s3
    | _ => .bad := rfl
@[simp] theorem ev_aNil : aNil s = .ok [] s := rfl
@[simp] theorem ev_aCons (t : S → R D) (u : S → R (List D)) : aCons t u s = (t s).bind fun d s1 => (u s1).bind fun ds s2 => .ok (d :: ds) s2 := rfl
@[simp] theorem ev_hNil : hNil s = .ok [] s := rfl
@[simp] theorem ev_hCons (t : S → R Hd) (u : S → R (List Hd)) : hCons t u s = (t s).bind fun d s1 => (u s1).bind fun ds s2 => .ok (d :: ds) s2 := rfl
@[simp] theorem ev_call (u : S → R (List Hd)) (f : List Hd → S → R γ) : call u f s = (u s).bind fun hs s1 => f hs s1 := rfl
@[simp] theorem ev_dCall (F : Fn) (u : S → R (List D)) : dCall F u s = (u s).bind fun ds s1 => (F ds s1.mem).toR s1 := rfl
@[simp] theorem ev_toR_ok (d : D) (m : List MO) : (O.ok d m).toR s = .ok d ⟨s.env, m, s.lo⟩ := rfl
@[simp] theorem ev_dTup (u : S → R (List D)) : dTup u s = (u s).bind fun ds s1 => .ok (.tup ds) s1 := rfl
@[simp] theorem ev_fLst (u : S → R (List D)) : fLst u s = (u s).bind fun ds s1 => .ok (.lst ds) s1 := rfl
@[simp] theorem ev_fz (t : S → R MO) : fz t s = (t s).bind fun m s1 => if m.plain then .ok m.d s1 else .bad := rfl
@[simp] theorem ev_lay (t : S → R MO) : lay t s = (t s).bind fun m s1 => .ok (.ref s1.mem.length) ⟨s1.env, s1.mem ++ [m], s1.lo⟩ := rfl
@[simp] theorem ev_ii (f : Int → Int → Option D) (i j : Int) : ii f (.d (.int i)) (.d (.int j)) s = .of (f i j) s := rfl
@[simp] theorem ev_i1 (f : Int → D) (i : Int) : i1 f (.d (.int i)) s = .ok (f i) s := rfl
@[simp] theorem ev_addI (i j : Int) : addH (.d (.int i)) (.d (.int j)) s = .ok (.int (i + j)) s := rfl
@[simp] theorem ev_mulI (i j : Int) : mulH (.d (.int i)) (.d (.int j)) s = if i.natAbs.log2 + j.natAbs.log2 < 1000000 then .ok (.int (i * j)) s else .bad := rfl
@[simp] theorem ev_isn (neg : Bool) (d : D) : isnH neg (.d d) (.d .non) s = .ok (.bl (isNone (.d d) != neg)) s := rfl
@[simp] theorem ev_isNone_non : isNone (.d .non) = true := rfl
@[simp] theorem ev_isNone_int (i : Int) : isNone (.d (.int i)) = false := rfl
@[simp] theorem ev_isNone_lst (i : List D) : isNone (.d (.lst i)) = false := rfl
@[simp] theorem ev_isNone_ref (i : Nat) : isNone (.d (.ref i)) = false := rfl
@[simp] theorem ev_isb (neg : Bool) (a c : Bool) : isbH neg (.d (.bl a)) (.d (.bl c)) s = .ok (.bl (decide (a = c) != neg)) s := rfl
@[simp] theorem ev_tr_non : truth (.d .non) s = some false := rfl
@[simp] theorem ev_tr_bl (c : Bool) : truth (.d (.bl c)) s = some c := rfl
@[simp] theorem ev_tr_int (i : Int) : truth (.d (.int i)) s = some (i != 0) := rfl
@[simp] theorem ev_tr_tup (xs : List D) : truth (.d (.tup xs)) s = some (!xs.isEmpty) := rfl
@[simp] theorem ev_tr_lst (xs : List D) : truth (.d (.lst xs)) s = some (!xs.isEmpty) := rfl
@[simp] theorem ev_tr_ref (n : Nat) : truth (.d (.ref n)) s = match s.mem[n]? with | some (.lst xs) => some (!xs.isEmpty) | some (.dic kvs) => some (!kvs.isEmpty) | _ => none := rfl
@[simp] theorem ev_tr_own (n : Nat) : truth (.own n) s = match holds (.own n) s with | some (.lst xs) => some (!xs.isEmpty) | some (.dic kvs) => some (!kvs.isEmpty) | _ => none := rfl
@[simp] theorem ev_holds_lst (xs : List D) : holds (.d (.lst xs)) s = some (.lst xs) := rfl
@[simp] theorem ev_holds_ref (n : Nat) : holds (.d (.ref n)) s = s.mem[n]? := rfl
@[simp] theorem ev_holds_own (n : Nat) : holds (.own n) ⟨env, mem, lo⟩ = match env[n]? with | some (.own m) => some m | _ => none := rfl
@[simp] theorem ev_mine_ref (n : Nat) : mine (.d (.ref n)) s = s.mem[n]? := rfl
@[simp] theorem ev_mine_own (n : Nat) : mine (.own n) ⟨env, mem, lo⟩ = match env[n]? with | some (.own m) => some m | _ => none := rfl
@[simp] theorem ev_put_ref (n : Nat) (m : MO) : put (.d (.ref n)) m s = ⟨s.env, s.mem.set n m, s.lo⟩ := rfl
@[simp] theorem ev_put_own (n : Nat) (m : MO) : put (.own n) m s = ⟨s.env.set n (.own m), s.mem, s.lo⟩ := rfl
@[simp] theorem ev_seq_tup (xs : List D) : seqOf (.d (.tup xs)) s = some xs := rfl
@[simp] theorem ev_seq_lst (xs : List D) : seqOf (.d (.lst xs)) s = some xs := rfl
@[simp] theorem ev_seq_ref (n : Nat) : seqOf (.d (.ref n)) s = match s.mem[n]? with | some (.lst xs) => some xs | _ => none := rfl
@[simp] theorem ev_seq_own (n : Nat) : seqOf (.own n) ⟨env, mem, lo⟩ = match (match env[n]? with | some (.own m) => some m | _ => none) with | some (.lst xs) => some xs | _ => none := rfl
@[simp] theorem ev_len_lst (xs : List D) : lenH [.d (.lst xs)] s = .ok (.int xs.length) s := rfl
@[simp] theorem ev_len_tup (xs : List D) : lenH [.d (.tup xs)] s = .ok (.int xs.length) s := rfl
@[simp] theorem ev_len_loc (xs : List D) : lenH [.d (.loc xs)] s = .ok (.int xs.length) s := rfl
@[simp] theorem ev_len_ref (n : Nat) : lenH [.d (.ref n)] s = match seqOf (.d (.ref n)) s with | some xs => .ok (.int xs.length) s | none => .bad := rfl
@[simp] theorem ev_len_own (n : Nat) : lenH [.own n] s = match seqOf (.own n) s with | some xs => .ok (.int xs.length) s | none => .bad := rfl
@[simp] theorem ev_list (h : Hd) : listF [h] s = match seqOf h s with | some xs => .ok (.lst xs) s | none => .bad := rfl
@[simp] theorem ev_ix_lst (xs : List D) (i : Int) : ixH (.d (.lst xs)) (.d (.int i)) s = .of (atI xs i) s := rfl
@[simp] theorem ev_ix_tup (xs : List D) (i : Int) : ixH (.d (.tup xs)) (.d (.int i)) s = .of (atI xs i) s := rfl
@[simp] theorem ev_ix_loc (xs : List D) (i : Int) : ixH (.d (.loc xs)) (.d (.int i)) s = .of (atI xs i) s := rfl
@[simp] theorem ev_ix_ref (n : Nat) (i : Int) : ixH (.d (.ref n)) (.d (.int i)) s = match seqOf (.d (.ref n)) s with | some xs => .of (atI xs i) s | none => .bad := rfl
@[simp] theorem ev_ix_own (n : Nat) (i : Int) : ixH (.own n) (.d (.int i)) s = match seqOf (.own n) s with | some xs => .of (atI xs i) s | none => .bad := rfl
@[simp] theorem ev_max2 (i j : Int) : max2 [.d (.int i), .d (.int j)] s = .ok (.int (if j > i then j else i)) s := rfl
@[simp] theorem ev_min2 (i j : Int) : min2 [.d (.int i), .d (.int j)] s = .ok (.int (if j < i then j else i)) s := rfl
@[simp] theorem ev_abs1 (i : Int) : abs1 [.d (.int i)] s = .ok (.int (if i < 0 then -i else i)) s := rfl
@[simp] theorem ev_int_bl (k : Bool) : intH [.d (.bl k)] s = .ok (.int (if k then 1 else 0)) s := rfl
@[simp] theorem ev_int_int (k : Int) : intH [.d (.int k)] s = .ok (.int k) s := rfl
@[simp] theorem ev_isiD (cs : List Ty) (t : S → R Hd) : isiD cs t s = (t s).bind fun h s1 => match tyH h s1 with | some a => .ok (.bl (cs.any a.isT)) s1 | none => .bad := rfl
@[simp] theorem ev_ty_non : tyH (.d .non) s = some .non := rfl
@[simp] theorem ev_ty_bl (c : Bool) : tyH (.d (.bl c)) s = some .bl := rfl
@[simp] theorem ev_ty_int (c : Int) : tyH (.d (.int c)) s = some .int := rfl
@[simp] theorem ev_ty_str (c : Str) : tyH (.d (.str c)) s = some .str := rfl
@[simp] theorem ev_ty_tup (c : List D) : tyH (.d (.tup c)) s = some .tup := rfl
@[simp] theorem ev_ty_lst (c : List D) : tyH (.d (.lst c)) s = some .lst := rfl
@[simp] theorem ev_ty_loc (c : List D) : tyH (.d (.loc c)) s = some .lst := rfl
@[simp] theorem ev_ty_ref (n : Nat) : tyH (.d (.ref n)) s = (s.mem[n]?).bind MO.ty := rfl
@[simp] theorem ev_moty (xs : List D) : (MO.lst xs).ty = some .lst := rfl
@[simp] theorem ev_dApp (to : S → R Hd) (ta : S → R D) : dApp to ta s = (to s).bind fun h s1 => match mine h s1 with
  | some (.lst _) => (ta s1).bind fun d s2 => (match mine h s2 with
    | some (.lst xs) => if xs.length < sizeLine then .ok .non (put h (.lst (xs ++ [d])) s2) else .bad
    | _ => .bad)
  | _ => .bad := rfl
@[simp] theorem ev_sPut (f : MO → D → D → Option MO) (tv : S → R D) (to : S → R Hd) (ti : S → R D) : sPut f tv to ti s = (tv s).st fun v s1 => (to s1).st fun h s2 => (ti s2).st fun k s3 => match mine h s3 with
  | some m => (match f m k v with
    | some m' => .nx (put h m' s3)
    | none => .bad)
  | none => .bad := rfl
@[simp] theorem ev_setL (xs : List D) (j : Int) (v : D) : setL (.lst xs) (.int j) v = (ixN xs.length j).map fun n => .lst (xs.set n v) := rfl
@[simp] theorem ev_iSeq (t : S → R Hd) : iSeq t s = (t s).bind srcOf := rfl
@[simp] theorem ev_src_lst (xs : List D) : srcOf (.d (.lst xs)) s = .ok ⟨xs, [], []⟩ s := rfl
@[simp] theorem ev_src_tup (xs : List D) : srcOf (.d (.tup xs)) s = .ok ⟨xs, [], []⟩ s := rfl
@[simp] theorem ev_src_ref (n : Nat) : srcOf (.d (.ref n)) s = match s.mem[n]? with | some (.lst xs) => .ok ⟨xs, [n], [xs]⟩ s | _ => .bad := rfl
@[simp] theorem ev_iCall (u : S → R (List Hd)) (f : List Hd → S → R Src) : iCall u f s = (u s).bind f := rfl
@[simp] theorem ev_sFor (t : S → R Src) (u : D → S → R Unit) (body : S → RS) : sFor t u body s = (t s).st fun r s1 => forGo r u body r.items s1 := rfl
@[simp] theorem ev_fComp (t : S → R Src) (vs : List Nat) (u : D → S → R Unit) (tt : S → R Bool) (te : S → R D) : fComp t vs u tt te s = (t s).bind fun r s1 =>
  (compGo r (wipeE (s1.env.map Slot.pub) vs) u tt te r.items [] s1.mem).bind fun ys s2 => .ok (.lst ys) ⟨s1.env, s2.mem, s1.lo⟩ := rfl
@[simp] theorem ev_tAll : tAll s = .ok true s := rfl
@[simp] theorem ev_pub_val (d : D) : (Slot.val d).pub = .val d := rfl
@[simp] theorem ev_pub_own (d : MO) : (Slot.own d).pub = .no := rfl
@[simp] theorem ev_pub_no : Slot.no.pub = .no := rfl
@[simp] theorem ev_wipe_nil : wipeE env [] = env := rfl
@[simp] theorem ev_wipe_cons (v : Nat) (vs : List Nat) : wipeE env (v :: vs) = (wipeE env vs).set v .no := rfl
@[simp] theorem ev_blk : blkS env mem = ⟨env, mem, mem.length⟩ := rfl
end
/-- one turn of a for -/
def turnB (u : D → S → R Unit) (body : S → RS) (d : D) (s : S) : RS := (u d s).st fun _ s1 => match body s1 with
  | .ct s2 => .nx s2
  | x => x
@[simp] theorem ok_nil (xs : List D) (s : S) : (Src.mk xs [] []).ok s := rfl
theorem forGo_cons {r : Src} {u : D → S → R Unit} {body : S → RS} {d : D} {ds : List D} {s : S} (ok : r.ok s) : forGo r u body (d :: ds) s = match turnB u body d s with
    | .nx s2 => forGo r u body ds s2
    | .bk s2 => .nx s2
    | x => x := by
  rw [forGo, if_pos ok]
  unfold turnB
  cases u d s with
  | exc x s1 => rfl
  | bad => rfl
  | ok a s1 =>
    simp only [ev_st_ok]
    cases body s1 <;> rfl
theorem forGo_nil {r : Src} {u : D → S → R Unit} {body : S → RS} {s : S} (ok : r.ok s) : forGo r u body [] s = .nx s := by
  rw [forGo, if_pos ok]
/-- a walk by what holds of what has been walked -/
theorem for_pre {α : Type} {r : Src} {u : D → S → R Unit} {body : S → RS} (f : α → D) (I : List α → S → Prop) (ok : ∀ p s, I p s → r.ok s) : ∀ (q p : List α) (s : S),
    (∀ p' a q' s, p ++ q = p' ++ a :: q' → I p' s → ∃ s', turnB u body (f a) s = .nx s' ∧ I (p' ++ [a]) s') → I p s → ∃ s', forGo r u body (q.map f) s = .nx s' ∧ I (p ++ q) s'
  | [], p, s, _, h => ⟨s, forGo_nil (ok _ _ h), by rw [List.append_nil]; exact h⟩
  | a :: q, p, s, st, h => by
    obtain ⟨s', e, h'⟩ := st p a q s rfl h
    obtain ⟨s2, e2, h2⟩ := for_pre f I ok q (p ++ [a]) s' (fun p' b q' s he => st p' b q' s (by rw [← he]; simp)) h'
    refine ⟨s2, ?_, by simpa using h2⟩
    rw [List.map_cons, forGo_cons (ok _ _ h), e]
    exact e2
theorem for_all {α : Type} {r : Src} {u : D → S → R Unit} {body : S → RS} (f : α → D) (I : List α → S → Prop) (l : List α) (ok : ∀ p s, I p s → r.ok s) {s : S}
    (st : ∀ p a q s, l = p ++ a :: q → I p s → ∃ s', turnB u body (f a) s = .nx s' ∧ I (p ++ [a]) s') (h : I [] s) : ∃ s', forGo r u body (l.map f) s = .nx s' ∧ I l s' := by
  have := for_pre f I ok l [] s (fun p' a q' s he => st p' a q' s (by simpa using he)) h
  simpa using this
/-- a walk that may end early by a return -/
theorem for_ret {α : Type} {r : Src} {u : D → S → R Unit} {body : S → RS} (f : α → D) (I : List α → S → Prop) (Z : D → S → Prop) (ok : ∀ p s, I p s → r.ok s) : ∀ (q p : List α) (s : S),
    (∀ p' a q' s, p ++ q = p' ++ a :: q' → I p' s → (∃ s', turnB u body (f a) s = .nx s' ∧ I (p' ++ [a]) s') ∨ ∃ d s', turnB u body (f a) s = .rt d s' ∧ Z d s') → I p s →
      (∃ s', forGo r u body (q.map f) s = .nx s' ∧ I (p ++ q) s') ∨ ∃ d s', forGo r u body (q.map f) s = .rt d s' ∧ Z d s'
  | [], p, s, _, h => .inl ⟨s, forGo_nil (ok _ _ h), by rw [List.append_nil]; exact h⟩
  | a :: q, p, s, st, h => by
    rcases st p a q s rfl h with ⟨s', e, h'⟩ | ⟨d, s', e, z⟩
    · rw [List.map_cons, forGo_cons (ok _ _ h), e]
      have k := for_ret f I Z ok q (p ++ [a]) s' (fun p' b q' s he => st p' b q' s (by rw [← he]; simp)) h'
      simpa using k
    · rw [List.map_cons, forGo_cons (ok _ _ h), e]
      exact .inr ⟨d, s', rfl, z⟩
/-- one element of a comprehension: dropped, or kept -/
noncomputable def elemB (env : List Slot) (u : D → S → R Unit) (tt : S → R Bool) (te : S → R D) (d : D) (m : List MO) : R (Option D) :=
  (u d (blkS env m)).bind fun _ s1 => (tt s1).nox.bind fun c s2 => if c = true then (te s2).nox.bind fun y s3 => .ok (some y) s3 else .ok none s2
theorem compGo_cons {r : Src} {env : List Slot} {u : D → S → R Unit} {tt : S → R Bool} {te : S → R D} {d : D} {ds acc : List D} {m : List MO} (ok : r.ok (blkS env m)) : compGo r env u tt te (d :: ds) acc m = (elemB env u tt te d m).bind fun o s =>
    match o with
    | some y => compGo r env u tt te ds (acc ++ [y]) s.mem
    | none => compGo r env u tt te ds acc s.mem := by
  rw [compGo, if_pos ok]
  unfold elemB
  cases u d (blkS env m) with
  | exc x s1 => rfl
  | bad => rfl
  | ok a s1 =>
    simp only [ev_bind_ok]
    cases (tt s1).nox with
    | exc x s1 => rfl
    | bad => rfl
    | ok c s2 =>
      simp only [ev_bind_ok]
      cases c with
      | false => rfl
      | true =>
        simp only [if_true]
        cases (te s2).nox <;> rfl
theorem compGo_nil {r : Src} {env : List Slot} {u : D → S → R Unit} {tt : S → R Bool} {te : S → R D} {acc : List D} {m : List MO} (ok : r.ok (blkS env m)) : compGo r env u tt te [] acc m = .ok acc (blkS env m) := by
  rw [compGo, if_pos ok]
theorem comp_pre {α : Type} {r : Src} {env : List Slot} {u : D → S → R Unit} {tt : S → R Bool} {te : S → R D} (f : α → D) (I : List α → List D → List MO → Prop) (ok : ∀ p y m, I p y m → r.ok (blkS env m)) : ∀ (q p : List α) (y : List D) (m : List MO),
    (∀ p' a q' y m, p ++ q = p' ++ a :: q' → I p' y m → ∃ o s', elemB env u tt te (f a) m = .ok o s' ∧ I (p' ++ [a]) (y ++ o.toList) s'.mem) → I p y m →
      ∃ y' m', compGo r env u tt te (q.map f) y m = .ok y' (blkS env m') ∧ I (p ++ q) y' m'
  | [], p, y, m, _, h => ⟨y, m, compGo_nil (ok _ _ _ h), by rw [List.append_nil]; exact h⟩
  | a :: q, p, y, m, st, h => by
    obtain ⟨o, s', e, h'⟩ := st p a q y m rfl h
    obtain ⟨y2, m2, e2, h2⟩ := comp_pre f I ok q (p ++ [a]) (y ++ o.toList) s'.mem (fun p' b q' y m he => st p' b q' y m (by rw [← he]; simp)) h'
    refine ⟨y2, m2, ?_, by simpa using h2⟩
    rw [List.map_cons, compGo_cons (ok _ _ _ h), e]
    cases o with
    | none => simpa using e2
    | some x => simpa using e2
/-- a comprehension that maps, the store as it was -/
theorem comp_map {α : Type} {r : Src} {env : List Slot} {u : D → S → R Unit} {tt : S → R Bool} {te : S → R D} (f : α → D) (g : α → D) {l : List α} {m : List MO} (ok : r.ok (blkS env m))
    (st : ∀ a, a ∈ l → ∃ s', elemB env u tt te (f a) m = .ok (some (g a)) s' ∧ s'.mem = m) : compGo r env u tt te (l.map f) [] m = .ok (l.map g) (blkS env m) := by
  obtain ⟨y, m', e, h⟩ := comp_pre (r := r) (env := env) (u := u) (tt := tt) (te := te) f (fun p y m' => y = p.map g ∧ m' = m) (fun p y m' h => by rw [h.2]; exact ok) l [] [] m (fun p' a q' y m' he h => by
    obtain ⟨rfl, rfl⟩ := h
    obtain ⟨s', e, hm⟩ := st a (by simp at he; rw [he]; simp)
    exact ⟨some (g a), s', e, by simp, hm⟩) ⟨rfl, rfl⟩
  obtain ⟨rfl, rfl⟩ := h
  simpa using e
/-- .. with a test -/
theorem comp_filter {α : Type} {r : Src} {env : List Slot} {u : D → S → R Unit} {tt : S → R Bool} {te : S → R D} (f : α → D) (g : α → Option D) {l : List α} {m : List MO} (ok : r.ok (blkS env m))
    (st : ∀ a, a ∈ l → ∃ s', elemB env u tt te (f a) m = .ok (g a) s' ∧ s'.mem = m) : compGo r env u tt te (l.map f) [] m = .ok (l.filterMap g) (blkS env m) := by
  obtain ⟨y, m', e, h⟩ := comp_pre (r := r) (env := env) (u := u) (tt := tt) (te := te) f (fun p y m' => y = p.filterMap g ∧ m' = m) (fun p y m' h => by rw [h.2]; exact ok) l [] [] m (fun p' a q' y m' he h => by
    obtain ⟨rfl, rfl⟩ := h
    obtain ⟨s', e, hm⟩ := st a (by simp at he; rw [he]; simp)
    refine ⟨g a, s', e, ?_, hm⟩
    rw [List.filterMap_append]
    cases q : g a with
    | none => simp [q]
    | some y => simp [q]) ⟨rfl, rfl⟩
  obtain ⟨rfl, rfl⟩ := h
  simpa using e
@[simp] theorem ev_runF (n : Nat) (body : S → RS) (ds : List D) (m : List MO) : runF n body ds m = match body ⟨ds.map Slot.val ++ List.replicate (n - ds.length) .no, m, m.length⟩ with
  | .nx s => .ok .non s.mem
  | .rt d s => .ok d s.mem
  | .exc x s => .exc x s.mem
  | _ => .bad := rfl
def enumG : List Hd → S → R Src := fun hs s => if hs.all isL then enumS hs s else .bad
@[simp] theorem ev_enum_lst (xs : List D) (s : S) : enumG [.d (.lst xs)] s = .ok ⟨enumItems xs, [], []⟩ s := rfl
@[simp] theorem ev_enum_ref (n : Nat) (s : S) : enumG [.d (.ref n)] s = match s.mem[n]? with | some (.lst xs) => .ok ⟨enumItems xs, [n], [xs]⟩ s | _ => .bad := by
  show (srcOf (.d (.ref n)) s).bind _ = _
  rw [ev_src_ref]
  cases s.mem[n]? with
  | none => rfl
  | some m => cases m <;> rfl
@[simp] theorem ev_zip_ll (xs ys : List D) (s : S) : zipS [.d (.lst xs), .d (.lst ys)] s = .ok ⟨zipItems xs ys, [], []⟩ s := rfl
@[simp] theorem ev_zip_lr (xs : List D) (n : Nat) (s : S) : zipS [.d (.lst xs), .d (.ref n)] s = match s.mem[n]? with | some (.lst ys) => .ok ⟨zipItems xs ys, [n], [ys]⟩ s | _ => .bad := by
  show (srcOf (.d (.ref n)) s).bind _ = _
  rw [ev_src_ref]
  cases s.mem[n]? with
  | none => rfl
  | some m => cases m <;> rfl
@[simp] theorem ok_one (xs : List D) (n : Nat) (ys : List D) (s : S) : (Src.mk xs [n] [ys]).ok s ↔ s.mem[n]? = some (.lst ys) := by
  unfold Src.ok
  simp
theorem rngItems01 (n : Nat) : rngItems 0 1 n = (List.range n).map fun i => D.int (i : Nat) := by
  unfold rngItems
  simp
theorem rng1_nat {n : Nat} (h : n ≤ 16777216) (s : S) : rng1 [.d (.int (n : Nat))] s = .ok ⟨(List.range n).map fun i => D.int (i : Nat), [], []⟩ s := by
  unfold rng1
  simp only
  rw [if_pos ⟨by omega, by omega⟩, Int.toNat_natCast, rngItems01]
@[simp] theorem or_nil (xs : List D) (s : S) : (if xs = [] then R.ok (D.lst []) s else R.ok (D.lst xs) s) = R.ok (D.lst xs) s := by
  split
  · next h => rw [h]
  · rfl
@[simp] theorem or_nil' (xs : List D) (s : S) : (if xs.isEmpty = true then R.ok (D.lst []) s else R.ok (D.lst xs) s) = R.ok (D.lst xs) s := by
  cases xs <;> rfl
@[simp] theorem or_nil2 {α : Type} (f : α → D) (xs : List α) (s : S) : (if xs = [] then R.ok (D.lst []) s else R.ok (D.lst (xs.map f)) s) = R.ok (D.lst (xs.map f)) s := by
  cases xs with
  | nil => rfl
  | cons a r => simp
theorem enumItems_map {α : Type} (f : α → D) (l : List α) : enumItems (l.map f) = l.zipIdx.map fun a => .tup [.int (a.2 : Nat), f a.1] := by
  unfold enumItems
  apply List.ext_getElem?
  intro i
  simp [List.getElem?_mapIdx, List.getElem?_zipIdx]
  cases l[i]? <;> simp
theorem zipItems_map {α β : Type} (f : α → D) (g : β → D) (l : List α) (r : List β) : zipItems (l.map f) (r.map g) = (l.zip r).map fun a => .tup [f a.1, g a.2] := by
  unfold zipItems
  apply List.ext_getElem?
  intro i
  rw [List.zip, List.map_zipWith]
  simp [List.getElem?_zipWith]
/-! places -/
theorem atI_nat' {α : Type} (xs : List α) (k : Nat) : atI xs (k : Int) = xs[k]? := by
  unfold atI ixN
  rw [if_pos (by omega)]
  by_cases h : k < xs.length
  · rw [if_pos (by omega)]; simp
  · rw [if_neg (by omega)]; simp [h]
@[simp] theorem atI_mod {α : Type} (xs : List α) (k n : Nat) : atI xs ((k : Int) % (n : Int)) = xs[k % n]? := by
  rw [show ((k : Int) % (n : Int)) = ((k % n : Nat) : Int) by simp, atI_nat']
theorem ixN_nat {n k : Nat} (h : k < n) : ixN n (k : Int) = some k := by
  unfold ixN
  rw [if_pos (by omega), if_pos (by omega)]; simp
@[simp] theorem atI_zero {α : Type} (xs : List α) : atI xs 0 = xs[0]? := atI_nat' xs 0
@[simp] theorem atI_one {α : Type} (xs : List α) : atI xs 1 = xs[1]? := atI_nat' xs 1
@[simp] theorem atI_two {α : Type} (xs : List α) : atI xs 2 = xs[2]? := atI_nat' xs 2
@[simp] theorem get_app0 {α : Type} (m l : List α) : (m ++ l)[m.length]? = l[0]? := by rw [List.getElem?_append_right (Nat.le_refl _), Nat.sub_self]
@[simp] theorem get_app {α : Type} (m l : List α) (i : Nat) : (m ++ l)[m.length + i]? = l[i]? := by rw [List.getElem?_append_right (Nat.le_add_right _ _), Nat.add_sub_cancel_left]
@[simp] theorem set_app0 {α : Type} (m l : List α) (x : α) : (m ++ l).set m.length x = m ++ l.set 0 x := by rw [List.set_append_right _ _ (Nat.le_refl _), Nat.sub_self]
@[simp] theorem set_app {α : Type} (m l : List α) (i : Nat) (x : α) : (m ++ l).set (m.length + i) x = m ++ l.set i x := by rw [List.set_append_right _ _ (Nat.le_add_right _ _), Nat.add_sub_cancel_left]
/-! == of data that is met most -/
@[simp] theorem eq_int (neg : Bool) (i j : Int) (s : S) : eqH neg (.d (.int i)) (.d (.int j)) s = .ok (.bl ((i == j) != neg)) s := by
  have e : eqO (.d (.int i)) (.d (.int j)) s = some (i == j) := by
    show (if SeqAt.shaped (.int i) && SeqAt.shaped (.int j) then some (PyData.eqv (.int i) (.int j)) else none) = _
    rw [if_pos (by simp [SeqAt.shaped, PyData.canLay0, PyData.depth])]
    simp [PyData.eqv]
  unfold eqH
  rw [e]; rfl
@[simp] theorem eq_int_non (neg : Bool) (i : Int) (s : S) : eqH neg (.d (.int i)) (.d .non) s = .ok (.bl neg) s := by
  have e : eqO (.d (.int i)) (.d .non) s = some false := by
    show (if SeqAt.shaped (.int i) && SeqAt.shaped .none then some (PyData.eqv (.int i) .none) else none) = _
    rw [if_pos (by simp [SeqAt.shaped, PyData.canLay0, PyData.depth])]
    simp [PyData.eqv]
  unfold eqH
  rw [e]; cases neg <;> rfl
@[simp] theorem eq_non_int (neg : Bool) (i : Int) (s : S) : eqH neg (.d .non) (.d (.int i)) s = .ok (.bl neg) s := by
  have e : eqO (.d .non) (.d (.int i)) s = some false := by
    show (if SeqAt.shaped .none && SeqAt.shaped (.int i) then some (PyData.eqv .none (.int i)) else none) = _
    rw [if_pos (by simp [SeqAt.shaped, PyData.canLay0, PyData.depth])]
    simp [PyData.eqv]
  unfold eqH
  rw [e]; cases neg <;> rfl
@[simp] theorem eq_non_non (neg : Bool) (s : S) : eqH neg (.d .non) (.d .non) s = .ok (.bl (!neg)) s := by
  have e : eqO (.d .non) (.d .non) s = some true := by
    show (if SeqAt.shaped .none && SeqAt.shaped .none then some (PyData.eqv .none .none) else none) = _
    rw [if_pos (by simp [SeqAt.shaped, PyData.canLay0, PyData.depth])]
    simp [PyData.eqv]
  unfold eqH
  rw [e]; cases neg <;> rfl
end DL

/-! ### the defs of the law, as data functions; printed by gen.py -/
namespace Lw
open PySem PySem.Spec PyProof.Rows L2 DL
def topS (i : Nat) : Stmt := PySem.Challenge.pw_soldrises_k59_whole_two_rounds_one_row.main.body.getD i (.Pass ⟨0, 0, 0, 0⟩)
theorem PIX' {i : Expr} (h : ∀ ov iv, subscripted i false ov iv = operate [ov, iv] (getItem ov iv)) : PlainIx i := h
structure Ev (mg : Mg) : Prop where
  b_all : mg "all" = none
  b_bool : mg "bool" = none
  b_enumerate : mg "enumerate" = none
  b_int : mg "int" = none
  b_isinstance : mg "isinstance" = none
  b_len : mg "len" = none
  b_list : mg "list" = none
  b_max : mg "max" = none
  b_min : mg "min" = none
  b_range : mg "range" = none
  b_tuple : mg "tuple" = none
  b_zip : mg "zip" = none
  c_MOST_GOODS : ∃ t, mg "MOST_GOODS" = some (.int 4 t)
  c_MOST_LENGTH : ∃ t, mg "MOST_LENGTH" = some (.int 6 t)
  c_MOST_STEP : ∃ t, mg "MOST_STEP" = some (.int 4 t)
  c_MOST_TAKES : ∃ t, mg "MOST_TAKES" = some (.int 300 t)
  c_MOST_WORTH : ∃ t, mg "MOST_WORTH" = some (.int 99 t)
abbrev st__law_draw : Stmt := topS 33
theorem sc__law_draw : FnScope ["deck", "many", "pool", "found", "mixed"] ["deck", "many"] (defScope st__law_draw) := ⟨rfl, rfl, rfl, by decide +kernel, rfl, by decide +kernel, by decide +kernel⟩
noncomputable def B__law_draw : DL.S → RS :=
    (sSeq (sSet 2 (two (hD (two (dPk 0) (hD (dC (.int 0))) ixH)) (hD (two (hD (two (dPk 0) (hD (dC (.int 1))) ixH)) (hD (call (hCons (hD (two (dPk 0) (hD (dC (.int 0))) ixH)) (hNil)) lenH)) modH)) ixH)) <|
    sSeq (sPut setL (two (hD (two (dPk 0) (hD (dC (.int 1))) ixH)) (hD (dC (.int 1))) addH) (dPk 0) (dC (.int 1))) <|
    sSeq (sIf (tAnd (asB (two (hD (two (dPk 2) (hD (dC (.int 1))) ixH)) (hD (dC (.int 1))) (eqH false))) (asB (two (hD (two (dPk 2) (hD (dC (.int 0))) ixH)) (hD (dC (.int 0))) gtH))) (sSeq (sSet 3 (two (hD (two (dPk 2) (hD (dC (.int 0))) ixH)) (dPk 1) modH)) <|
    sSeq (sPut setL (two (hD (two (dPk 2) (hD (dC (.int 0))) ixH)) (dPk 1) fdivH) (dPk 2) (dC (.int 0))) <|
    sRet (dVar 3)) (sNil)) <|
    sSeq (sPut setL (two (hD (two (dPk 2) (hD (dC (.int 2))) ixH)) (hD (dC (.int 1))) addH) (dPk 2) (dC (.int 2))) <|
    sSeq (sSet 4 (two (hD (two (hD (two (dPk 2) (hD (dC (.int 0))) ixH)) (hD (dC (.int 162259276829213363391578010288127))) modH)) (hD (two (hD (dC (.int 1299709))) (hD (two (dPk 2) (hD (dC (.int 2))) ixH)) mulH)) addH)) <|
    sSeq (sSet 4 (two (hD (two (dPk 4) (hD (dC (.int 3))) powH)) (hD (dC (.int 618970019642690137449562111))) modH)) <|
    sSeq (sSet 4 (two (hD (two (hD (two (dPk 4) (hD (two (hD (dC (.int 15485863))) (hD (two (dPk 2) (hD (dC (.int 2))) ixH)) mulH)) addH)) (hD (dC (.int 3))) powH)) (hD (dC (.int 162259276829213363391578010288127))) modH)) <|
    sRet (two (hD (two (dPk 4) (hD (dC (.int 1048576))) fdivH)) (dPk 1) modH))
noncomputable def F__law_draw : Fn := runF 5 B__law_draw
abbrev st__law_buyer : Stmt := topS 35
theorem sc__law_buyer : FnScope ["deck", "many", "far", "k"] ["deck", "many", "far"] (defScope st__law_buyer) := ⟨rfl, rfl, rfl, by decide +kernel, rfl, by decide +kernel, by decide +kernel⟩
noncomputable def U__law_buyer_1 : D → DL.S → R Unit := gSet 3
noncomputable def E__law_buyer_1 : DL.S → R D := dIf (asB (two (hD (dCall F__law_draw (aCons (dVar 0) (aCons (dC (.int 4)) (aNil))))) (hD (dC (.int 0))) (eqH false))) (dC .non) (two (hD (dCall F__law_draw (aCons (dVar 0) (aCons (two (hD (two (hD (dC (.int 2))) (dPk 2) mulH)) (hD (dC (.int 1))) addH) (aNil))))) (dPk 2) subH)
noncomputable def B__law_buyer : DL.S → RS :=
    (sRet (fz (fComp (iCall (hCons (dPk 1) (hNil)) rng1) [3] (U__law_buyer_1) (tAll) (E__law_buyer_1))))
noncomputable def F__law_buyer : Fn := runF 4 B__law_buyer
abbrev st__law_asks : Stmt := topS 36
theorem sc__law_asks : FnScope ["deck", "many", "far", "found", "k"] ["deck", "many", "far"] (defScope st__law_asks) := ⟨rfl, rfl, rfl, by decide +kernel, rfl, by decide +kernel, by decide +kernel⟩
noncomputable def U__law_asks_1 : D → DL.S → R Unit := gSet 4
noncomputable def L__law_asks_1 : DL.S → RS := (sExpr (dApp (dPk 3) (dIf (asB (two (hD (dCall F__law_draw (aCons (dVar 0) (aCons (dC (.int 6)) (aNil))))) (hD (dC (.int 0))) (eqH false))) (dC .non) (dCall F__law_buyer (aCons (dVar 0) (aCons (dVar 1) (aCons (dVar 2) (aNil))))))))
noncomputable def B__law_asks : DL.S → RS :=
    (sSeq (sOwn 3 (fLst (aNil))) <|
    sSeq (sFor (iCall (hCons (hD (two (hD (dC (.int 1))) (hD (dCall F__law_draw (aCons (dVar 0) (aCons (dC (.int 6)) (aNil))))) addH)) (hNil)) rng1) (U__law_asks_1) L__law_asks_1) <|
    sRet (dVar 3))
noncomputable def F__law_asks : Fn := runF 5 B__law_asks
abbrev st__law_deck : Stmt := topS 32
theorem sc__law_deck : FnScope ["script", "pools", "k", "cell"] ["script"] (defScope st__law_deck) := ⟨rfl, rfl, rfl, by decide +kernel, rfl, by decide +kernel, by decide +kernel⟩
noncomputable def U__law_deck_1 : D → DL.S → R Unit := gSet 2
noncomputable def L__law_deck_1 : DL.S → RS := (sSeq (sSet 3 (dC (.int 0))) <|
    sSeq (sIf (asB (two (dPk 2) (hD (call (hCons (dPk 0) (hNil)) lenH)) ltH)) (sSet 3 (two (dPk 0) (dPk 2) ixH)) (sNil)) <|
    sExpr (dApp (dPk 1) (lay (fLst (aCons (dVar 3) (aCons (call (hCons (hD (two (dPk 3) (hD (two (hD (dC (.int 10))) (hD (dC (.int 18))) powH)) geH)) (hNil)) intH) (aCons (two (hD (dC (.int 41))) (dPk 2) mulH) (aNil))))))))
noncomputable def B__law_deck : DL.S → RS :=
    (sSeq (sOwn 1 (fLst (aNil))) <|
    sSeq (sFor (iCall (hCons (hD (call (hCons (hD (dC (.int 1))) (hCons (hD (call (hCons (hD (dC (.int 63))) (hCons (hD (call (hCons (dPk 0) (hNil)) lenH)) (hNil))) min2)) (hNil))) max2)) (hNil)) rng1) (U__law_deck_1) L__law_deck_1) <|
    sRet (lay (fLst (aCons (dVar 1) (aCons (dC (.int 0)) (aNil))))))
noncomputable def F__law_deck : Fn := runF 4 B__law_deck
abbrev st__law_greater : Stmt := topS 42
theorem sc__law_greater : FnScope ["some", "others", "found", "a", "b"] ["some", "others"] (defScope st__law_greater) := ⟨rfl, rfl, rfl, by decide +kernel, rfl, by decide +kernel, by decide +kernel⟩
noncomputable def U__law_greater_1 : D → DL.S → R Unit := gTake 2 (gAnd (gSet 3) (gAnd (gSet 4) (gNone)))
noncomputable def L__law_greater_1 : DL.S → RS := (sIf (tOr (asB (two (dPk 3) (hD (dC .non)) (isnH false))) (asB (two (dPk 4) (hD (dC .non)) (isnH false)))) (sExpr (dApp (dPk 2) (dIf (asB (two (dPk 3) (hD (dC .non)) (isnH false))) (dVar 4) (dVar 3)))) ((sExpr (dApp (dPk 2) (call (hCons (dPk 3) (hCons (dPk 4) (hNil))) max2)))))
noncomputable def B__law_greater : DL.S → RS :=
    (sSeq (sOwn 2 (fLst (aNil))) <|
    sSeq (sFor (iCall (hCons (hD (dVar 0)) (hCons (hD (dVar 1)) (hNil))) zipS) (U__law_greater_1) L__law_greater_1) <|
    sRet (dVar 2))
noncomputable def F__law_greater : Fn := runF 5 B__law_greater
abbrev st__law_lesser : Stmt := topS 41
theorem sc__law_lesser : FnScope ["some", "others", "a", "b"] ["some", "others"] (defScope st__law_lesser) := ⟨rfl, rfl, rfl, by decide +kernel, rfl, by decide +kernel, by decide +kernel⟩
noncomputable def U__law_lesser_1 : D → DL.S → R Unit := gTake 2 (gAnd (gSet 2) (gAnd (gSet 3) (gNone)))
noncomputable def E__law_lesser_1 : DL.S → R D := dIf (tOr (asB (two (dPk 2) (hD (dC .non)) (isnH false))) (asB (two (dPk 3) (hD (dC .non)) (isnH false)))) (dC .non) (call (hCons (dPk 2) (hCons (dPk 3) (hNil))) min2)
noncomputable def B__law_lesser : DL.S → RS :=
    (sRet (fz (fComp (iCall (hCons (hD (dVar 0)) (hCons (hD (dVar 1)) (hNil))) zipS) [2, 3] (U__law_lesser_1) (tAll) (E__law_lesser_1))))
noncomputable def F__law_lesser : Fn := runF 4 B__law_lesser
abbrev st__law_lists : Stmt := topS 43
theorem sc__law_lists : FnScope ["rounds", "many", "buyer"] ["rounds", "many"] (defScope st__law_lists) := ⟨rfl, rfl, rfl, by decide +kernel, rfl, by decide +kernel, by decide +kernel⟩
noncomputable def U__law_lists_1 : D → DL.S → R Unit := gSet 2
noncomputable def E__law_lists_1 : DL.S → R D := dIf (asB (two (dPk 2) (hD (dC .non)) (isnH false))) (fz (two (hD (fz (fLst (aCons (dC .non) (aNil))))) (dPk 1) repF)) (fz (call (hCons (dPk 2) (hNil)) listF))
noncomputable def B__law_lists : DL.S → RS :=
    (sRet (fz (fComp (iSeq (hD (dVar 0))) [2] (U__law_lists_1) (tAll) (E__law_lists_1))))
noncomputable def F__law_lists : Fn := runF 3 B__law_lists
abbrev st__law_many : Stmt := topS 40
theorem sc__law_many : FnScope ["deck"] ["deck"] (defScope st__law_many) := ⟨rfl, rfl, rfl, by decide +kernel, rfl, by decide +kernel, by decide +kernel⟩
noncomputable def B__law_many : DL.S → RS :=
    (sRet (two (hD (fz (fLst (aCons (two (hD (dC (.int 1))) (hD (dCall F__law_draw (aCons (dVar 0) (aCons (dC (.int 4)) (aNil))))) addH) (aCons (two (hD (dC (.int 1))) (hD (dCall F__law_draw (aCons (dVar 0) (aCons (dC (.int 16)) (aNil))))) addH) (aCons (two (hD (dC (.int 1))) (hD (dCall F__law_draw (aCons (dVar 0) (aCons (dC (.int 60)) (aNil))))) addH) (aCons (dC (.int 300)) (aNil)))))))) (hD (dCall F__law_draw (aCons (dVar 0) (aCons (dC (.int 4)) (aNil))))) ixH))
noncomputable def F__law_many : Fn := runF 1 B__law_many
abbrev st__law_moved : Stmt := topS 45
theorem sc__law_moved : FnScope ["numbers", "by", "number"] ["numbers", "by"] (defScope st__law_moved) := ⟨rfl, rfl, rfl, by decide +kernel, rfl, by decide +kernel, by decide +kernel⟩
noncomputable def U__law_moved_1 : D → DL.S → R Unit := gSet 2
noncomputable def E__law_moved_1 : DL.S → R D := dIf (asB (two (dPk 2) (hD (dC .non)) (isnH false))) (dC .non) (two (dPk 2) (dPk 1) addH)
noncomputable def B__law_moved : DL.S → RS :=
    (sRet (fz (fComp (iSeq (hD (dVar 0))) [2] (U__law_moved_1) (tAll) (E__law_moved_1))))
noncomputable def F__law_moved : Fn := runF 3 B__law_moved
abbrev st__law_behind : Stmt := topS 38
theorem sc__law_behind : FnScope ["wares", "costs", "take", "k"] ["wares", "costs", "take"] (defScope st__law_behind) := ⟨rfl, rfl, rfl, by decide +kernel, rfl, by decide +kernel, by decide +kernel⟩
noncomputable def U__law_behind_1 : D → DL.S → R Unit := gSet 3
noncomputable def E__law_behind_1 : DL.S → R D := dIf (asB (two (dPk 3) (dPk 2) (eqH false))) (two (hD (two (dPk 1) (dPk 3) ixH)) (hD (two (hD (two (dPk 0) (dPk 3) ixH)) (hD (dC (.int 0))) ixH)) addH) (two (hD (two (dPk 1) (dPk 3) ixH)) (hD (two (hD (two (dPk 0) (dPk 3) ixH)) (hD (dC (.int 1))) ixH)) subH)
noncomputable def B__law_behind : DL.S → RS :=
    (sRet (fz (fComp (iCall (hCons (hD (call (hCons (dPk 0) (hNil)) lenH)) (hNil)) rng1) [3] (U__law_behind_1) (tAll) (E__law_behind_1))))
noncomputable def F__law_behind : Fn := runF 4 B__law_behind
abbrev st__law_take : Stmt := topS 37
theorem sc__law_take : FnScope ["buyer", "costs", "best", "much", "k"] ["buyer", "costs"] (defScope st__law_take) := ⟨rfl, rfl, rfl, by decide +kernel, rfl, by decide +kernel, by decide +kernel⟩
noncomputable def U__law_take_1 : D → DL.S → R Unit := gSet 4
noncomputable def L__law_take_1 : DL.S → RS := (sIf (tAnd (asB (two (hD (two (dPk 0) (dPk 4) ixH)) (hD (dC .non)) (isnH true))) (asB (two (hD (two (hD (two (dPk 0) (dPk 4) ixH)) (hD (two (dPk 1) (dPk 4) ixH)) subH)) (dPk 3) gtH))) (sSeq (sSet 2 (dVar 4)) <|
    sSet 3 (two (hD (two (dPk 0) (dPk 4) ixH)) (hD (two (dPk 1) (dPk 4) ixH)) subH)) (sNil))
noncomputable def B__law_take : DL.S → RS :=
    (sSeq (sSet 2 (dC .non)) <|
    sSeq (sSet 3 (one (hD (dC (.int 1))) negH)) <|
    sSeq (sFor (iCall (hCons (hD (two (hD (call (hCons (dPk 1) (hNil)) lenH)) (hD (call (hCons (hD (two (dPk 0) (hD (dC .non)) (isnH true))) (hNil)) intH)) mulH)) (hNil)) rng1) (U__law_take_1) L__law_take_1) <|
    sRet (dVar 2))
noncomputable def F__law_take : Fn := runF 5 B__law_take
abbrev st__law_run : Stmt := topS 39
theorem sc__law_run : FnScope ["wares", "asks", "many", "costs", "found", "k", "good"] ["wares", "asks", "many"] (defScope st__law_run) := ⟨rfl, rfl, rfl, by decide +kernel, rfl, by decide +kernel, by decide +kernel⟩
noncomputable def U__law_run_1 : D → DL.S → R Unit := gSet 6
noncomputable def E__law_run_1 : DL.S → R D := two (dPk 6) (hD (dC (.int 2))) ixH
noncomputable def U__law_run_2 : D → DL.S → R Unit := gSet 5
noncomputable def L__law_run_2 : DL.S → RS := (sSeq (sExpr (dApp (dPk 4) (dCall F__law_take (aCons (two (dPk 1) (hD (two (dPk 5) (hD (call (hCons (dPk 1) (hNil)) lenH)) modH)) ixH) (aCons (dVar 3) (aNil)))))) <|
    sSet 3 (dCall F__law_behind (aCons (dVar 0) (aCons (dVar 3) (aCons (two (dPk 4) (hD (one (hD (dC (.int 1))) negH)) ixH) (aNil))))))
noncomputable def B__law_run : DL.S → RS :=
    (sSeq (sSet 3 (fz (fComp (iSeq (hD (dVar 0))) [6] (U__law_run_1) (tAll) (E__law_run_1)))) <|
    sSeq (sOwn 4 (fLst (aNil))) <|
    sSeq (sFor (iCall (hCons (dPk 2) (hNil)) rng1) (U__law_run_2) L__law_run_2) <|
    sRet (dVar 4))
noncomputable def F__law_run : Fn := runF 7 B__law_run
abbrev st_moved : Stmt := topS 15
theorem sc_moved : FnScope ["goods", "prices", "take", "k", "up", "down", "start"] ["goods", "prices", "take"] (defScope st_moved) := ⟨rfl, rfl, rfl, by decide +kernel, rfl, by decide +kernel, by decide +kernel⟩
noncomputable def U_moved_1 : D → DL.S → R Unit := gTake 2 (gAnd (gSet 3) (gAnd (gTake 3 (gAnd (gSet 4) (gAnd (gSet 5) (gAnd (gSet 6) (gNone))))) (gNone)))
noncomputable def E_moved_1 : DL.S → R D := dIf (asB (two (dPk 3) (dPk 2) (eqH false))) (two (hD (two (dPk 1) (dPk 3) ixH)) (dPk 4) addH) (two (hD (two (dPk 1) (dPk 3) ixH)) (dPk 5) subH)
noncomputable def B_moved : DL.S → RS :=
    (sRet (fz (fComp (iCall (hCons (hD (dVar 0)) (hNil)) enumG) [3, 4, 5, 6] (U_moved_1) (tAll) (E_moved_1))))
noncomputable def F_moved : Fn := runF 7 B_moved
abbrev st_days_seen : Stmt := topS 21
theorem sc_days_seen : FnScope ["goods", "row", "prices", "found", "take", "up", "down", "start"] ["goods", "row"] (defScope st_days_seen) := ⟨rfl, rfl, rfl, by decide +kernel, rfl, by decide +kernel, by decide +kernel⟩
noncomputable def U_days_seen_1 : D → DL.S → R Unit := gTake 3 (gAnd (gSet 5) (gAnd (gSet 6) (gAnd (gSet 7) (gNone))))
noncomputable def E_days_seen_1 : DL.S → R D := dVar 7
noncomputable def U_days_seen_2 : D → DL.S → R Unit := gSet 4
noncomputable def L_days_seen_2 : DL.S → RS := (sSeq (sExpr (dApp (dPk 3) (dTup (aCons (dVar 4) (aCons (dVar 2) (aNil)))))) <|
    sSet 2 (dCall F_moved (aCons (dVar 0) (aCons (dVar 2) (aCons (dVar 4) (aNil))))))
noncomputable def B_days_seen : DL.S → RS :=
    (sSeq (sSet 2 (fz (fComp (iSeq (hD (dVar 0))) [5, 6, 7] (U_days_seen_1) (tAll) (E_days_seen_1)))) <|
    sSeq (sOwn 3 (fLst (aNil))) <|
    sSeq (sFor (iSeq (hD (dVar 1))) (U_days_seen_2) L_days_seen_2) <|
    sRet (dVar 3))
noncomputable def F_days_seen : Fn := runF 8 B_days_seen
abbrev st_is_whole : Stmt := topS 10
theorem sc_is_whole : FnScope ["thing", "least", "most"] ["thing", "least", "most"] (defScope st_is_whole) := ⟨rfl, rfl, rfl, by decide +kernel, rfl, by decide +kernel, by decide +kernel⟩
noncomputable def B_is_whole : DL.S → RS :=
    (sSeq (sIf (tOr (tNot (tru (hD (isiD [.int] (dPk 0))))) (tru (hD (isiD [.bl] (dPk 0))))) (sRet (dC (.bl false))) (sNil)) <|
    sRet (dAnd (dOr (two (dPk 1) (hD (dC .non)) (isnH false)) (two (dPk 0) (dPk 1) geH)) (dOr (two (dPk 2) (hD (dC .non)) (isnH false)) (two (dPk 0) (dPk 2) leH))))
noncomputable def F_is_whole : Fn := runF 3 B_is_whole
abbrev st_is_good : Stmt := topS 12
theorem sc_is_good : FnScope ["thing", "up", "down", "start"] ["thing"] (defScope st_is_good) := ⟨rfl, rfl, rfl, by decide +kernel, rfl, by decide +kernel, by decide +kernel⟩
noncomputable def B_is_good : DL.S → RS :=
    (sSeq (sIf (tOr (tNot (tru (hD (isiD [.tup] (dPk 0))))) (asB (two (hD (call (hCons (dPk 0) (hNil)) lenH)) (hD (dC (.int 3))) (eqH true)))) (sRet (dC (.bl false))) (sNil)) <|
    sSeq (sAsg (dVar 0) (gTake 3 (gAnd (gSet 1) (gAnd (gSet 2) (gAnd (gSet 3) (gNone)))))) <|
    sRet (dAnd (dCall F_is_whole (aCons (dVar 1) (aCons (dC (.int 1)) (aCons (dC (.int 4)) (aNil))))) (dAnd (dCall F_is_whole (aCons (dVar 2) (aCons (dC (.int 1)) (aCons (dC (.int 4)) (aNil))))) (dCall F_is_whole (aCons (dVar 3) (aCons (one (hD (dC (.int 99))) negH) (aCons (dC (.int 99)) (aNil))))))))
noncomputable def F_is_good : Fn := runF 4 B_is_good
abbrev st_is_list : Stmt := topS 11
theorem sc_is_list : FnScope ["thing", "least", "most"] ["thing", "least", "most"] (defScope st_is_list) := ⟨rfl, rfl, rfl, by decide +kernel, rfl, by decide +kernel, by decide +kernel⟩
noncomputable def B_is_list : DL.S → RS :=
    (sRet (dAnd (isiD [.lst] (dPk 0)) (chain (dPk 1) (hD (call (hCons (dPk 0) (hNil)) lenH)) leH (dPk 2) leH)))
noncomputable def F_is_list : Fn := runF 3 B_is_list
abbrev st_is_goods : Stmt := topS 13
theorem sc_is_goods : FnScope ["thing", "one"] ["thing"] (defScope st_is_goods) := ⟨rfl, rfl, rfl, by decide +kernel, rfl, by decide +kernel, by decide +kernel⟩
noncomputable def U_is_goods_1 : D → DL.S → R Unit := gSet 1
noncomputable def E_is_goods_1 : DL.S → R D := dCall F_is_good (aCons (dVar 1) (aNil))
noncomputable def B_is_goods : DL.S → RS :=
    (sRet (dAnd (dCall F_is_list (aCons (dVar 0) (aCons (dC (.int 1)) (aCons (dC (.int 4)) (aNil))))) (call (hCons (hD (fz (fComp (iSeq (hD (dVar 0))) [1] (U_is_goods_1) (tAll) (E_is_goods_1)))) (hNil)) allH)))
noncomputable def F_is_goods : Fn := runF 2 B_is_goods
abbrev st_is_row : Stmt := topS 19
theorem sc_is_row : FnScope ["goods", "thing", "take"] ["goods", "thing"] (defScope st_is_row) := ⟨rfl, rfl, rfl, by decide +kernel, rfl, by decide +kernel, by decide +kernel⟩
noncomputable def U_is_row_1 : D → DL.S → R Unit := gSet 2
noncomputable def E_is_row_1 : DL.S → R D := dOr (two (dPk 2) (hD (dC .non)) (isnH false)) (dCall F_is_whole (aCons (dVar 2) (aCons (dC (.int 0)) (aCons (two (hD (call (hCons (dPk 0) (hNil)) lenH)) (hD (dC (.int 1))) subH) (aNil)))))
noncomputable def B_is_row : DL.S → RS :=
    (sSeq (sIf (tOr (tNot (tru (hD (isiD [.lst] (dPk 1))))) (tNot (asB (chain (hD (dC (.int 1))) (hD (call (hCons (dPk 1) (hNil)) lenH)) leH (hD (dC (.int 300))) leH)))) (sRet (dC (.bl false))) (sNil)) <|
    sRet (call (hCons (hD (fz (fComp (iSeq (hD (dVar 1))) [2] (U_is_row_1) (tAll) (E_is_row_1)))) (hNil)) allH))
noncomputable def F_is_row : Fn := runF 3 B_is_row
abbrev st_need_seen : Stmt := topS 20
theorem sc_need_seen : FnScope ["goods", "length", "row"] ["goods", "length", "row"] (defScope st_need_seen) := ⟨rfl, rfl, rfl, by decide +kernel, rfl, by decide +kernel, by decide +kernel⟩
noncomputable def B_need_seen : DL.S → RS :=
    (sSeq (sIf (tNot (tru (hD (dCall F_is_goods (aCons (dVar 0) (aNil)))))) (sBad) (sNil)) <|
    sSeq (sIf (tNot (tru (hD (dCall F_is_whole (aCons (dVar 1) (aCons (dC (.int 1)) (aCons (dC (.int 6)) (aNil)))))))) (sBad) (sNil)) <|
    sIf (tNot (tru (hD (dCall F_is_row (aCons (dVar 0) (aCons (dVar 2) (aNil))))))) (sBad) (sNil))
noncomputable def F_need_seen : Fn := runF 3 B_need_seen
abbrev st_taken : Stmt := topS 14
theorem sc_taken : FnScope ["buyer", "prices", "found", "best", "good", "worth"] ["buyer", "prices"] (defScope st_taken) := ⟨rfl, rfl, rfl, by decide +kernel, rfl, by decide +kernel, by decide +kernel⟩
noncomputable def U_taken_1 : D → DL.S → R Unit := gTake 2 (gAnd (gSet 4) (gAnd (gSet 5) (gNone)))
noncomputable def L_taken_1 : DL.S → RS := (sIf (tAnd (asB (two (dPk 5) (hD (dC .non)) (isnH true))) (asB (two (hD (two (dPk 5) (hD (two (dPk 1) (dPk 4) ixH)) subH)) (dPk 3) gtH))) (sSeq (sSet 2 (dVar 4)) <|
    sSet 3 (two (dPk 5) (hD (two (dPk 1) (dPk 4) ixH)) subH)) (sNil))
noncomputable def B_taken : DL.S → RS :=
    (sSeq (sSet 2 (dC .non)) <|
    sSeq (sSet 3 (one (hD (dC (.int 1))) negH)) <|
    sSeq (sFor (iCall (hCons (hD (dOr (dVar 0) (fz (fLst (aNil))))) (hNil)) enumG) (U_taken_1) L_taken_1) <|
    sRet (dVar 2))
noncomputable def F_taken : Fn := runF 6 B_taken
abbrev st_lets_be : Stmt := topS 30
theorem sc_lets_be : FnScope ["goods", "worths", "row", "day", "take", "prices"] ["goods", "worths", "row"] (defScope st_lets_be) := ⟨rfl, rfl, rfl, by decide +kernel, rfl, by decide +kernel, by decide +kernel⟩
noncomputable def U_lets_be_1 : D → DL.S → R Unit := gTake 2 (gAnd (gSet 3) (gAnd (gTake 2 (gAnd (gSet 4) (gAnd (gSet 5) (gNone)))) (gNone)))
noncomputable def L_lets_be_1 : DL.S → RS := (sIf (asB (two (hD (dCall F_taken (aCons (two (dPk 1) (hD (two (dPk 3) (hD (call (hCons (dPk 1) (hNil)) lenH)) modH)) ixH) (aCons (dVar 5) (aNil))))) (dPk 4) (eqH true))) (sRet (dC (.bl false))) (sNil))
noncomputable def B_lets_be : DL.S → RS :=
    (sSeq (sExpr (dCall F_need_seen (aCons (dVar 0) (aCons (call (hCons (dPk 1) (hNil)) lenH) (aCons (dVar 2) (aNil)))))) <|
    sSeq (sFor (iCall (hCons (hD (dCall F_days_seen (aCons (dVar 0) (aCons (dVar 2) (aNil))))) (hNil)) enumG) (U_lets_be_1) L_lets_be_1) <|
    sRet (dC (.bl true)))
noncomputable def F_lets_be : Fn := runF 6 B_lets_be
abbrev st_raised : Stmt := topS 25
theorem sc_raised : FnScope ["low", "gaps", "worths", "turn", "ahead", "take", "good", "gap"] ["low", "gaps"] (defScope st_raised) := ⟨rfl, rfl, rfl, by decide +kernel, rfl, by decide +kernel, by decide +kernel⟩
noncomputable def U_raised_2 : D → DL.S → R Unit := gTake 2 (gAnd (gTake 2 (gAnd (gSet 5) (gAnd (gSet 6) (gNone)))) (gAnd (gSet 7) (gNone)))
noncomputable def L_raised_2 : DL.S → RS := (sIf (asB (two (hD (two (dPk 2) (dPk 6) ixH)) (hD (dC .non)) (isnH true))) (sPut setL (call (hCons (hD (two (dPk 2) (dPk 5) ixH)) (hCons (hD (two (hD (two (dPk 2) (dPk 6) ixH)) (dPk 7) subH)) (hNil))) max2) (dPk 2) (dVar 5)) (sNil))
noncomputable def U_raised_1 : D → DL.S → R Unit := gSet 3
noncomputable def L_raised_1 : DL.S → RS := (sSeq (sSet 4 (fz (call (hCons (dPk 2) (hNil)) listF))) <|
    sSeq (sItems 1 (U_raised_2) L_raised_2) <|
    sIf (asB (two (dPk 2) (dPk 4) (eqH false))) (sRet (dVar 2)) (sNil))
noncomputable def B_raised : DL.S → RS :=
    (sSeq (sOwn 2 (call (hCons (dPk 0) (hNil)) listF)) <|
    sSeq (sFor (iCall (hCons (hD (two (hD (call (hCons (dPk 0) (hNil)) lenH)) (hD (dC (.int 1))) addH)) (hNil)) rng1) (U_raised_1) L_raised_1) <|
    sRet (dC .non))
noncomputable def F_raised : Fn := runF 8 B_raised
abbrev st_greater : Stmt := topS 22
theorem sc_greater : FnScope ["one", "other"] ["one", "other"] (defScope st_greater) := ⟨rfl, rfl, rfl, by decide +kernel, rfl, by decide +kernel, by decide +kernel⟩
noncomputable def B_greater : DL.S → RS :=
    (sRet (dIf (asB (two (dPk 0) (hD (dC .non)) (isnH false))) (dVar 1) (call (hCons (dPk 0) (hCons (dPk 1) (hNil))) max2)))
noncomputable def F_greater : Fn := runF 2 B_greater
abbrev st_lesser : Stmt := topS 23
theorem sc_lesser : FnScope ["one", "other"] ["one", "other"] (defScope st_lesser) := ⟨rfl, rfl, rfl, by decide +kernel, rfl, by decide +kernel, by decide +kernel⟩
noncomputable def B_lesser : DL.S → RS :=
    (sRet (dIf (asB (two (dPk 0) (hD (dC .non)) (isnH false))) (dVar 1) (call (hCons (dPk 0) (hCons (dPk 1) (hNil))) min2)))
noncomputable def F_lesser : Fn := runF 2 B_lesser
abbrev st_tied : Stmt := topS 24
theorem sc_tied : FnScope ["many", "seen", "low", "high", "gaps", "take", "prices", "good", "price", "gap"] ["many", "seen"] (defScope st_tied) := ⟨rfl, rfl, rfl, by decide +kernel, rfl, by decide +kernel, by decide +kernel⟩
noncomputable def U_tied_2 : D → DL.S → R Unit := gTake 2 (gAnd (gSet 7) (gAnd (gSet 8) (gNone)))
noncomputable def L_tied_2 : DL.S → RS := (sIf (asB (two (dPk 5) (hD (dC .non)) (isnH false))) (sPut setL (dCall F_lesser (aCons (two (dPk 3) (dPk 7) ixH) (aCons (two (dPk 8) (hD (dC (.int 1))) subH) (aNil)))) (dPk 3) (dVar 7)) ((sIf (asB (two (dPk 7) (dPk 5) (eqH false))) (sPut setL (dCall F_greater (aCons (two (dPk 2) (dPk 7) ixH) (aCons (dVar 8) (aNil)))) (dPk 2) (dVar 7)) ((sSeq (sSet 9 (two (hD (two (dPk 8) (hD (two (dPk 6) (dPk 5) ixH)) subH)) (hD (call (hCons (hD (two (dPk 7) (dPk 5) ltH)) (hNil)) intH)) subH)) <|
    sPut setD (dCall F_lesser (aCons (dGet1 (dPk 4) (dTup (aCons (dVar 5) (aCons (dVar 7) (aNil))))) (aCons (dVar 9) (aNil)))) (dPk 4) (dTup (aCons (dVar 5) (aCons (dVar 7) (aNil)))))))))
noncomputable def U_tied_1 : D → DL.S → R Unit := gTake 2 (gAnd (gSet 5) (gAnd (gSet 6) (gNone)))
noncomputable def L_tied_1 : DL.S → RS := (sFor (iCall (hCons (hD (dVar 6)) (hNil)) enumG) (U_tied_2) L_tied_2)
noncomputable def B_tied : DL.S → RS :=
    (sSeq (sPar3 2 3 4 (aCons (lay (two (hD (fz (fLst (aCons (dC .non) (aNil))))) (dPk 0) repF)) (aCons (lay (two (hD (fz (fLst (aCons (dC .non) (aNil))))) (dPk 0) repF)) (aCons (lay (nD (.dT []))) (aNil))))) <|
    sSeq (sFor (iSeq (hD (dVar 1))) (U_tied_1) L_tied_1) <|
    sRet (dTup (aCons (dVar 2) (aCons (dVar 3) (aCons (dVar 4) (aNil))))))
noncomputable def F_tied : Fn := runF 10 B_tied
abbrev st_least_of : Stmt := topS 27
theorem sc_least_of : FnScope ["many", "seen", "low", "high", "gaps", "worths", "least", "most"] ["many", "seen"] (defScope st_least_of) := ⟨rfl, rfl, rfl, by decide +kernel, rfl, by decide +kernel, by decide +kernel⟩
noncomputable def U_least_of_1 : D → DL.S → R Unit := gTake 2 (gAnd (gSet 6) (gAnd (gSet 7) (gNone)))
noncomputable def L_least_of_1 : DL.S → RS := (sIf (tAnd (asB (two (dPk 6) (hD (dC .non)) (isnH true))) (tAnd (asB (two (dPk 7) (hD (dC .non)) (isnH true))) (asB (two (dPk 6) (dPk 7) gtH)))) (sRet (dC .non)) (sNil))
noncomputable def B_least_of : DL.S → RS :=
    (sSeq (sAsg (dCall F_tied (aCons (dVar 0) (aCons (dVar 1) (aNil)))) (gTake 3 (gAnd (gSet 2) (gAnd (gSet 3) (gAnd (gSet 4) (gNone)))))) <|
    sSeq (sSet 5 (dCall F_raised (aCons (dVar 2) (aCons (dVar 4) (aNil))))) <|
    sSeq (sIf (asB (two (dPk 5) (hD (dC .non)) (isnH false))) (sRet (dC .non)) (sNil)) <|
    sSeq (sFor (iCall (hCons (hD (dVar 5)) (hCons (hD (dVar 3)) (hNil))) zipS) (U_least_of_1) L_least_of_1) <|
    sRet (dVar 5))
noncomputable def F_least_of : Fn := runF 8 B_least_of
abbrev st_lowered : Stmt := topS 26
theorem sc_lowered : FnScope ["high", "gaps", "worths", "turn", "take", "good", "gap"] ["high", "gaps"] (defScope st_lowered) := ⟨rfl, rfl, rfl, by decide +kernel, rfl, by decide +kernel, by decide +kernel⟩
noncomputable def U_lowered_2 : D → DL.S → R Unit := gTake 2 (gAnd (gTake 2 (gAnd (gSet 4) (gAnd (gSet 5) (gNone)))) (gAnd (gSet 6) (gNone)))
noncomputable def L_lowered_2 : DL.S → RS := (sIf (asB (two (hD (two (dPk 2) (dPk 4) ixH)) (hD (dC .non)) (isnH true))) (sPut setL (dCall F_lesser (aCons (two (dPk 2) (dPk 5) ixH) (aCons (two (hD (two (dPk 2) (dPk 4) ixH)) (dPk 6) addH) (aNil)))) (dPk 2) (dVar 5)) (sNil))
noncomputable def U_lowered_1 : D → DL.S → R Unit := gSet 3
noncomputable def L_lowered_1 : DL.S → RS := (sItems 1 (U_lowered_2) L_lowered_2)
noncomputable def B_lowered : DL.S → RS :=
    (sSeq (sOwn 2 (call (hCons (dPk 0) (hNil)) listF)) <|
    sSeq (sFor (iCall (hCons (hD (call (hCons (dPk 0) (hNil)) lenH)) (hNil)) rng1) (U_lowered_1) L_lowered_1) <|
    sRet (dVar 2))
noncomputable def F_lowered : Fn := runF 7 B_lowered
abbrev st_worths_let : Stmt := topS 29
theorem sc_worths_let : FnScope ["goods", "length", "row", "seen", "found", "begin", "days", "some", "least", "low", "high", "gaps", "day"] ["goods", "length", "row"] (defScope st_worths_let) := ⟨rfl, rfl, rfl, by decide +kernel, rfl, by decide +kernel, by decide +kernel⟩
noncomputable def U_worths_let_2 : D → DL.S → R Unit := gSet 12
noncomputable def E_worths_let_2 : DL.S → R D := two (dPk 3) (dPk 12) ixH
noncomputable def U_worths_let_1 : D → DL.S → R Unit := gSet 5
noncomputable def L_worths_let_1 : DL.S → RS := (sSeq (sSet 6 (fz (call (hCons (dPk 5) (hCons (hD (call (hCons (dPk 2) (hNil)) lenH)) (hCons (dPk 1) (hNil)))) listRg3))) <|
    sSeq (sSet 7 (fz (fComp (iSeq (hD (dVar 6))) [12] (U_worths_let_2) (tAll) (E_worths_let_2)))) <|
    sSeq (sSet 8 (dCall F_least_of (aCons (call (hCons (dPk 0) (hNil)) lenH) (aCons (dVar 7) (aNil))))) <|
    sSeq (sIf (asB (two (dPk 8) (hD (dC .non)) (isnH false))) (sBad) (sNil)) <|
    sSeq (sAsg (dCall F_tied (aCons (call (hCons (dPk 0) (hNil)) lenH) (aCons (dVar 7) (aNil)))) (gTake 3 (gAnd (gSet 9) (gAnd (gSet 10) (gAnd (gSet 11) (gNone)))))) <|
    sExpr (dApp (dPk 4) (dTup (aCons (dVar 8) (aCons (dCall F_lowered (aCons (dVar 10) (aCons (dVar 11) (aNil)))) (aNil))))))
noncomputable def B_worths_let : DL.S → RS :=
    (sSeq (sExpr (dCall F_need_seen (aCons (dVar 0) (aCons (dVar 1) (aCons (dVar 2) (aNil)))))) <|
    sSeq (sSet 3 (dCall F_days_seen (aCons (dVar 0) (aCons (dVar 2) (aNil))))) <|
    sSeq (sOwn 4 (fLst (aNil))) <|
    sSeq (sFor (iCall (hCons (dPk 1) (hNil)) rng1) (U_worths_let_1) L_worths_let_1) <|
    sRet (dVar 4))
noncomputable def F_worths_let : Fn := runF 13 B_worths_let
abbrev st__law_second : Stmt := topS 44
theorem sc__law_second : FnScope ["deck", "wares", "asks", "line", "found", "k", "at", "spot", "some", "buyer", "pair"] ["deck", "wares", "asks", "line"] (defScope st__law_second) := ⟨rfl, rfl, rfl, by decide +kernel, rfl, by decide +kernel, by decide +kernel⟩
noncomputable def U__law_second_2 : D → DL.S → R Unit := gSet 9
noncomputable def E__law_second_2 : DL.S → R D := lay (call (hCons (dPk 9) (hNil)) listF)
noncomputable def U__law_second_1 : D → DL.S → R Unit := gSet 5
noncomputable def L__law_second_1 : DL.S → RS := (sSeq (sSet 6 (dCall F__law_draw (aCons (dVar 0) (aCons (call (hCons (dPk 4) (hNil)) lenH) (aNil))))) <|
    sSeq (sSet 7 (dCall F__law_draw (aCons (dVar 0) (aCons (call (hCons (dPk 1) (hNil)) lenH) (aNil))))) <|
    sSeq (sSet 8 (fz (fComp (iSeq (hD (dVar 4))) [9] (U__law_second_2) (tAll) (E__law_second_2)))) <|
    sSeq (sPut setL (two (hD (fz (fLst (aCons (dC .non) (aCons (two (hD (dCall F__law_draw (aCons (dVar 0) (aCons (dC (.int 61)) (aNil))))) (hD (dC (.int 30))) subH) (aCons (two (hD (dCall F__law_draw (aCons (dVar 0) (aCons (dC (.int 7)) (aNil))))) (hD (dC (.int 3))) subH) (aNil))))))) (hD (dCall F__law_draw (aCons (dVar 0) (aCons (dC (.int 3)) (aNil))))) ixH) (hD (two (dPk 8) (dPk 6) ixH)) (dVar 7)) <|
    sIf (tru (hD (dCall F_lets_be (aCons (dVar 1) (aCons (dVar 8) (aCons (dVar 3) (aNil))))))) (sSet 4 (dVar 8)) (sNil))
noncomputable def U__law_second_3 : D → DL.S → R Unit := gSet 10
noncomputable def E__law_second_3 : DL.S → R D := two (dPk 10) (hD (dC (.int 0))) ixH
noncomputable def B__law_second : DL.S → RS :=
    (sSeq (sSet 4 (dCall F__law_lists (aCons (dVar 2) (aCons (call (hCons (dPk 1) (hNil)) lenH) (aNil))))) <|
    sSeq (sFor (iCall (hCons (hD (dC (.int 12))) (hNil)) rng1) (U__law_second_1) L__law_second_1) <|
    sSeq (sIf (asB (two (hD (dCall F__law_draw (aCons (dVar 0) (aCons (dC (.int 4)) (aNil))))) (hD (dC (.int 0))) (eqH false))) (sSet 4 (fz (fComp (iSeq (hD (dCall F_worths_let (aCons (dVar 1) (aCons (call (hCons (dPk 2) (hNil)) lenH) (aCons (dVar 3) (aNil))))))) [10] (U__law_second_3) (tAll) (E__law_second_3)))) (sNil)) <|
    sRet (dVar 4))
noncomputable def F__law_second : Fn := runF 11 B__law_second
abbrev st__law_wares : Stmt := topS 34
theorem sc__law_wares : FnScope ["deck", "far", "found", "k"] ["deck", "far"] (defScope st__law_wares) := ⟨rfl, rfl, rfl, by decide +kernel, rfl, by decide +kernel, by decide +kernel⟩
noncomputable def U__law_wares_1 : D → DL.S → R Unit := gSet 3
noncomputable def L__law_wares_1 : DL.S → RS := (sExpr (dApp (dPk 2) (dTup (aCons (two (hD (dC (.int 1))) (hD (dCall F__law_draw (aCons (dVar 0) (aCons (dC (.int 4)) (aNil))))) addH) (aCons (two (hD (dC (.int 1))) (hD (dCall F__law_draw (aCons (dVar 0) (aCons (dC (.int 4)) (aNil))))) addH) (aCons (two (hD (dCall F__law_draw (aCons (dVar 0) (aCons (two (hD (two (hD (dC (.int 2))) (dPk 1) mulH)) (hD (dC (.int 1))) addH) (aNil))))) (dPk 1) subH) (aNil)))))))
noncomputable def B__law_wares : DL.S → RS :=
    (sSeq (sOwn 2 (fLst (aNil))) <|
    sSeq (sFor (iCall (hCons (hD (two (hD (dC (.int 1))) (hD (dCall F__law_draw (aCons (dVar 0) (aCons (dC (.int 4)) (aNil))))) addH)) (hNil)) rng1) (U__law_wares_1) L__law_wares_1) <|
    sRet (dVar 2))
noncomputable def F__law_wares : Fn := runF 4 B__law_wares
abbrev st_law : Stmt := topS 46
theorem sc_law : FnScope ["script", "deck", "turn", "wares", "asks", "line", "rounds", "second", "low", "high", "held", "by", "raised_wares", "due", "some", "others", "good", "a", "b"] ["script"] (defScope st_law) := ⟨rfl, rfl, rfl, by decide +kernel, rfl, by decide +kernel, by decide +kernel⟩
noncomputable def U_law_2 : D → DL.S → R Unit := gTake 2 (gAnd (gSet 14) (gAnd (gSet 15) (gNone)))
noncomputable def E_law_2 : DL.S → R D := dCall F__law_lesser (aCons (dVar 14) (aCons (dVar 15) (aNil)))
noncomputable def U_law_3 : D → DL.S → R Unit := gTake 2 (gAnd (gSet 14) (gAnd (gSet 15) (gNone)))
noncomputable def E_law_3 : DL.S → R D := dCall F__law_greater (aCons (dVar 14) (aCons (dVar 15) (aNil)))
noncomputable def U_law_4 : D → DL.S → R Unit := gSet 10
noncomputable def T_law_4 : DL.S → R Bool := asB (two (hD (dCall F_lets_be (aCons (dVar 3) (aCons (dVar 10) (aCons (dVar 5) (aNil)))))) (hD (dC (.bl true))) (isbH true))
noncomputable def E_law_4 : DL.S → R D := dVar 10
noncomputable def U_law_5 : D → DL.S → R Unit := gSet 16
noncomputable def E_law_5 : DL.S → R D := dTup (aCons (two (dPk 16) (hD (dC (.int 0))) ixH) (aCons (two (dPk 16) (hD (dC (.int 1))) ixH) (aCons (two (hD (two (dPk 16) (hD (dC (.int 2))) ixH)) (dPk 11) addH) (aNil))))
noncomputable def U_law_6 : D → DL.S → R Unit := gTake 2 (gAnd (gSet 17) (gAnd (gSet 18) (gNone)))
noncomputable def E_law_6 : DL.S → R D := dTup (aCons (dCall F__law_moved (aCons (dVar 17) (aCons (dVar 11) (aNil)))) (aCons (dCall F__law_moved (aCons (dVar 18) (aCons (dVar 11) (aNil)))) (aNil)))
noncomputable def U_law_8 : D → DL.S → R Unit := gSet 14
noncomputable def E_law_8 : DL.S → R D := dCall F__law_moved (aCons (dVar 14) (aCons (dVar 11) (aNil)))
noncomputable def U_law_7 : D → DL.S → R Unit := gSet 10
noncomputable def L_law_7 : DL.S → RS := (sIf (tNot (tru (hD (dCall F_lets_be (aCons (dVar 12) (aCons (fz (fComp (iSeq (hD (dVar 10))) [14] (U_law_8) (tAll) (E_law_8))) (aCons (dVar 5) (aNil)))))))) (sRet (dC (.bl false))) (sNil))
noncomputable def U_law_1 : D → DL.S → R Unit := gSet 2
noncomputable def L_law_1 : DL.S → RS := (sSeq (sSet 3 (dCall F__law_wares (aCons (dVar 1) (aCons (two (hD (fz (fLst (aCons (dC (.int 3)) (aCons (dC (.int 20)) (aNil)))))) (hD (dCall F__law_draw (aCons (dVar 1) (aCons (dC (.int 2)) (aNil))))) ixH) (aNil))))) <|
    sSeq (sSet 4 (dCall F__law_asks (aCons (dVar 1) (aCons (call (hCons (dPk 3) (hNil)) lenH) (aCons (two (hD (fz (fLst (aCons (dC (.int 3)) (aCons (dC (.int 20)) (aNil)))))) (hD (dCall F__law_draw (aCons (dVar 1) (aCons (dC (.int 2)) (aNil))))) ixH) (aNil)))))) <|
    sSeq (sSet 5 (dCall F__law_run (aCons (dVar 3) (aCons (dVar 4) (aCons (dCall F__law_many (aCons (dVar 1) (aNil))) (aNil)))))) <|
    sSeq (sSet 6 (dCall F__law_lists (aCons (dVar 4) (aCons (call (hCons (dPk 3) (hNil)) lenH) (aNil))))) <|
    sSeq (sSet 7 (dCall F__law_second (aCons (dVar 1) (aCons (dVar 3) (aCons (dVar 4) (aCons (dVar 5) (aNil))))))) <|
    sSeq (sSet 8 (fz (fComp (iCall (hCons (hD (dVar 6)) (hCons (hD (dVar 7)) (hNil))) zipS) [14, 15] (U_law_2) (tAll) (E_law_2)))) <|
    sSeq (sSet 9 (fz (fComp (iCall (hCons (hD (dVar 6)) (hCons (hD (dVar 7)) (hNil))) zipS) [14, 15] (U_law_3) (tAll) (E_law_3)))) <|
    sSeq (sIf (asB (two (hD (fz (fComp (iSeq (hD (fz (fLst (aCons (dVar 6) (aCons (dVar 7) (aCons (dVar 8) (aCons (dVar 9) (aNil))))))))) [10] (U_law_4) (T_law_4) (E_law_4)))) (hD (fz (fLst (aNil)))) (eqH true))) (sRet (dC (.bl false))) (sNil)) <|
    sSeq (sSet 11 (two (hD (dCall F__law_draw (aCons (dVar 1) (aCons (dC (.int 101)) (aNil))))) (hD (dC (.int 50))) subH)) <|
    sSeq (sSet 12 (fz (fComp (iSeq (hD (dVar 3))) [16] (U_law_5) (tAll) (E_law_5)))) <|
    sSeq (sSet 13 (fz (fComp (iSeq (hD (dCall F_worths_let (aCons (dVar 3) (aCons (call (hCons (dPk 4) (hNil)) lenH) (aCons (dVar 5) (aNil))))))) [17, 18] (U_law_6) (tAll) (E_law_6)))) <|
    sSeq (sIf (asB (two (hD (dCall F_worths_let (aCons (dVar 12) (aCons (call (hCons (dPk 4) (hNil)) lenH) (aCons (dVar 5) (aNil)))))) (dPk 13) (eqH true))) (sRet (dC (.bl false))) (sNil)) <|
    sFor (iSeq (hD (fz (fLst (aCons (dVar 8) (aCons (dVar 7) (aNil))))))) (U_law_7) L_law_7)
noncomputable def B_law : DL.S → RS :=
    (sSeq (sSet 1 (dCall F__law_deck (aCons (dVar 0) (aNil)))) <|
    sSeq (sFor (iCall (hCons (hD (dC (.int 4))) (hNil)) rng1) (U_law_1) L_law_1) <|
    sRet (dC (.bl true)))
noncomputable def F_law : Fn := runF 19 B_law
section
variable {P : Program} {w : World} {K : PySem.W.Frag} {mg : Mg} {base : Heap}
theorem ok__law_draw {f : Addr} {fd : FuncData} (E : Ev mg) (F : Fun K "_law_draw" "_law_draw" st__law_draw f fd) (hm : mg "_law_draw" = some (.ref f))  : Cl P w K mg base 1 "_law_draw" ["deck", "many"] F__law_draw := by
  refine ⟨f, fd, hm, F.kp, (F.binds fun _ _ _ _ _ _ us hl => match us, hl with | [_, _], _ => rfl), fnd_ok F sc__law_draw fun cdv A outer s H X hr => ?_⟩
  exact ss_cons (s_set (i := 2) sc__law_draw.nd rfl (.inl rfl) (de_ix ix_seq h_ix (he_of (de_ix ix_seq h_ix (he_pk (i := 0) rfl (.inl rfl)) (he_of (de_int)) (fun _ _ => rfl))) (he_of (de_bin op_mod h_mod (he_of (de_ix ix_seq h_ix (he_pk (i := 0) rfl (.inl rfl)) (he_of (de_int)) (fun _ _ => rfl))) (he_of (de_callB call_len h_len rfl E.b_len (by decide +kernel) (ha_cons (he_of (de_ix ix_seq h_ix (he_pk (i := 0) rfl (.inl rfl)) (he_of (de_int)) (fun _ _ => rfl))) (ha_nil)))))) (fun _ _ => rfl))) <|
    ss_cons (s_putL (de_bin o_add h_add (he_of (de_ix ix_seq h_ix (he_pk (i := 0) rfl (.inl rfl)) (he_of (de_int)) (fun _ _ => rfl))) (he_of (de_int))) (he_pk (i := 0) rfl (.inl rfl)) (de_int)) <|
    ss_cons (s_if (dt_bool (dw_and (dt_cmp (op_eqD hr.units) h_eq (he_of (de_ix ix_seq h_ix (he_pk (i := 2) rfl (.inl rfl)) (he_of (de_int)) (fun _ _ => rfl))) (he_of (de_int)) rfl) (dw_and1 (dt_cmp op_gt h_gt (he_of (de_ix ix_seq h_ix (he_pk (i := 2) rfl (.inl rfl)) (he_of (de_int)) (fun _ _ => rfl))) (he_of (de_int)) rfl)))) (ss_cons (s_set (i := 3) sc__law_draw.nd rfl (.inl rfl) (de_bin op_mod h_mod (he_of (de_ix ix_seq h_ix (he_pk (i := 2) rfl (.inl rfl)) (he_of (de_int)) (fun _ _ => rfl))) (he_pk (i := 1) rfl (.inl rfl)))) <|
    ss_cons (s_putL (de_bin op_fdivW h_fdiv (he_of (de_ix ix_seq h_ix (he_pk (i := 2) rfl (.inl rfl)) (he_of (de_int)) (fun _ _ => rfl))) (he_pk (i := 1) rfl (.inl rfl))) (he_pk (i := 2) rfl (.inl rfl)) (de_int)) <|
    ss_one (s_ret (de_var (i := 3) rfl (.inl rfl)))) (ss_nil)) <|
    ss_cons (s_putL (de_bin o_add h_add (he_of (de_ix ix_seq h_ix (he_pk (i := 2) rfl (.inl rfl)) (he_of (de_int)) (fun _ _ => rfl))) (he_of (de_int))) (he_pk (i := 2) rfl (.inl rfl)) (de_int)) <|
    ss_cons (s_set (i := 4) sc__law_draw.nd rfl (.inl rfl) (de_bin o_add h_add (he_of (de_bin op_mod h_mod (he_of (de_ix ix_seq h_ix (he_pk (i := 2) rfl (.inl rfl)) (he_of (de_int)) (fun _ _ => rfl))) (he_of (de_int)))) (he_of (de_bin o_mul h_mul (he_of (de_int)) (he_of (de_ix ix_seq h_ix (he_pk (i := 2) rfl (.inl rfl)) (he_of (de_int)) (fun _ _ => rfl))))))) <|
    ss_cons (s_set (i := 4) sc__law_draw.nd rfl (.inl rfl) (de_bin op_mod h_mod (he_of (de_bin op_powW h_pow (he_pk (i := 4) rfl (.inl rfl)) (he_of (de_int)))) (he_of (de_int)))) <|
    ss_cons (s_set (i := 4) sc__law_draw.nd rfl (.inl rfl) (de_bin op_mod h_mod (he_of (de_bin op_powW h_pow (he_of (de_bin o_add h_add (he_pk (i := 4) rfl (.inl rfl)) (he_of (de_bin o_mul h_mul (he_of (de_int)) (he_of (de_ix ix_seq h_ix (he_pk (i := 2) rfl (.inl rfl)) (he_of (de_int)) (fun _ _ => rfl))))))) (he_of (de_int)))) (he_of (de_int)))) <|
    ss_one (s_ret (de_bin op_mod h_mod (he_of (de_bin op_fdivW h_fdiv (he_pk (i := 4) rfl (.inl rfl)) (he_of (de_int)))) (he_pk (i := 1) rfl (.inl rfl))))
theorem ok__law_buyer {f : Addr} {fd : FuncData} (E : Ev mg) (F : Fun K "_law_buyer" "_law_buyer" st__law_buyer f fd) (hm : mg "_law_buyer" = some (.ref f)) (C__law_draw : Cl P w K mg base 1 "_law_draw" ["deck", "many"] F__law_draw) : Cl P w K mg base 2 "_law_buyer" ["deck", "many", "far"] F__law_buyer := by
  refine ⟨f, fd, hm, F.kp, (F.binds fun _ _ _ _ _ _ us hl => match us, hl with | [_, _, _], _ => rfl), fnd_ok F sc__law_buyer fun cdv A outer s H X hr => ?_⟩
  exact ss_one (s_ret (de_fz (fe_comp (own := [("k", 3)]) rfl sc__law_buyer.nd (di_range1 rfl E.b_range (ha_cons (he_pk (i := 1) rfl (.inl rfl)) (ha_nil))) (blkOk_by (N := ["deck", "many", "far", "k"]) (sc := defScope st__law_buyer) (by decide +kernel)) (nox_set) (fun _ _ _ _ _ => dg_name (i := 3) (by decide) sc__law_buyer.nd rfl (.inl rfl)) (fun _ _ _ _ _ => dts_nil) (fun _ _ _ _ _ => de_if (dt_cmp (op_eqD hr.units) h_eq (he_of (de_callC C__law_draw hr (by decide) takes0 rfl (da_cons (de_var (i := 0) rfl (.inr (.inl rfl))) (da_cons (de_int) (da_nil))) rfl)) (he_of (de_int)) rfl) (de_non) (de_bin op_sub h_sub (he_of (de_callC C__law_draw hr (by decide) takes0 rfl (da_cons (de_var (i := 0) rfl (.inr (.inl rfl))) (da_cons (de_bin o_add h_add (he_of (de_bin o_mul h_mul (he_of (de_int)) (he_pk (i := 2) rfl (.inr (.inl rfl))))) (he_of (de_int))) (da_nil))) rfl)) (he_pk (i := 2) rfl (.inr (.inl rfl))))))))
theorem ok__law_asks {f : Addr} {fd : FuncData} (E : Ev mg) (F : Fun K "_law_asks" "_law_asks" st__law_asks f fd) (hm : mg "_law_asks" = some (.ref f)) (C__law_buyer : Cl P w K mg base 2 "_law_buyer" ["deck", "many", "far"] F__law_buyer) (C__law_draw : Cl P w K mg base 1 "_law_draw" ["deck", "many"] F__law_draw) : Cl P w K mg base 3 "_law_asks" ["deck", "many", "far"] F__law_asks := by
  refine ⟨f, fd, hm, F.kp, (F.binds fun _ _ _ _ _ _ us hl => match us, hl with | [_, _, _], _ => rfl), fnd_ok F sc__law_asks fun cdv A outer s H X hr => ?_⟩
  exact ss_cons (s_own (i := 3) sc__law_asks.nd rfl (.inl rfl) (fe_lst (da_nil) (by decide))) <|
    ss_cons (s_for (is := [4]) (passes_of rfl) rfl (di_range1 rfl E.b_range (ha_cons (he_of (de_bin o_add h_add (he_of (de_int)) (he_of (de_callC C__law_draw hr (by decide) (takes_of rfl rfl rfl rfl) rfl (da_cons (de_var (i := 0) rfl (.inl rfl)) (da_cons (de_int) (da_nil))) rfl)))) (ha_nil))) (dg_name (i := 4) (by decide) sc__law_asks.nd rfl (.inl rfl)) (nox_set) (ss_one (s_expr (de_app (he_pk (i := 3) rfl (.inl rfl)) (de_if (dt_cmp (op_eqD hr.units) h_eq (he_of (de_callC C__law_draw hr (by decide) (takes_of rfl rfl rfl rfl) rfl (da_cons (de_var (i := 0) rfl (.inl rfl)) (da_cons (de_int) (da_nil))) rfl)) (he_of (de_int)) rfl) (de_non) (de_callC C__law_buyer hr (by decide) (takes_of rfl rfl rfl rfl) rfl (da_cons (de_var (i := 0) rfl (.inl rfl)) (da_cons (de_var (i := 1) rfl (.inl rfl)) (da_cons (de_var (i := 2) rfl (.inl rfl)) (da_nil)))) rfl)))))) <|
    ss_one (s_ret (de_var (i := 3) rfl (.inl rfl)))
theorem ok__law_deck {f : Addr} {fd : FuncData} (E : Ev mg) (F : Fun K "_law_deck" "_law_deck" st__law_deck f fd) (hm : mg "_law_deck" = some (.ref f))  : Cl P w K mg base 1 "_law_deck" ["script"] F__law_deck := by
  refine ⟨f, fd, hm, F.kp, (F.binds fun _ _ _ _ _ _ us hl => match us, hl with | [_], _ => rfl), fnd_ok F sc__law_deck fun cdv A outer s H X hr => ?_⟩
  exact ss_cons (s_own (i := 1) sc__law_deck.nd rfl (.inl rfl) (fe_lst (da_nil) (by decide))) <|
    ss_cons (s_for (is := [2]) (passes_of rfl) rfl (di_range1 rfl E.b_range (ha_cons (he_of (de_callB (call_max2 rfl) h_max2 rfl E.b_max (by decide +kernel) (ha_cons (he_of (de_int)) (ha_cons (he_of (de_callB (call_min2 rfl) h_min2 rfl E.b_min (by decide +kernel) (ha_cons (he_of (de_int)) (ha_cons (he_of (de_callB call_len h_len rfl E.b_len (by decide +kernel) (ha_cons (he_pk (i := 0) rfl (.inl rfl)) (ha_nil)))) (ha_nil))))) (ha_nil))))) (ha_nil))) (dg_name (i := 2) (by decide) sc__law_deck.nd rfl (.inl rfl)) (nox_set) (ss_cons (s_set (i := 3) sc__law_deck.nd rfl (.inl rfl) (de_int)) <|
    ss_cons (s_if (dt_cmp op_lt h_lt (he_pk (i := 2) rfl (.inl rfl)) (he_of (de_callB call_len h_len rfl E.b_len (by decide +kernel) (ha_cons (he_pk (i := 0) rfl (.inl rfl)) (ha_nil)))) rfl) (ss_one (s_set (i := 3) sc__law_deck.nd rfl (.inl rfl) (de_ix ix_seq h_ix (he_pk (i := 0) rfl (.inl rfl)) (he_pk (i := 2) rfl (.inl rfl)) (fun _ _ => rfl)))) (ss_nil)) <|
    ss_one (s_expr (de_app (he_pk (i := 1) rfl (.inl rfl)) (de_lay (fe_lst (da_cons (de_var (i := 3) rfl (.inl rfl)) (da_cons (de_callTy c_int h_int rfl E.b_int (by decide +kernel) (ha_cons (he_of (de_cmp op_ge h_ge (he_pk (i := 3) rfl (.inl rfl)) (he_of (de_bin op_powW h_pow (he_of (de_int)) (he_of (de_int)))) rfl)) (ha_nil))) (da_cons (de_bin o_mul h_mul (he_of (de_int)) (he_pk (i := 2) rfl (.inl rfl))) (da_nil)))) (by decide))))))) <|
    ss_one (s_ret (de_lay (fe_lst (da_cons (de_var (i := 1) rfl (.inl rfl)) (da_cons (de_int) (da_nil))) (by decide))))
theorem ok__law_greater {f : Addr} {fd : FuncData} (E : Ev mg) (F : Fun K "_law_greater" "_law_greater" st__law_greater f fd) (hm : mg "_law_greater" = some (.ref f))  : Cl P w K mg base 1 "_law_greater" ["some", "others"] F__law_greater := by
  refine ⟨f, fd, hm, F.kp, (F.binds fun _ _ _ _ _ _ us hl => match us, hl with | [_, _], _ => rfl), fnd_ok F sc__law_greater fun cdv A outer s H X hr => ?_⟩
  exact ss_cons (s_own (i := 2) sc__law_greater.nd rfl (.inl rfl) (fe_lst (da_nil) (by decide))) <|
    ss_cons (s_for (is := [3, 4]) (passes_of rfl) rfl (di_zip rfl E.b_zip (ha_cons (he_of (de_var (i := 0) rfl (.inl rfl))) (ha_cons (he_of (de_var (i := 1) rfl (.inl rfl))) (ha_nil)))) (dg_tup rfl (dgs_cons (dg_name (i := 3) (by decide) sc__law_greater.nd rfl (.inl rfl)) (dgs_cons (dg_name (i := 4) (by decide) sc__law_greater.nd rfl (.inl rfl)) (dgs_nil)))) (nox_take (nox_and (nox_set) (nox_and (nox_set) (nox_none)))) (ss_one (s_if (dt_bool (dw_or (dt_cmp op_isN h_isn (he_pk (i := 3) rfl (.inl rfl)) (he_of (de_non)) rfl) (dw_or1 (dt_cmp op_isN h_isn (he_pk (i := 4) rfl (.inl rfl)) (he_of (de_non)) rfl)))) (ss_one (s_expr (de_app (he_pk (i := 2) rfl (.inl rfl)) (de_if (dt_cmp op_isN h_isn (he_pk (i := 3) rfl (.inl rfl)) (he_of (de_non)) rfl) (de_var (i := 4) rfl (.inl rfl)) (de_var (i := 3) rfl (.inl rfl)))))) (ss_one (s_expr (de_app (he_pk (i := 2) rfl (.inl rfl)) (de_callB (call_max2 rfl) h_max2 rfl E.b_max (by decide +kernel) (ha_cons (he_pk (i := 3) rfl (.inl rfl)) (ha_cons (he_pk (i := 4) rfl (.inl rfl)) (ha_nil)))))))))) <|
    ss_one (s_ret (de_var (i := 2) rfl (.inl rfl)))
theorem ok__law_lesser {f : Addr} {fd : FuncData} (E : Ev mg) (F : Fun K "_law_lesser" "_law_lesser" st__law_lesser f fd) (hm : mg "_law_lesser" = some (.ref f))  : Cl P w K mg base 1 "_law_lesser" ["some", "others"] F__law_lesser := by
  refine ⟨f, fd, hm, F.kp, (F.binds fun _ _ _ _ _ _ us hl => match us, hl with | [_, _], _ => rfl), fnd_ok F sc__law_lesser fun cdv A outer s H X hr => ?_⟩
  exact ss_one (s_ret (de_fz (fe_comp (own := [("a", 2), ("b", 3)]) rfl sc__law_lesser.nd (di_zip rfl E.b_zip (ha_cons (he_of (de_var (i := 0) rfl (.inl rfl))) (ha_cons (he_of (de_var (i := 1) rfl (.inl rfl))) (ha_nil)))) (blkOk_by (N := ["some", "others", "a", "b"]) (sc := defScope st__law_lesser) (by decide +kernel)) (nox_take (nox_and (nox_set) (nox_and (nox_set) (nox_none)))) (fun _ _ _ _ _ => dg_tup rfl (dgs_cons (dg_name (i := 2) (by decide) sc__law_lesser.nd rfl (.inl rfl)) (dgs_cons (dg_name (i := 3) (by decide) sc__law_lesser.nd rfl (.inl rfl)) (dgs_nil)))) (fun _ _ _ _ _ => dts_nil) (fun _ _ _ _ _ => de_if (dt_bool (dw_or (dt_cmp op_isN h_isn (he_pk (i := 2) rfl (.inl rfl)) (he_of (de_non)) rfl) (dw_or1 (dt_cmp op_isN h_isn (he_pk (i := 3) rfl (.inl rfl)) (he_of (de_non)) rfl)))) (de_non) (de_callB (call_min2 rfl) h_min2 rfl E.b_min (by decide +kernel) (ha_cons (he_pk (i := 2) rfl (.inl rfl)) (ha_cons (he_pk (i := 3) rfl (.inl rfl)) (ha_nil))))))))
theorem ok__law_lists {f : Addr} {fd : FuncData} (E : Ev mg) (F : Fun K "_law_lists" "_law_lists" st__law_lists f fd) (hm : mg "_law_lists" = some (.ref f))  : Cl P w K mg base 1 "_law_lists" ["rounds", "many"] F__law_lists := by
  refine ⟨f, fd, hm, F.kp, (F.binds fun _ _ _ _ _ _ us hl => match us, hl with | [_, _], _ => rfl), fnd_ok F sc__law_lists fun cdv A outer s H X hr => ?_⟩
  exact ss_one (s_ret (de_fz (fe_comp (own := [("buyer", 2)]) rfl sc__law_lists.nd (di_seq (he_of (de_var (i := 0) rfl (.inl rfl)))) (blkOk_by (N := ["rounds", "many", "buyer"]) (sc := defScope st__law_lists) (by decide +kernel)) (nox_set) (fun _ _ _ _ _ => dg_name (i := 2) (by decide) sc__law_lists.nd rfl (.inl rfl)) (fun _ _ _ _ _ => dts_nil) (fun _ _ _ _ _ => de_if (dt_cmp op_isN h_isn (he_pk (i := 2) rfl (.inl rfl)) (he_of (de_non)) rfl) (de_fz (fe_bin op_rep h_rep (he_of (de_fz (fe_lst (da_cons (de_non) (da_nil)) (by decide)))) (he_pk (i := 1) rfl (.inr (.inl rfl))))) (de_fz (fe_callTy call_list_of h_list rfl E.b_list (by decide +kernel) (ha_cons (he_pk (i := 2) rfl (.inl rfl)) (ha_nil))))))))
theorem ok__law_many {f : Addr} {fd : FuncData} (E : Ev mg) (F : Fun K "_law_many" "_law_many" st__law_many f fd) (hm : mg "_law_many" = some (.ref f)) (C__law_draw : Cl P w K mg base 1 "_law_draw" ["deck", "many"] F__law_draw) : Cl P w K mg base 2 "_law_many" ["deck"] F__law_many := by
  refine ⟨f, fd, hm, F.kp, (F.binds fun _ _ _ _ _ _ us hl => match us, hl with | [_], _ => rfl), fnd_ok F sc__law_many fun cdv A outer s H X hr => ?_⟩
  exact ss_one (s_ret (de_ix ix_seq h_ix (he_of (de_fz (fe_lst (da_cons (de_bin o_add h_add (he_of (de_int)) (he_of (de_callC C__law_draw hr (by decide) (takes_of rfl rfl rfl rfl) rfl (da_cons (de_var (i := 0) rfl (.inl rfl)) (da_cons (de_int) (da_nil))) rfl))) (da_cons (de_bin o_add h_add (he_of (de_int)) (he_of (de_callC C__law_draw hr (by decide) (takes_of rfl rfl rfl rfl) rfl (da_cons (de_var (i := 0) rfl (.inl rfl)) (da_cons (de_int) (da_nil))) rfl))) (da_cons (de_bin o_add h_add (he_of (de_int)) (he_of (de_callC C__law_draw hr (by decide) (takes_of rfl rfl rfl rfl) rfl (da_cons (de_var (i := 0) rfl (.inl rfl)) (da_cons (de_int) (da_nil))) rfl))) (da_cons (de_int) (da_nil))))) (by decide)))) (he_of (de_callC C__law_draw hr (by decide) (takes_of rfl rfl rfl rfl) rfl (da_cons (de_var (i := 0) rfl (.inl rfl)) (da_cons (de_int) (da_nil))) rfl)) (fun _ _ => rfl)))
theorem ok__law_moved {f : Addr} {fd : FuncData} (E : Ev mg) (F : Fun K "_law_moved" "_law_moved" st__law_moved f fd) (hm : mg "_law_moved" = some (.ref f))  : Cl P w K mg base 1 "_law_moved" ["numbers", "by"] F__law_moved := by
  refine ⟨f, fd, hm, F.kp, (F.binds fun _ _ _ _ _ _ us hl => match us, hl with | [_, _], _ => rfl), fnd_ok F sc__law_moved fun cdv A outer s H X hr => ?_⟩
  exact ss_one (s_ret (de_fz (fe_comp (own := [("number", 2)]) rfl sc__law_moved.nd (di_seq (he_of (de_var (i := 0) rfl (.inl rfl)))) (blkOk_by (N := ["numbers", "by", "number"]) (sc := defScope st__law_moved) (by decide +kernel)) (nox_set) (fun _ _ _ _ _ => dg_name (i := 2) (by decide) sc__law_moved.nd rfl (.inl rfl)) (fun _ _ _ _ _ => dts_nil) (fun _ _ _ _ _ => de_if (dt_cmp op_isN h_isn (he_pk (i := 2) rfl (.inl rfl)) (he_of (de_non)) rfl) (de_non) (de_bin o_add h_add (he_pk (i := 2) rfl (.inl rfl)) (he_pk (i := 1) rfl (.inr (.inl rfl))))))))
theorem ok__law_behind {f : Addr} {fd : FuncData} (E : Ev mg) (F : Fun K "_law_behind" "_law_behind" st__law_behind f fd) (hm : mg "_law_behind" = some (.ref f))  : Cl P w K mg base 1 "_law_behind" ["wares", "costs", "take"] F__law_behind := by
  refine ⟨f, fd, hm, F.kp, (F.binds fun _ _ _ _ _ _ us hl => match us, hl with | [_, _, _], _ => rfl), fnd_ok F sc__law_behind fun cdv A outer s H X hr => ?_⟩
  exact ss_one (s_ret (de_fz (fe_comp (own := [("k", 3)]) rfl sc__law_behind.nd (di_range1 rfl E.b_range (ha_cons (he_of (de_callB call_len h_len rfl E.b_len (by decide +kernel) (ha_cons (he_pk (i := 0) rfl (.inr (.inl rfl))) (ha_nil)))) (ha_nil))) (blkOk_by (N := ["wares", "costs", "take", "k"]) (sc := defScope st__law_behind) (by decide +kernel)) (nox_set) (fun _ _ _ _ _ => dg_name (i := 3) (by decide) sc__law_behind.nd rfl (.inl rfl)) (fun _ _ _ _ _ => dts_nil) (fun _ _ _ _ _ => de_if (dt_cmp (op_eqD hr.units) h_eq (he_pk (i := 3) rfl (.inl rfl)) (he_pk (i := 2) rfl (.inr (.inl rfl))) rfl) (de_bin o_add h_add (he_of (de_ix ix_seq h_ix (he_pk (i := 1) rfl (.inr (.inl rfl))) (he_pk (i := 3) rfl (.inl rfl)) (fun _ _ => rfl))) (he_of (de_ix ix_seq h_ix (he_of (de_ix ix_seq h_ix (he_pk (i := 0) rfl (.inr (.inl rfl))) (he_pk (i := 3) rfl (.inl rfl)) (fun _ _ => rfl))) (he_of (de_int)) (fun _ _ => rfl)))) (de_bin op_sub h_sub (he_of (de_ix ix_seq h_ix (he_pk (i := 1) rfl (.inr (.inl rfl))) (he_pk (i := 3) rfl (.inl rfl)) (fun _ _ => rfl))) (he_of (de_ix ix_seq h_ix (he_of (de_ix ix_seq h_ix (he_pk (i := 0) rfl (.inr (.inl rfl))) (he_pk (i := 3) rfl (.inl rfl)) (fun _ _ => rfl))) (he_of (de_int)) (fun _ _ => rfl))))))))
theorem ok__law_take {f : Addr} {fd : FuncData} (E : Ev mg) (F : Fun K "_law_take" "_law_take" st__law_take f fd) (hm : mg "_law_take" = some (.ref f))  : Cl P w K mg base 1 "_law_take" ["buyer", "costs"] F__law_take := by
  refine ⟨f, fd, hm, F.kp, (F.binds fun _ _ _ _ _ _ us hl => match us, hl with | [_, _], _ => rfl), fnd_ok F sc__law_take fun cdv A outer s H X hr => ?_⟩
  exact ss_cons (s_set (i := 2) sc__law_take.nd rfl (.inl rfl) (de_non)) <|
    ss_cons (s_set (i := 3) sc__law_take.nd rfl (.inl rfl) (de_un un_neg h_neg (he_of (de_int)))) <|
    ss_cons (s_for (is := [4]) (passes_of rfl) rfl (di_range1 rfl E.b_range (ha_cons (he_of (de_bin o_mul h_mul (he_of (de_callB call_len h_len rfl E.b_len (by decide +kernel) (ha_cons (he_pk (i := 1) rfl (.inl rfl)) (ha_nil)))) (he_of (de_callTy c_int h_int rfl E.b_int (by decide +kernel) (ha_cons (he_of (de_cmp op_notN h_notn (he_pk (i := 0) rfl (.inl rfl)) (he_of (de_non)) rfl)) (ha_nil)))))) (ha_nil))) (dg_name (i := 4) (by decide) sc__law_take.nd rfl (.inl rfl)) (nox_set) (ss_one (s_if (dt_bool (dw_and (dt_cmp op_notN h_notn (he_of (de_ix ix_seq h_ix (he_pk (i := 0) rfl (.inl rfl)) (he_pk (i := 4) rfl (.inl rfl)) (fun _ _ => rfl))) (he_of (de_non)) rfl) (dw_and1 (dt_cmp op_gt h_gt (he_of (de_bin op_sub h_sub (he_of (de_ix ix_seq h_ix (he_pk (i := 0) rfl (.inl rfl)) (he_pk (i := 4) rfl (.inl rfl)) (fun _ _ => rfl))) (he_of (de_ix ix_seq h_ix (he_pk (i := 1) rfl (.inl rfl)) (he_pk (i := 4) rfl (.inl rfl)) (fun _ _ => rfl))))) (he_pk (i := 3) rfl (.inl rfl)) rfl)))) (ss_cons (s_set (i := 2) sc__law_take.nd rfl (.inl rfl) (de_var (i := 4) rfl (.inl rfl))) <|
    ss_one (s_set (i := 3) sc__law_take.nd rfl (.inl rfl) (de_bin op_sub h_sub (he_of (de_ix ix_seq h_ix (he_pk (i := 0) rfl (.inl rfl)) (he_pk (i := 4) rfl (.inl rfl)) (fun _ _ => rfl))) (he_of (de_ix ix_seq h_ix (he_pk (i := 1) rfl (.inl rfl)) (he_pk (i := 4) rfl (.inl rfl)) (fun _ _ => rfl)))))) (ss_nil)))) <|
    ss_one (s_ret (de_var (i := 2) rfl (.inl rfl)))
theorem ok__law_run {f : Addr} {fd : FuncData} (E : Ev mg) (F : Fun K "_law_run" "_law_run" st__law_run f fd) (hm : mg "_law_run" = some (.ref f)) (C__law_behind : Cl P w K mg base 1 "_law_behind" ["wares", "costs", "take"] F__law_behind) (C__law_take : Cl P w K mg base 1 "_law_take" ["buyer", "costs"] F__law_take) : Cl P w K mg base 2 "_law_run" ["wares", "asks", "many"] F__law_run := by
  refine ⟨f, fd, hm, F.kp, (F.binds fun _ _ _ _ _ _ us hl => match us, hl with | [_, _, _], _ => rfl), fnd_ok F sc__law_run fun cdv A outer s H X hr => ?_⟩
  exact ss_cons (s_setC (i := 3) (own := [("good", 6)]) rfl sc__law_run.nd rfl rfl (sw_true rfl rfl rfl rfl) (di_seq (he_of (de_var (i := 0) rfl (.inl rfl)))) (blkOk_by (N := ["wares", "asks", "many", "costs", "found", "k", "good"]) (sc := defScope st__law_run) (by decide +kernel)) (nox_set) (fun _ _ _ _ _ => dg_name (i := 6) (by decide) sc__law_run.nd rfl (.inl rfl)) (fun _ _ _ _ _ => dts_nil) (fun _ _ _ _ _ => de_ix ix_seq h_ix (he_pk (i := 6) rfl (.inl rfl)) (he_of (de_int)) (fun _ _ => rfl))) <|
    ss_cons (s_own (i := 4) sc__law_run.nd rfl (.inl rfl) (fe_lst (da_nil) (by decide))) <|
    ss_cons (s_for (is := [5]) (passes_of rfl) rfl (di_range1 rfl E.b_range (ha_cons (he_pk (i := 2) rfl (.inl rfl)) (ha_nil))) (dg_name (i := 5) (by decide) sc__law_run.nd rfl (.inl rfl)) (nox_set) (ss_cons (s_expr (de_app (he_pk (i := 4) rfl (.inl rfl)) (de_callC C__law_take hr (by decide) (takes_of rfl rfl rfl rfl) rfl (da_cons (de_ix ix_seq h_ix (he_pk (i := 1) rfl (.inl rfl)) (he_of (de_bin op_mod h_mod (he_pk (i := 5) rfl (.inl rfl)) (he_of (de_callB call_len h_len rfl E.b_len (by decide +kernel) (ha_cons (he_pk (i := 1) rfl (.inl rfl)) (ha_nil)))))) (fun _ _ => rfl)) (da_cons (de_var (i := 3) rfl (.inl rfl)) (da_nil))) rfl))) <|
    ss_one (s_set (i := 3) sc__law_run.nd rfl (.inl rfl) (de_callC C__law_behind hr (by decide) (takes_of rfl rfl rfl rfl) rfl (da_cons (de_var (i := 0) rfl (.inl rfl)) (da_cons (de_var (i := 3) rfl (.inl rfl)) (da_cons (de_ix ix_seq h_ix (he_pk (i := 4) rfl (.inl rfl)) (he_of (de_un un_neg h_neg (he_of (de_int)))) (fun _ _ => rfl)) (da_nil)))) rfl)))) <|
    ss_one (s_ret (de_var (i := 4) rfl (.inl rfl)))
theorem ok_moved {f : Addr} {fd : FuncData} (E : Ev mg) (F : Fun K "moved" "moved" st_moved f fd) (hm : mg "moved" = some (.ref f))  : Cl P w K mg base 1 "moved" ["goods", "prices", "take"] F_moved := by
  refine ⟨f, fd, hm, F.kp, (F.binds fun _ _ _ _ _ _ us hl => match us, hl with | [_, _, _], _ => rfl), fnd_ok F sc_moved fun cdv A outer s H X hr => ?_⟩
  exact ss_one (s_ret (de_fz (fe_comp (own := [("k", 3), ("up", 4), ("down", 5), ("start", 6)]) rfl sc_moved.nd (di_enum rfl E.b_enumerate (ha_cons (he_of (de_var (i := 0) rfl (.inl rfl))) (ha_nil))) (blkOk_by (N := ["goods", "prices", "take", "k", "up", "down", "start"]) (sc := defScope st_moved) (by decide +kernel)) (nox_take (nox_and (nox_set) (nox_and (nox_take (nox_and (nox_set) (nox_and (nox_set) (nox_and (nox_set) (nox_none))))) (nox_none)))) (fun _ _ _ _ _ => dg_tup rfl (dgs_cons (dg_name (i := 3) (by decide) sc_moved.nd rfl (.inl rfl)) (dgs_cons (dg_tup rfl (dgs_cons (dg_name (i := 4) (by decide) sc_moved.nd rfl (.inl rfl)) (dgs_cons (dg_name (i := 5) (by decide) sc_moved.nd rfl (.inl rfl)) (dgs_cons (dg_name (i := 6) (by decide) sc_moved.nd rfl (.inl rfl)) (dgs_nil))))) (dgs_nil)))) (fun _ _ _ _ _ => dts_nil) (fun _ _ _ _ _ => de_if (dt_cmp (op_eqD hr.units) h_eq (he_pk (i := 3) rfl (.inl rfl)) (he_pk (i := 2) rfl (.inr (.inl rfl))) rfl) (de_bin o_add h_add (he_of (de_ix ix_seq h_ix (he_pk (i := 1) rfl (.inr (.inl rfl))) (he_pk (i := 3) rfl (.inl rfl)) (fun _ _ => rfl))) (he_pk (i := 4) rfl (.inl rfl))) (de_bin op_sub h_sub (he_of (de_ix ix_seq h_ix (he_pk (i := 1) rfl (.inr (.inl rfl))) (he_pk (i := 3) rfl (.inl rfl)) (fun _ _ => rfl))) (he_pk (i := 5) rfl (.inl rfl)))))))
theorem ok_days_seen {f : Addr} {fd : FuncData} (E : Ev mg) (F : Fun K "days_seen" "days_seen" st_days_seen f fd) (hm : mg "days_seen" = some (.ref f)) (C_moved : Cl P w K mg base 1 "moved" ["goods", "prices", "take"] F_moved) : Cl P w K mg base 2 "days_seen" ["goods", "row"] F_days_seen := by
  refine ⟨f, fd, hm, F.kp, (F.binds fun _ _ _ _ _ _ us hl => match us, hl with | [_, _], _ => rfl), fnd_ok F sc_days_seen fun cdv A outer s H X hr => ?_⟩
  exact ss_cons (s_setC (i := 2) (own := [("up", 5), ("down", 6), ("start", 7)]) rfl sc_days_seen.nd rfl rfl (sw_true rfl rfl rfl rfl) (di_seq (he_of (de_var (i := 0) rfl (.inl rfl)))) (blkOk_by (N := ["goods", "row", "prices", "found", "take", "up", "down", "start"]) (sc := defScope st_days_seen) (by decide +kernel)) (nox_take (nox_and (nox_set) (nox_and (nox_set) (nox_and (nox_set) (nox_none))))) (fun _ _ _ _ _ => dg_tup rfl (dgs_cons (dg_name (i := 5) (by decide) sc_days_seen.nd rfl (.inl rfl)) (dgs_cons (dg_name (i := 6) (by decide) sc_days_seen.nd rfl (.inl rfl)) (dgs_cons (dg_name (i := 7) (by decide) sc_days_seen.nd rfl (.inl rfl)) (dgs_nil))))) (fun _ _ _ _ _ => dts_nil) (fun _ _ _ _ _ => de_var (i := 7) rfl (.inl rfl))) <|
    ss_cons (s_own (i := 3) sc_days_seen.nd rfl (.inl rfl) (fe_lst (da_nil) (by decide))) <|
    ss_cons (s_for (is := [4]) (passes_of rfl) rfl (di_seq (he_of (de_var (i := 1) rfl (.inl rfl)))) (dg_name (i := 4) (by decide) sc_days_seen.nd rfl (.inl rfl)) (nox_set) (ss_cons (s_expr (de_app (he_pk (i := 3) rfl (.inl rfl)) (de_tup (da_cons (de_var (i := 4) rfl (.inl rfl)) (da_cons (de_var (i := 2) rfl (.inl rfl)) (da_nil))) (by decide)))) <|
    ss_one (s_set (i := 2) sc_days_seen.nd rfl (.inl rfl) (de_callC C_moved hr (by decide) (takes_of rfl rfl rfl rfl) rfl (da_cons (de_var (i := 0) rfl (.inl rfl)) (da_cons (de_var (i := 2) rfl (.inl rfl)) (da_cons (de_var (i := 4) rfl (.inl rfl)) (da_nil)))) rfl)))) <|
    ss_one (s_ret (de_var (i := 3) rfl (.inl rfl)))
theorem ok_is_whole {f : Addr} {fd : FuncData} (E : Ev mg) (F : FunD K "is_whole" "is_whole" (defArgs st_is_whole) (defBody st_is_whole) (defScope st_is_whole) [.non, .non] [] f fd) (hm : mg "is_whole" = some (.ref f))  : Cl P w K mg base 1 "is_whole" ["thing", "least", "most"] F_is_whole := by
  refine ⟨f, fd, hm, F.kp, (binds_d F 3 2 rfl ⟨rfl, by simp⟩ fun T kV doc pm an cdv ct us its hu hi => match us, hu, its, hi with | [_, _, _], _, [_, _], _ => ⟨_, rfl, rfl⟩), fnD_ok F sc_is_whole fun cdv A outer s H X hr => ?_⟩
  exact ss_cons (s_if (dt_bool (dw_or (dt_not (dt_tru (he_of (de_isi (c := .int) rfl E.b_isinstance (he_pk (i := 0) rfl (.inl rfl)) rfl E.b_int (by decide +kernel) (by decide))))) (dw_or1 (dt_tru (he_of (de_isi (c := .bl) rfl E.b_isinstance (he_pk (i := 0) rfl (.inl rfl)) rfl E.b_bool (by decide +kernel) (by decide))))))) (ss_one (s_ret (de_bl))) (ss_nil)) <|
    ss_one (s_ret (de_and (de_or (de_cmp op_isN h_isn (he_pk (i := 1) rfl (.inl rfl)) (he_of (de_non)) rfl) (de_one (de_cmp op_ge h_ge (he_pk (i := 0) rfl (.inl rfl)) (he_pk (i := 1) rfl (.inl rfl)) rfl))) (de_one (de_or (de_cmp op_isN h_isn (he_pk (i := 2) rfl (.inl rfl)) (he_of (de_non)) rfl) (de_one (de_cmp op_le h_le (he_pk (i := 0) rfl (.inl rfl)) (he_pk (i := 2) rfl (.inl rfl)) rfl))))))
theorem ok_is_good {f : Addr} {fd : FuncData} (E : Ev mg) (F : Fun K "is_good" "is_good" st_is_good f fd) (hm : mg "is_good" = some (.ref f)) (C_is_whole : Cl P w K mg base 1 "is_whole" ["thing", "least", "most"] F_is_whole) : Cl P w K mg base 2 "is_good" ["thing"] F_is_good := by
  refine ⟨f, fd, hm, F.kp, (F.binds fun _ _ _ _ _ _ us hl => match us, hl with | [_], _ => rfl), fnd_ok F sc_is_good fun cdv A outer s H X hr => ?_⟩
  exact ss_cons (s_if (dt_bool (dw_or (dt_not (dt_tru (he_of (de_isi (c := .tup) rfl E.b_isinstance (he_pk (i := 0) rfl (.inl rfl)) rfl E.b_tuple (by decide +kernel) (by decide))))) (dw_or1 (dt_cmp (op_neD hr.units) h_ne (he_of (de_callB call_len h_len rfl E.b_len (by decide +kernel) (ha_cons (he_pk (i := 0) rfl (.inl rfl)) (ha_nil)))) (he_of (de_int)) rfl)))) (ss_one (s_ret (de_bl))) (ss_nil)) <|
    ss_cons (s_asg (is := [1, 2, 3]) (de_var (i := 0) rfl (.inl rfl)) (dg_tup rfl (dgs_cons (dg_name (i := 1) (by decide) sc_is_good.nd rfl (.inl rfl)) (dgs_cons (dg_name (i := 2) (by decide) sc_is_good.nd rfl (.inl rfl)) (dgs_cons (dg_name (i := 3) (by decide) sc_is_good.nd rfl (.inl rfl)) (dgs_nil))))) (nox_take (nox_and (nox_set) (nox_and (nox_set) (nox_and (nox_set) (nox_none)))))) <|
    ss_one (s_ret (de_and (de_callC C_is_whole hr (by decide) (takes_of rfl rfl rfl rfl) rfl (da_cons (de_var (i := 1) rfl (.inl rfl)) (da_cons (de_int) (da_cons (de_gintE rfl E.c_MOST_STEP) (da_nil)))) rfl) (de_and (de_callC C_is_whole hr (by decide) (takes_of rfl rfl rfl rfl) rfl (da_cons (de_var (i := 2) rfl (.inl rfl)) (da_cons (de_int) (da_cons (de_gintE rfl E.c_MOST_STEP) (da_nil)))) rfl) (de_one (de_callC C_is_whole hr (by decide) (takes_of rfl rfl rfl rfl) rfl (da_cons (de_var (i := 3) rfl (.inl rfl)) (da_cons (de_un un_neg h_neg (he_of (de_gintE rfl E.c_MOST_WORTH))) (da_cons (de_gintE rfl E.c_MOST_WORTH) (da_nil)))) rfl)))))
theorem ok_is_list {f : Addr} {fd : FuncData} (E : Ev mg) (F : Fun K "is_list" "is_list" st_is_list f fd) (hm : mg "is_list" = some (.ref f))  : Cl P w K mg base 1 "is_list" ["thing", "least", "most"] F_is_list := by
  refine ⟨f, fd, hm, F.kp, (F.binds fun _ _ _ _ _ _ us hl => match us, hl with | [_, _, _], _ => rfl), fnd_ok F sc_is_list fun cdv A outer s H X hr => ?_⟩
  exact ss_one (s_ret (de_and (de_isi (c := .lst) rfl E.b_isinstance (he_pk (i := 0) rfl (.inl rfl)) rfl E.b_list (by decide +kernel) (by decide)) (de_one (de_chain op_le op_le h_le h_le (he_pk (i := 1) rfl (.inl rfl)) (he_of (de_callB call_len h_len rfl E.b_len (by decide +kernel) (ha_cons (he_pk (i := 0) rfl (.inl rfl)) (ha_nil)))) (he_pk (i := 2) rfl (.inl rfl))))))
theorem ok_is_goods {f : Addr} {fd : FuncData} (E : Ev mg) (F : Fun K "is_goods" "is_goods" st_is_goods f fd) (hm : mg "is_goods" = some (.ref f)) (C_is_good : Cl P w K mg base 2 "is_good" ["thing"] F_is_good) (C_is_list : Cl P w K mg base 1 "is_list" ["thing", "least", "most"] F_is_list) : Cl P w K mg base 3 "is_goods" ["thing"] F_is_goods := by
  refine ⟨f, fd, hm, F.kp, (F.binds fun _ _ _ _ _ _ us hl => match us, hl with | [_], _ => rfl), fnd_ok F sc_is_goods fun cdv A outer s H X hr => ?_⟩
  exact ss_one (s_ret (de_and (de_callC C_is_list hr (by decide) (takes_of rfl rfl rfl rfl) rfl (da_cons (de_var (i := 0) rfl (.inl rfl)) (da_cons (de_int) (da_cons (de_gintE rfl E.c_MOST_GOODS) (da_nil)))) rfl) (de_one (de_callB (cr_all rfl) h_all rfl E.b_all (by decide +kernel) (ha_cons (he_of (de_fz (fe_comp (own := [("one", 1)]) rfl sc_is_goods.nd (di_seq (he_of (de_var (i := 0) rfl (.inl rfl)))) (blkOk_by (N := ["thing", "one"]) (sc := defScope st_is_goods) (by decide +kernel)) (nox_set) (fun _ _ _ _ _ => dg_name (i := 1) (by decide) sc_is_goods.nd rfl (.inl rfl)) (fun _ _ _ _ _ => dts_nil) (fun _ _ _ _ _ => de_callC C_is_good hr (by decide) takes0 rfl (da_cons (de_var (i := 1) rfl (.inl rfl)) (da_nil)) rfl)))) (ha_nil))))))
theorem ok_is_row {f : Addr} {fd : FuncData} (E : Ev mg) (F : Fun K "is_row" "is_row" st_is_row f fd) (hm : mg "is_row" = some (.ref f)) (C_is_whole : Cl P w K mg base 1 "is_whole" ["thing", "least", "most"] F_is_whole) : Cl P w K mg base 2 "is_row" ["goods", "thing"] F_is_row := by
  refine ⟨f, fd, hm, F.kp, (F.binds fun _ _ _ _ _ _ us hl => match us, hl with | [_, _], _ => rfl), fnd_ok F sc_is_row fun cdv A outer s H X hr => ?_⟩
  exact ss_cons (s_if (dt_bool (dw_or (dt_not (dt_tru (he_of (de_isi (c := .lst) rfl E.b_isinstance (he_pk (i := 1) rfl (.inl rfl)) rfl E.b_list (by decide +kernel) (by decide))))) (dw_or1 (dt_not (dt_chain op_le op_le h_le h_le (he_of (de_int)) (he_of (de_callB call_len h_len rfl E.b_len (by decide +kernel) (ha_cons (he_pk (i := 1) rfl (.inl rfl)) (ha_nil)))) (he_of (de_gintE rfl E.c_MOST_TAKES))))))) (ss_one (s_ret (de_bl))) (ss_nil)) <|
    ss_one (s_ret (de_callB (cr_all rfl) h_all rfl E.b_all (by decide +kernel) (ha_cons (he_of (de_fz (fe_comp (own := [("take", 2)]) rfl sc_is_row.nd (di_seq (he_of (de_var (i := 1) rfl (.inl rfl)))) (blkOk_by (N := ["goods", "thing", "take"]) (sc := defScope st_is_row) (by decide +kernel)) (nox_set) (fun _ _ _ _ _ => dg_name (i := 2) (by decide) sc_is_row.nd rfl (.inl rfl)) (fun _ _ _ _ _ => dts_nil) (fun _ _ _ _ _ => de_or (de_cmp op_isN h_isn (he_pk (i := 2) rfl (.inl rfl)) (he_of (de_non)) rfl) (de_one (de_callC C_is_whole hr (by decide) takes0 rfl (da_cons (de_var (i := 2) rfl (.inl rfl)) (da_cons (de_int) (da_cons (de_bin op_sub h_sub (he_of (de_callB call_len h_len rfl E.b_len (by decide +kernel) (ha_cons (he_pk (i := 0) rfl (.inr (.inl rfl))) (ha_nil)))) (he_of (de_int))) (da_nil)))) rfl)))))) (ha_nil))))
theorem ok_need_seen {f : Addr} {fd : FuncData} (E : Ev mg) (F : Fun K "need_seen" "need_seen" st_need_seen f fd) (hm : mg "need_seen" = some (.ref f)) (C_is_goods : Cl P w K mg base 3 "is_goods" ["thing"] F_is_goods) (C_is_row : Cl P w K mg base 2 "is_row" ["goods", "thing"] F_is_row) (C_is_whole : Cl P w K mg base 1 "is_whole" ["thing", "least", "most"] F_is_whole) : Cl P w K mg base 4 "need_seen" ["goods", "length", "row"] F_need_seen := by
  refine ⟨f, fd, hm, F.kp, (F.binds fun _ _ _ _ _ _ us hl => match us, hl with | [_, _, _], _ => rfl), fnd_ok F sc_need_seen fun cdv A outer s H X hr => ?_⟩
  exact ss_cons (s_if (dt_not (dt_tru (he_of (de_callC C_is_goods hr (by decide) (takes_of rfl rfl rfl rfl) rfl (da_cons (de_var (i := 0) rfl (.inl rfl)) (da_nil)) rfl)))) (ss_one (s_bad)) (ss_nil)) <|
    ss_cons (s_if (dt_not (dt_tru (he_of (de_callC C_is_whole hr (by decide) (takes_of rfl rfl rfl rfl) rfl (da_cons (de_var (i := 1) rfl (.inl rfl)) (da_cons (de_int) (da_cons (de_gintE rfl E.c_MOST_LENGTH) (da_nil)))) rfl)))) (ss_one (s_bad)) (ss_nil)) <|
    ss_one (s_if (dt_not (dt_tru (he_of (de_callC C_is_row hr (by decide) (takes_of rfl rfl rfl rfl) rfl (da_cons (de_var (i := 0) rfl (.inl rfl)) (da_cons (de_var (i := 2) rfl (.inl rfl)) (da_nil))) rfl)))) (ss_one (s_bad)) (ss_nil))
theorem ok_taken {f : Addr} {fd : FuncData} (E : Ev mg) (F : Fun K "taken" "taken" st_taken f fd) (hm : mg "taken" = some (.ref f))  : Cl P w K mg base 1 "taken" ["buyer", "prices"] F_taken := by
  refine ⟨f, fd, hm, F.kp, (F.binds fun _ _ _ _ _ _ us hl => match us, hl with | [_, _], _ => rfl), fnd_ok F sc_taken fun cdv A outer s H X hr => ?_⟩
  exact ss_cons (s_set (i := 2) sc_taken.nd rfl (.inl rfl) (de_non)) <|
    ss_cons (s_set (i := 3) sc_taken.nd rfl (.inl rfl) (de_un un_neg h_neg (he_of (de_int)))) <|
    ss_cons (s_for (is := [4, 5]) (passes_of rfl) rfl (di_enum rfl E.b_enumerate (ha_cons (he_of (de_or (de_var (i := 0) rfl (.inl rfl)) (de_one (de_fz (fe_lst (da_nil) (by decide)))))) (ha_nil))) (dg_tup rfl (dgs_cons (dg_name (i := 4) (by decide) sc_taken.nd rfl (.inl rfl)) (dgs_cons (dg_name (i := 5) (by decide) sc_taken.nd rfl (.inl rfl)) (dgs_nil)))) (nox_take (nox_and (nox_set) (nox_and (nox_set) (nox_none)))) (ss_one (s_if (dt_bool (dw_and (dt_cmp op_notN h_notn (he_pk (i := 5) rfl (.inl rfl)) (he_of (de_non)) rfl) (dw_and1 (dt_cmp op_gt h_gt (he_of (de_bin op_sub h_sub (he_pk (i := 5) rfl (.inl rfl)) (he_of (de_ix ix_seq h_ix (he_pk (i := 1) rfl (.inl rfl)) (he_pk (i := 4) rfl (.inl rfl)) (fun _ _ => rfl))))) (he_pk (i := 3) rfl (.inl rfl)) rfl)))) (ss_cons (s_set (i := 2) sc_taken.nd rfl (.inl rfl) (de_var (i := 4) rfl (.inl rfl))) <|
    ss_one (s_set (i := 3) sc_taken.nd rfl (.inl rfl) (de_bin op_sub h_sub (he_pk (i := 5) rfl (.inl rfl)) (he_of (de_ix ix_seq h_ix (he_pk (i := 1) rfl (.inl rfl)) (he_pk (i := 4) rfl (.inl rfl)) (fun _ _ => rfl)))))) (ss_nil)))) <|
    ss_one (s_ret (de_var (i := 2) rfl (.inl rfl)))
theorem ok_lets_be {f : Addr} {fd : FuncData} (E : Ev mg) (F : Fun K "lets_be" "lets_be" st_lets_be f fd) (hm : mg "lets_be" = some (.ref f)) (C_days_seen : Cl P w K mg base 2 "days_seen" ["goods", "row"] F_days_seen) (C_need_seen : Cl P w K mg base 4 "need_seen" ["goods", "length", "row"] F_need_seen) (C_taken : Cl P w K mg base 1 "taken" ["buyer", "prices"] F_taken) : Cl P w K mg base 5 "lets_be" ["goods", "worths", "row"] F_lets_be := by
  refine ⟨f, fd, hm, F.kp, (F.binds fun _ _ _ _ _ _ us hl => match us, hl with | [_, _, _], _ => rfl), fnd_ok F sc_lets_be fun cdv A outer s H X hr => ?_⟩
  exact ss_cons (s_expr (de_callC C_need_seen hr (by decide) (takes_of rfl rfl rfl rfl) rfl (da_cons (de_var (i := 0) rfl (.inl rfl)) (da_cons (de_callB call_len h_len rfl E.b_len (by decide +kernel) (ha_cons (he_pk (i := 1) rfl (.inl rfl)) (ha_nil))) (da_cons (de_var (i := 2) rfl (.inl rfl)) (da_nil)))) rfl)) <|
    ss_cons (s_for (is := [3, 4, 5]) (passes_of rfl) rfl (di_enum rfl E.b_enumerate (ha_cons (he_of (de_callC C_days_seen hr (by decide) (takes_of rfl rfl rfl rfl) rfl (da_cons (de_var (i := 0) rfl (.inl rfl)) (da_cons (de_var (i := 2) rfl (.inl rfl)) (da_nil))) rfl)) (ha_nil))) (dg_tup rfl (dgs_cons (dg_name (i := 3) (by decide) sc_lets_be.nd rfl (.inl rfl)) (dgs_cons (dg_tup rfl (dgs_cons (dg_name (i := 4) (by decide) sc_lets_be.nd rfl (.inl rfl)) (dgs_cons (dg_name (i := 5) (by decide) sc_lets_be.nd rfl (.inl rfl)) (dgs_nil)))) (dgs_nil)))) (nox_take (nox_and (nox_set) (nox_and (nox_take (nox_and (nox_set) (nox_and (nox_set) (nox_none)))) (nox_none)))) (ss_one (s_if (dt_cmp (op_neD hr.units) h_ne (he_of (de_callC C_taken hr (by decide) (takes_of rfl rfl rfl rfl) rfl (da_cons (de_ix ix_seq h_ix (he_pk (i := 1) rfl (.inl rfl)) (he_of (de_bin op_mod h_mod (he_pk (i := 3) rfl (.inl rfl)) (he_of (de_callB call_len h_len rfl E.b_len (by decide +kernel) (ha_cons (he_pk (i := 1) rfl (.inl rfl)) (ha_nil)))))) (fun _ _ => rfl)) (da_cons (de_var (i := 5) rfl (.inl rfl)) (da_nil))) rfl)) (he_pk (i := 4) rfl (.inl rfl)) rfl) (ss_one (s_ret (de_bl))) (ss_nil)))) <|
    ss_one (s_ret (de_bl))
theorem ok_raised {f : Addr} {fd : FuncData} (E : Ev mg) (F : Fun K "raised" "raised" st_raised f fd) (hm : mg "raised" = some (.ref f))  : Cl P w K mg base 1 "raised" ["low", "gaps"] F_raised := by
  refine ⟨f, fd, hm, F.kp, (F.binds fun _ _ _ _ _ _ us hl => match us, hl with | [_, _], _ => rfl), fnd_ok F sc_raised fun cdv A outer s H X hr => ?_⟩
  exact ss_cons (s_own (i := 2) sc_raised.nd rfl (.inl rfl) (fe_callTy call_list_of h_list rfl E.b_list (by decide +kernel) (ha_cons (he_pk (i := 0) rfl (.inl rfl)) (ha_nil)))) <|
    ss_cons (s_for (is := [3]) (passes_of rfl) rfl (di_range1 rfl E.b_range (ha_cons (he_of (de_bin o_add h_add (he_of (de_callB call_len h_len rfl E.b_len (by decide +kernel) (ha_cons (he_pk (i := 0) rfl (.inl rfl)) (ha_nil)))) (he_of (de_int)))) (ha_nil))) (dg_name (i := 3) (by decide) sc_raised.nd rfl (.inl rfl)) (nox_set) (ss_cons (s_set (i := 4) sc_raised.nd rfl (.inl rfl) (de_fz (fe_callTy call_list_of h_list rfl E.b_list (by decide +kernel) (ha_cons (he_pk (i := 2) rfl (.inl rfl)) (ha_nil))))) <|
    ss_cons (s_items (i := 1) (is := [5, 6, 7]) (passes_of rfl) rfl rfl (.inl rfl) (dg_tup rfl (dgs_cons (dg_tup rfl (dgs_cons (dg_name (i := 5) (by decide) sc_raised.nd rfl (.inl rfl)) (dgs_cons (dg_name (i := 6) (by decide) sc_raised.nd rfl (.inl rfl)) (dgs_nil)))) (dgs_cons (dg_name (i := 7) (by decide) sc_raised.nd rfl (.inl rfl)) (dgs_nil)))) (nox_take (nox_and (nox_take (nox_and (nox_set) (nox_and (nox_set) (nox_none)))) (nox_and (nox_set) (nox_none)))) (ss_one (s_if (dt_cmp op_notN h_notn (he_of (de_ix ix_seq h_ix (he_pk (i := 2) rfl (.inl rfl)) (he_pk (i := 6) rfl (.inl rfl)) (fun _ _ => rfl))) (he_of (de_non)) rfl) (ss_one (s_putL (de_callB (call_max2 rfl) h_max2 rfl E.b_max (by decide +kernel) (ha_cons (he_of (de_ix ix_seq h_ix (he_pk (i := 2) rfl (.inl rfl)) (he_pk (i := 5) rfl (.inl rfl)) (fun _ _ => rfl))) (ha_cons (he_of (de_bin op_sub h_sub (he_of (de_ix ix_seq h_ix (he_pk (i := 2) rfl (.inl rfl)) (he_pk (i := 6) rfl (.inl rfl)) (fun _ _ => rfl))) (he_pk (i := 7) rfl (.inl rfl)))) (ha_nil)))) (he_pk (i := 2) rfl (.inl rfl)) (de_var (i := 5) rfl (.inl rfl)))) (ss_nil)))) <|
    ss_one (s_if (dt_cmp (op_eqD hr.units) h_eq (he_pk (i := 2) rfl (.inl rfl)) (he_pk (i := 4) rfl (.inl rfl)) rfl) (ss_one (s_ret (de_var (i := 2) rfl (.inl rfl)))) (ss_nil)))) <|
    ss_one (s_ret (de_non))
theorem ok_greater {f : Addr} {fd : FuncData} (E : Ev mg) (F : Fun K "greater" "greater" st_greater f fd) (hm : mg "greater" = some (.ref f))  : Cl P w K mg base 1 "greater" ["one", "other"] F_greater := by
  refine ⟨f, fd, hm, F.kp, (F.binds fun _ _ _ _ _ _ us hl => match us, hl with | [_, _], _ => rfl), fnd_ok F sc_greater fun cdv A outer s H X hr => ?_⟩
  exact ss_one (s_ret (de_if (dt_cmp op_isN h_isn (he_pk (i := 0) rfl (.inl rfl)) (he_of (de_non)) rfl) (de_var (i := 1) rfl (.inl rfl)) (de_callB (call_max2 rfl) h_max2 rfl E.b_max (by decide +kernel) (ha_cons (he_pk (i := 0) rfl (.inl rfl)) (ha_cons (he_pk (i := 1) rfl (.inl rfl)) (ha_nil))))))
theorem ok_lesser {f : Addr} {fd : FuncData} (E : Ev mg) (F : Fun K "lesser" "lesser" st_lesser f fd) (hm : mg "lesser" = some (.ref f))  : Cl P w K mg base 1 "lesser" ["one", "other"] F_lesser := by
  refine ⟨f, fd, hm, F.kp, (F.binds fun _ _ _ _ _ _ us hl => match us, hl with | [_, _], _ => rfl), fnd_ok F sc_lesser fun cdv A outer s H X hr => ?_⟩
  exact ss_one (s_ret (de_if (dt_cmp op_isN h_isn (he_pk (i := 0) rfl (.inl rfl)) (he_of (de_non)) rfl) (de_var (i := 1) rfl (.inl rfl)) (de_callB (call_min2 rfl) h_min2 rfl E.b_min (by decide +kernel) (ha_cons (he_pk (i := 0) rfl (.inl rfl)) (ha_cons (he_pk (i := 1) rfl (.inl rfl)) (ha_nil))))))
theorem ok_tied {f : Addr} {fd : FuncData} (E : Ev mg) (F : Fun K "tied" "tied" st_tied f fd) (hm : mg "tied" = some (.ref f)) (C_greater : Cl P w K mg base 1 "greater" ["one", "other"] F_greater) (C_lesser : Cl P w K mg base 1 "lesser" ["one", "other"] F_lesser) : Cl P w K mg base 2 "tied" ["many", "seen"] F_tied := by
  refine ⟨f, fd, hm, F.kp, (F.binds fun _ _ _ _ _ _ us hl => match us, hl with | [_, _], _ => rfl), fnd_ok F sc_tied fun cdv A outer s H X hr => ?_⟩
  exact ss_cons (s_par3 (i := 2) (j := 3) (l := 4) rfl sc_tied.nd rfl rfl rfl (by decide) (by decide) (by decide) rfl rfl rfl (da_cons (de_lay (fe_bin op_rep h_rep (he_of (de_fz (fe_lst (da_cons (de_non) (da_nil)) (by decide)))) (he_pk (i := 0) rfl (.inl rfl)))) (da_cons (de_lay (fe_bin op_rep h_rep (he_of (de_fz (fe_lst (da_cons (de_non) (da_nil)) (by decide)))) (he_pk (i := 0) rfl (.inl rfl)))) (da_cons (de_lay (fe_dicT)) (da_nil))))) <|
    ss_cons (s_for (is := [5, 6]) (passes_of rfl) rfl (di_seq (he_of (de_var (i := 1) rfl (.inl rfl)))) (dg_tup rfl (dgs_cons (dg_name (i := 5) (by decide) sc_tied.nd rfl (.inl rfl)) (dgs_cons (dg_name (i := 6) (by decide) sc_tied.nd rfl (.inl rfl)) (dgs_nil)))) (nox_take (nox_and (nox_set) (nox_and (nox_set) (nox_none)))) (ss_one (s_for (is := [7, 8]) (passes_of rfl) rfl (di_enum rfl E.b_enumerate (ha_cons (he_of (de_var (i := 6) rfl (.inl rfl))) (ha_nil))) (dg_tup rfl (dgs_cons (dg_name (i := 7) (by decide) sc_tied.nd rfl (.inl rfl)) (dgs_cons (dg_name (i := 8) (by decide) sc_tied.nd rfl (.inl rfl)) (dgs_nil)))) (nox_take (nox_and (nox_set) (nox_and (nox_set) (nox_none)))) (ss_one (s_if (dt_cmp op_isN h_isn (he_pk (i := 5) rfl (.inl rfl)) (he_of (de_non)) rfl) (ss_one (s_putL (de_callC C_lesser hr (by decide) (takes_of rfl rfl rfl rfl) rfl (da_cons (de_ix ix_seq h_ix (he_pk (i := 3) rfl (.inl rfl)) (he_pk (i := 7) rfl (.inl rfl)) (fun _ _ => rfl)) (da_cons (de_bin op_sub h_sub (he_pk (i := 8) rfl (.inl rfl)) (he_of (de_int))) (da_nil))) rfl) (he_pk (i := 3) rfl (.inl rfl)) (de_var (i := 7) rfl (.inl rfl)))) (ss_one (s_if (dt_cmp (op_eqD hr.units) h_eq (he_pk (i := 7) rfl (.inl rfl)) (he_pk (i := 5) rfl (.inl rfl)) rfl) (ss_one (s_putL (de_callC C_greater hr (by decide) (takes_of rfl rfl rfl rfl) rfl (da_cons (de_ix ix_seq h_ix (he_pk (i := 2) rfl (.inl rfl)) (he_pk (i := 7) rfl (.inl rfl)) (fun _ _ => rfl)) (da_cons (de_var (i := 8) rfl (.inl rfl)) (da_nil))) rfl) (he_pk (i := 2) rfl (.inl rfl)) (de_var (i := 7) rfl (.inl rfl)))) (ss_cons (s_set (i := 9) sc_tied.nd rfl (.inl rfl) (de_bin op_sub h_sub (he_of (de_bin op_sub h_sub (he_pk (i := 8) rfl (.inl rfl)) (he_of (de_ix ix_seq h_ix (he_pk (i := 6) rfl (.inl rfl)) (he_pk (i := 5) rfl (.inl rfl)) (fun _ _ => rfl))))) (he_of (de_callTy c_int h_int rfl E.b_int (by decide +kernel) (ha_cons (he_of (de_cmp op_lt h_lt (he_pk (i := 7) rfl (.inl rfl)) (he_pk (i := 5) rfl (.inl rfl)) rfl)) (ha_nil)))))) <|
    ss_one (s_putD (hu_of hr) (de_callC C_lesser hr (by decide) (takes_of rfl rfl rfl rfl) rfl (da_cons (de_get1 (hu_of hr) (he_pk (i := 4) rfl (.inl rfl)) (de_tup (da_cons (de_var (i := 5) rfl (.inl rfl)) (da_cons (de_var (i := 7) rfl (.inl rfl)) (da_nil))) (by decide)) ⟨rfl, rfl, rfl, rfl⟩) (da_cons (de_var (i := 9) rfl (.inl rfl)) (da_nil))) rfl) (he_pk (i := 4) rfl (.inl rfl)) (de_tup (da_cons (de_var (i := 5) rfl (.inl rfl)) (da_cons (de_var (i := 7) rfl (.inl rfl)) (da_nil))) (by decide))))))))))) <|
    ss_one (s_ret (de_tup (da_cons (de_var (i := 2) rfl (.inl rfl)) (da_cons (de_var (i := 3) rfl (.inl rfl)) (da_cons (de_var (i := 4) rfl (.inl rfl)) (da_nil)))) (by decide)))
theorem ok_least_of {f : Addr} {fd : FuncData} (E : Ev mg) (F : Fun K "least_of" "least_of" st_least_of f fd) (hm : mg "least_of" = some (.ref f)) (C_raised : Cl P w K mg base 1 "raised" ["low", "gaps"] F_raised) (C_tied : Cl P w K mg base 2 "tied" ["many", "seen"] F_tied) : Cl P w K mg base 3 "least_of" ["many", "seen"] F_least_of := by
  refine ⟨f, fd, hm, F.kp, (F.binds fun _ _ _ _ _ _ us hl => match us, hl with | [_, _], _ => rfl), fnd_ok F sc_least_of fun cdv A outer s H X hr => ?_⟩
  exact ss_cons (s_asg (is := [2, 3, 4]) (de_callC C_tied hr (by decide) (takes_of rfl rfl rfl rfl) rfl (da_cons (de_var (i := 0) rfl (.inl rfl)) (da_cons (de_var (i := 1) rfl (.inl rfl)) (da_nil))) rfl) (dg_tup rfl (dgs_cons (dg_name (i := 2) (by decide) sc_least_of.nd rfl (.inl rfl)) (dgs_cons (dg_name (i := 3) (by decide) sc_least_of.nd rfl (.inl rfl)) (dgs_cons (dg_name (i := 4) (by decide) sc_least_of.nd rfl (.inl rfl)) (dgs_nil))))) (nox_take (nox_and (nox_set) (nox_and (nox_set) (nox_and (nox_set) (nox_none)))))) <|
    ss_cons (s_set (i := 5) sc_least_of.nd rfl (.inl rfl) (de_callC C_raised hr (by decide) (takes_of rfl rfl rfl rfl) rfl (da_cons (de_var (i := 2) rfl (.inl rfl)) (da_cons (de_var (i := 4) rfl (.inl rfl)) (da_nil))) rfl)) <|
    ss_cons (s_if (dt_cmp op_isN h_isn (he_pk (i := 5) rfl (.inl rfl)) (he_of (de_non)) rfl) (ss_one (s_ret (de_non))) (ss_nil)) <|
    ss_cons (s_for (is := [6, 7]) (passes_of rfl) rfl (di_zip rfl E.b_zip (ha_cons (he_of (de_var (i := 5) rfl (.inl rfl))) (ha_cons (he_of (de_var (i := 3) rfl (.inl rfl))) (ha_nil)))) (dg_tup rfl (dgs_cons (dg_name (i := 6) (by decide) sc_least_of.nd rfl (.inl rfl)) (dgs_cons (dg_name (i := 7) (by decide) sc_least_of.nd rfl (.inl rfl)) (dgs_nil)))) (nox_take (nox_and (nox_set) (nox_and (nox_set) (nox_none)))) (ss_one (s_if (dt_bool (dw_and (dt_cmp op_notN h_notn (he_pk (i := 6) rfl (.inl rfl)) (he_of (de_non)) rfl) (dw_and (dt_cmp op_notN h_notn (he_pk (i := 7) rfl (.inl rfl)) (he_of (de_non)) rfl) (dw_and1 (dt_cmp op_gt h_gt (he_pk (i := 6) rfl (.inl rfl)) (he_pk (i := 7) rfl (.inl rfl)) rfl))))) (ss_one (s_ret (de_non))) (ss_nil)))) <|
    ss_one (s_ret (de_var (i := 5) rfl (.inl rfl)))
theorem ok_lowered {f : Addr} {fd : FuncData} (E : Ev mg) (F : Fun K "lowered" "lowered" st_lowered f fd) (hm : mg "lowered" = some (.ref f)) (C_lesser : Cl P w K mg base 1 "lesser" ["one", "other"] F_lesser) : Cl P w K mg base 2 "lowered" ["high", "gaps"] F_lowered := by
  refine ⟨f, fd, hm, F.kp, (F.binds fun _ _ _ _ _ _ us hl => match us, hl with | [_, _], _ => rfl), fnd_ok F sc_lowered fun cdv A outer s H X hr => ?_⟩
  exact ss_cons (s_own (i := 2) sc_lowered.nd rfl (.inl rfl) (fe_callTy call_list_of h_list rfl E.b_list (by decide +kernel) (ha_cons (he_pk (i := 0) rfl (.inl rfl)) (ha_nil)))) <|
    ss_cons (s_for (is := [3]) (passes_of rfl) rfl (di_range1 rfl E.b_range (ha_cons (he_of (de_callB call_len h_len rfl E.b_len (by decide +kernel) (ha_cons (he_pk (i := 0) rfl (.inl rfl)) (ha_nil)))) (ha_nil))) (dg_name (i := 3) (by decide) sc_lowered.nd rfl (.inl rfl)) (nox_set) (ss_one (s_items (i := 1) (is := [4, 5, 6]) (passes_of rfl) rfl rfl (.inl rfl) (dg_tup rfl (dgs_cons (dg_tup rfl (dgs_cons (dg_name (i := 4) (by decide) sc_lowered.nd rfl (.inl rfl)) (dgs_cons (dg_name (i := 5) (by decide) sc_lowered.nd rfl (.inl rfl)) (dgs_nil)))) (dgs_cons (dg_name (i := 6) (by decide) sc_lowered.nd rfl (.inl rfl)) (dgs_nil)))) (nox_take (nox_and (nox_take (nox_and (nox_set) (nox_and (nox_set) (nox_none)))) (nox_and (nox_set) (nox_none)))) (ss_one (s_if (dt_cmp op_notN h_notn (he_of (de_ix ix_seq h_ix (he_pk (i := 2) rfl (.inl rfl)) (he_pk (i := 4) rfl (.inl rfl)) (fun _ _ => rfl))) (he_of (de_non)) rfl) (ss_one (s_putL (de_callC C_lesser hr (by decide) (takes_of rfl rfl rfl rfl) rfl (da_cons (de_ix ix_seq h_ix (he_pk (i := 2) rfl (.inl rfl)) (he_pk (i := 5) rfl (.inl rfl)) (fun _ _ => rfl)) (da_cons (de_bin o_add h_add (he_of (de_ix ix_seq h_ix (he_pk (i := 2) rfl (.inl rfl)) (he_pk (i := 4) rfl (.inl rfl)) (fun _ _ => rfl))) (he_pk (i := 6) rfl (.inl rfl))) (da_nil))) rfl) (he_pk (i := 2) rfl (.inl rfl)) (de_var (i := 5) rfl (.inl rfl)))) (ss_nil)))))) <|
    ss_one (s_ret (de_var (i := 2) rfl (.inl rfl)))
theorem ok_worths_let {f : Addr} {fd : FuncData} (E : Ev mg) (F : Fun K "worths_let" "worths_let" st_worths_let f fd) (hm : mg "worths_let" = some (.ref f)) (C_days_seen : Cl P w K mg base 2 "days_seen" ["goods", "row"] F_days_seen) (C_least_of : Cl P w K mg base 3 "least_of" ["many", "seen"] F_least_of) (C_lowered : Cl P w K mg base 2 "lowered" ["high", "gaps"] F_lowered) (C_need_seen : Cl P w K mg base 4 "need_seen" ["goods", "length", "row"] F_need_seen) (C_tied : Cl P w K mg base 2 "tied" ["many", "seen"] F_tied) : Cl P w K mg base 5 "worths_let" ["goods", "length", "row"] F_worths_let := by
  refine ⟨f, fd, hm, F.kp, (F.binds fun _ _ _ _ _ _ us hl => match us, hl with | [_, _, _], _ => rfl), fnd_ok F sc_worths_let fun cdv A outer s H X hr => ?_⟩
  exact ss_cons (s_expr (de_callC C_need_seen hr (by decide) (takes_of rfl rfl rfl rfl) rfl (da_cons (de_var (i := 0) rfl (.inl rfl)) (da_cons (de_var (i := 1) rfl (.inl rfl)) (da_cons (de_var (i := 2) rfl (.inl rfl)) (da_nil)))) rfl)) <|
    ss_cons (s_set (i := 3) sc_worths_let.nd rfl (.inr rfl) (de_callC C_days_seen hr (by decide) (takes_of rfl rfl rfl rfl) rfl (da_cons (de_var (i := 0) rfl (.inl rfl)) (da_cons (de_var (i := 2) rfl (.inl rfl)) (da_nil))) rfl)) <|
    ss_cons (s_own (i := 4) sc_worths_let.nd rfl (.inl rfl) (fe_lst (da_nil) (by decide))) <|
    ss_cons (s_for (is := [5]) (passes_of rfl) rfl (di_range1 rfl E.b_range (ha_cons (he_pk (i := 1) rfl (.inl rfl)) (ha_nil))) (dg_name (i := 5) (by decide) sc_worths_let.nd rfl (.inl rfl)) (nox_set) (ss_cons (s_set (i := 6) sc_worths_let.nd rfl (.inl rfl) (de_fz (fe_listRg3 rfl rfl E.b_list rfl E.b_range (ha_cons (he_pk (i := 5) rfl (.inl rfl)) (ha_cons (he_of (de_callB call_len h_len rfl E.b_len (by decide +kernel) (ha_cons (he_pk (i := 2) rfl (.inl rfl)) (ha_nil)))) (ha_cons (he_pk (i := 1) rfl (.inl rfl)) (ha_nil))))))) <|
    ss_cons (s_setC (i := 7) (own := [("day", 12)]) rfl sc_worths_let.nd rfl rfl (sw_true rfl rfl rfl rfl) (di_seq (he_of (de_var (i := 6) rfl (.inl rfl)))) (blkOk_by (N := ["goods", "length", "row", "seen", "found", "begin", "days", "some", "least", "low", "high", "gaps", "day"]) (sc := defScope st_worths_let) (by decide +kernel)) (nox_set) (fun _ _ _ _ _ => dg_name (i := 12) (by decide) sc_worths_let.nd rfl (.inl rfl)) (fun _ _ _ _ _ => dts_nil) (fun _ _ _ _ _ => de_ix ix_seq h_ix (he_pk (i := 3) rfl (.inr (.inl rfl))) (he_pk (i := 12) rfl (.inl rfl)) (fun _ _ => rfl))) <|
    ss_cons (s_set (i := 8) sc_worths_let.nd rfl (.inl rfl) (de_callC C_least_of hr (by decide) (takes_of rfl rfl rfl rfl) rfl (da_cons (de_callB call_len h_len rfl E.b_len (by decide +kernel) (ha_cons (he_pk (i := 0) rfl (.inl rfl)) (ha_nil))) (da_cons (de_var (i := 7) rfl (.inl rfl)) (da_nil))) rfl)) <|
    ss_cons (s_if (dt_cmp op_isN h_isn (he_pk (i := 8) rfl (.inl rfl)) (he_of (de_non)) rfl) (ss_one (s_bad)) (ss_nil)) <|
    ss_cons (s_asg (is := [9, 10, 11]) (de_callC C_tied hr (by decide) (takes_of rfl rfl rfl rfl) rfl (da_cons (de_callB call_len h_len rfl E.b_len (by decide +kernel) (ha_cons (he_pk (i := 0) rfl (.inl rfl)) (ha_nil))) (da_cons (de_var (i := 7) rfl (.inl rfl)) (da_nil))) rfl) (dg_tup rfl (dgs_cons (dg_name (i := 9) (by decide) sc_worths_let.nd rfl (.inl rfl)) (dgs_cons (dg_name (i := 10) (by decide) sc_worths_let.nd rfl (.inl rfl)) (dgs_cons (dg_name (i := 11) (by decide) sc_worths_let.nd rfl (.inl rfl)) (dgs_nil))))) (nox_take (nox_and (nox_set) (nox_and (nox_set) (nox_and (nox_set) (nox_none)))))) <|
    ss_one (s_expr (de_app (he_pk (i := 4) rfl (.inl rfl)) (de_tup (da_cons (de_var (i := 8) rfl (.inl rfl)) (da_cons (de_callC C_lowered hr (by decide) (takes_of rfl rfl rfl rfl) rfl (da_cons (de_var (i := 10) rfl (.inl rfl)) (da_cons (de_var (i := 11) rfl (.inl rfl)) (da_nil))) rfl) (da_nil))) (by decide)))))) <|
    ss_one (s_ret (de_var (i := 4) rfl (.inl rfl)))
theorem ok__law_second {f : Addr} {fd : FuncData} (E : Ev mg) (F : Fun K "_law_second" "_law_second" st__law_second f fd) (hm : mg "_law_second" = some (.ref f)) (C__law_draw : Cl P w K mg base 1 "_law_draw" ["deck", "many"] F__law_draw) (C__law_lists : Cl P w K mg base 1 "_law_lists" ["rounds", "many"] F__law_lists) (C_lets_be : Cl P w K mg base 5 "lets_be" ["goods", "worths", "row"] F_lets_be) (C_worths_let : Cl P w K mg base 5 "worths_let" ["goods", "length", "row"] F_worths_let) : Cl P w K mg base 6 "_law_second" ["deck", "wares", "asks", "line"] F__law_second := by
  refine ⟨f, fd, hm, F.kp, (F.binds fun _ _ _ _ _ _ us hl => match us, hl with | [_, _, _, _], _ => rfl), fnd_ok F sc__law_second fun cdv A outer s H X hr => ?_⟩
  exact ss_cons (s_set (i := 4) sc__law_second.nd rfl (.inl rfl) (de_callC C__law_lists hr (by decide) (takes_of rfl rfl rfl rfl) rfl (da_cons (de_var (i := 2) rfl (.inl rfl)) (da_cons (de_callB call_len h_len rfl E.b_len (by decide +kernel) (ha_cons (he_pk (i := 1) rfl (.inl rfl)) (ha_nil))) (da_nil))) rfl)) <|
    ss_cons (s_for (is := [5]) (passes_of rfl) rfl (di_range1 rfl E.b_range (ha_cons (he_of (de_int)) (ha_nil))) (dg_name (i := 5) (by decide) sc__law_second.nd rfl (.inl rfl)) (nox_set) (ss_cons (s_set (i := 6) sc__law_second.nd rfl (.inl rfl) (de_callC C__law_draw hr (by decide) (takes_of rfl rfl rfl rfl) rfl (da_cons (de_var (i := 0) rfl (.inl rfl)) (da_cons (de_callB call_len h_len rfl E.b_len (by decide +kernel) (ha_cons (he_pk (i := 4) rfl (.inl rfl)) (ha_nil))) (da_nil))) rfl)) <|
    ss_cons (s_set (i := 7) sc__law_second.nd rfl (.inl rfl) (de_callC C__law_draw hr (by decide) (takes_of rfl rfl rfl rfl) rfl (da_cons (de_var (i := 0) rfl (.inl rfl)) (da_cons (de_callB call_len h_len rfl E.b_len (by decide +kernel) (ha_cons (he_pk (i := 1) rfl (.inl rfl)) (ha_nil))) (da_nil))) rfl)) <|
    ss_cons (s_setC (i := 8) (own := [("buyer", 9)]) rfl sc__law_second.nd rfl rfl (sw_true rfl rfl rfl rfl) (di_seq (he_of (de_var (i := 4) rfl (.inl rfl)))) (blkOk_by (N := ["deck", "wares", "asks", "line", "found", "k", "at", "spot", "some", "buyer", "pair"]) (sc := defScope st__law_second) (by decide +kernel)) (nox_set) (fun _ _ _ _ _ => dg_name (i := 9) (by decide) sc__law_second.nd rfl (.inl rfl)) (fun _ _ _ _ _ => dts_nil) (fun _ _ _ _ _ => de_lay (fe_callTy call_list_of h_list rfl E.b_list (by decide +kernel) (ha_cons (he_pk (i := 9) rfl (.inl rfl)) (ha_nil))))) <|
    ss_cons (s_putL (de_ix ix_seq h_ix (he_of (de_fz (fe_lst (da_cons (de_non) (da_cons (de_bin op_sub h_sub (he_of (de_callC C__law_draw hr (by decide) (takes_of rfl rfl rfl rfl) rfl (da_cons (de_var (i := 0) rfl (.inl rfl)) (da_cons (de_int) (da_nil))) rfl)) (he_of (de_int))) (da_cons (de_bin op_sub h_sub (he_of (de_callC C__law_draw hr (by decide) (takes_of rfl rfl rfl rfl) rfl (da_cons (de_var (i := 0) rfl (.inl rfl)) (da_cons (de_int) (da_nil))) rfl)) (he_of (de_int))) (da_nil)))) (by decide)))) (he_of (de_callC C__law_draw hr (by decide) (takes_of rfl rfl rfl rfl) rfl (da_cons (de_var (i := 0) rfl (.inl rfl)) (da_cons (de_int) (da_nil))) rfl)) (fun _ _ => rfl)) (he_of (de_ix ix_seq h_ix (he_pk (i := 8) rfl (.inl rfl)) (he_pk (i := 6) rfl (.inl rfl)) (fun _ _ => rfl))) (de_var (i := 7) rfl (.inl rfl))) <|
    ss_one (s_if (dt_tru (he_of (de_callC C_lets_be hr (by decide) (takes_of rfl rfl rfl rfl) rfl (da_cons (de_var (i := 1) rfl (.inl rfl)) (da_cons (de_var (i := 8) rfl (.inl rfl)) (da_cons (de_var (i := 3) rfl (.inl rfl)) (da_nil)))) rfl))) (ss_one (s_set (i := 4) sc__law_second.nd rfl (.inl rfl) (de_var (i := 8) rfl (.inl rfl)))) (ss_nil)))) <|
    ss_cons (s_if (dt_cmp (op_eqD hr.units) h_eq (he_of (de_callC C__law_draw hr (by decide) (takes_of rfl rfl rfl rfl) rfl (da_cons (de_var (i := 0) rfl (.inl rfl)) (da_cons (de_int) (da_nil))) rfl)) (he_of (de_int)) rfl) (ss_one (s_setC (i := 4) (own := [("pair", 10)]) rfl sc__law_second.nd rfl rfl (sw_true rfl rfl rfl rfl) (di_seq (he_of (de_callC C_worths_let hr (by decide) (takes_of rfl rfl rfl rfl) rfl (da_cons (de_var (i := 1) rfl (.inl rfl)) (da_cons (de_callB call_len h_len rfl E.b_len (by decide +kernel) (ha_cons (he_pk (i := 2) rfl (.inl rfl)) (ha_nil))) (da_cons (de_var (i := 3) rfl (.inl rfl)) (da_nil)))) rfl))) (blkOk_by (N := ["deck", "wares", "asks", "line", "found", "k", "at", "spot", "some", "buyer", "pair"]) (sc := defScope st__law_second) (by decide +kernel)) (nox_set) (fun _ _ _ _ _ => dg_name (i := 10) (by decide) sc__law_second.nd rfl (.inl rfl)) (fun _ _ _ _ _ => dts_nil) (fun _ _ _ _ _ => de_ix ix_seq h_ix (he_pk (i := 10) rfl (.inl rfl)) (he_of (de_int)) (fun _ _ => rfl)))) (ss_nil)) <|
    ss_one (s_ret (de_var (i := 4) rfl (.inl rfl)))
theorem ok__law_wares {f : Addr} {fd : FuncData} (E : Ev mg) (F : Fun K "_law_wares" "_law_wares" st__law_wares f fd) (hm : mg "_law_wares" = some (.ref f)) (C__law_draw : Cl P w K mg base 1 "_law_draw" ["deck", "many"] F__law_draw) : Cl P w K mg base 2 "_law_wares" ["deck", "far"] F__law_wares := by
  refine ⟨f, fd, hm, F.kp, (F.binds fun _ _ _ _ _ _ us hl => match us, hl with | [_, _], _ => rfl), fnd_ok F sc__law_wares fun cdv A outer s H X hr => ?_⟩
  exact ss_cons (s_own (i := 2) sc__law_wares.nd rfl (.inl rfl) (fe_lst (da_nil) (by decide))) <|
    ss_cons (s_for (is := [3]) (passes_of rfl) rfl (di_range1 rfl E.b_range (ha_cons (he_of (de_bin o_add h_add (he_of (de_int)) (he_of (de_callC C__law_draw hr (by decide) (takes_of rfl rfl rfl rfl) rfl (da_cons (de_var (i := 0) rfl (.inl rfl)) (da_cons (de_int) (da_nil))) rfl)))) (ha_nil))) (dg_name (i := 3) (by decide) sc__law_wares.nd rfl (.inl rfl)) (nox_set) (ss_one (s_expr (de_app (he_pk (i := 2) rfl (.inl rfl)) (de_tup (da_cons (de_bin o_add h_add (he_of (de_int)) (he_of (de_callC C__law_draw hr (by decide) (takes_of rfl rfl rfl rfl) rfl (da_cons (de_var (i := 0) rfl (.inl rfl)) (da_cons (de_int) (da_nil))) rfl))) (da_cons (de_bin o_add h_add (he_of (de_int)) (he_of (de_callC C__law_draw hr (by decide) (takes_of rfl rfl rfl rfl) rfl (da_cons (de_var (i := 0) rfl (.inl rfl)) (da_cons (de_int) (da_nil))) rfl))) (da_cons (de_bin op_sub h_sub (he_of (de_callC C__law_draw hr (by decide) (takes_of rfl rfl rfl rfl) rfl (da_cons (de_var (i := 0) rfl (.inl rfl)) (da_cons (de_bin o_add h_add (he_of (de_bin o_mul h_mul (he_of (de_int)) (he_pk (i := 1) rfl (.inl rfl)))) (he_of (de_int))) (da_nil))) rfl)) (he_pk (i := 1) rfl (.inl rfl))) (da_nil)))) (by decide)))))) <|
    ss_one (s_ret (de_var (i := 2) rfl (.inl rfl)))
theorem ok_law {f : Addr} {fd : FuncData} (E : Ev mg) (F : Fun K "law" "law" st_law f fd) (C__law_asks : Cl P w K mg base 3 "_law_asks" ["deck", "many", "far"] F__law_asks) (C__law_deck : Cl P w K mg base 1 "_law_deck" ["script"] F__law_deck) (C__law_draw : Cl P w K mg base 1 "_law_draw" ["deck", "many"] F__law_draw) (C__law_greater : Cl P w K mg base 1 "_law_greater" ["some", "others"] F__law_greater) (C__law_lesser : Cl P w K mg base 1 "_law_lesser" ["some", "others"] F__law_lesser) (C__law_lists : Cl P w K mg base 1 "_law_lists" ["rounds", "many"] F__law_lists) (C__law_many : Cl P w K mg base 2 "_law_many" ["deck"] F__law_many) (C__law_moved : Cl P w K mg base 1 "_law_moved" ["numbers", "by"] F__law_moved) (C__law_run : Cl P w K mg base 2 "_law_run" ["wares", "asks", "many"] F__law_run) (C__law_second : Cl P w K mg base 6 "_law_second" ["deck", "wares", "asks", "line"] F__law_second) (C__law_wares : Cl P w K mg base 2 "_law_wares" ["deck", "far"] F__law_wares) (C_lets_be : Cl P w K mg base 5 "lets_be" ["goods", "worths", "row"] F_lets_be) (C_worths_let : Cl P w K mg base 5 "worths_let" ["goods", "length", "row"] F_worths_let) : FnD P w K mg base 7 f fd ["script"] F_law := by
  refine fnd_ok F sc_law fun cdv A outer s H X hr => ?_
  exact ss_cons (s_set (i := 1) sc_law.nd rfl (.inl rfl) (de_callC C__law_deck hr (by decide) (takes_of rfl rfl rfl rfl) rfl (da_cons (de_var (i := 0) rfl (.inl rfl)) (da_nil)) rfl)) <|
    ss_cons (s_for (is := [2]) (passes_of rfl) rfl (di_range1 rfl E.b_range (ha_cons (he_of (de_int)) (ha_nil))) (dg_name (i := 2) (by decide) sc_law.nd rfl (.inl rfl)) (nox_set) (ss_cons (s_set (i := 3) sc_law.nd rfl (.inr rfl) (de_callC C__law_wares hr (by decide) (takes_of rfl rfl rfl rfl) rfl (da_cons (de_var (i := 1) rfl (.inl rfl)) (da_cons (de_ix ix_seq h_ix (he_of (de_fz (fe_lst (da_cons (de_int) (da_cons (de_int) (da_nil))) (by decide)))) (he_of (de_callC C__law_draw hr (by decide) (takes_of rfl rfl rfl rfl) rfl (da_cons (de_var (i := 1) rfl (.inl rfl)) (da_cons (de_int) (da_nil))) rfl)) (fun _ _ => rfl)) (da_nil))) rfl)) <|
    ss_cons (s_set (i := 4) sc_law.nd rfl (.inl rfl) (de_callC C__law_asks hr (by decide) (takes_of rfl rfl rfl rfl) rfl (da_cons (de_var (i := 1) rfl (.inl rfl)) (da_cons (de_callB call_len h_len rfl E.b_len (by decide +kernel) (ha_cons (he_pk (i := 3) rfl (.inr (.inl rfl))) (ha_nil))) (da_cons (de_ix ix_seq h_ix (he_of (de_fz (fe_lst (da_cons (de_int) (da_cons (de_int) (da_nil))) (by decide)))) (he_of (de_callC C__law_draw hr (by decide) (takes_of rfl rfl rfl rfl) rfl (da_cons (de_var (i := 1) rfl (.inl rfl)) (da_cons (de_int) (da_nil))) rfl)) (fun _ _ => rfl)) (da_nil)))) rfl)) <|
    ss_cons (s_set (i := 5) sc_law.nd rfl (.inr rfl) (de_callC C__law_run hr (by decide) (takes_of rfl rfl rfl rfl) rfl (da_cons (de_var (i := 3) rfl (.inr (.inl rfl))) (da_cons (de_var (i := 4) rfl (.inl rfl)) (da_cons (de_callC C__law_many hr (by decide) (takes_of rfl rfl rfl rfl) rfl (da_cons (de_var (i := 1) rfl (.inl rfl)) (da_nil)) rfl) (da_nil)))) rfl)) <|
    ss_cons (s_set (i := 6) sc_law.nd rfl (.inl rfl) (de_callC C__law_lists hr (by decide) (takes_of rfl rfl rfl rfl) rfl (da_cons (de_var (i := 4) rfl (.inl rfl)) (da_cons (de_callB call_len h_len rfl E.b_len (by decide +kernel) (ha_cons (he_pk (i := 3) rfl (.inr (.inl rfl))) (ha_nil))) (da_nil))) rfl)) <|
    ss_cons (s_set (i := 7) sc_law.nd rfl (.inl rfl) (de_callC C__law_second hr (by decide) (takes_of rfl rfl rfl rfl) rfl (da_cons (de_var (i := 1) rfl (.inl rfl)) (da_cons (de_var (i := 3) rfl (.inr (.inl rfl))) (da_cons (de_var (i := 4) rfl (.inl rfl)) (da_cons (de_var (i := 5) rfl (.inr (.inl rfl))) (da_nil))))) rfl)) <|
    ss_cons (s_setC (i := 8) (own := [("some", 14), ("others", 15)]) rfl sc_law.nd rfl rfl (sw_true rfl rfl rfl rfl) (di_zip rfl E.b_zip (ha_cons (he_of (de_var (i := 6) rfl (.inl rfl))) (ha_cons (he_of (de_var (i := 7) rfl (.inl rfl))) (ha_nil)))) (blkOk_by (N := ["script", "deck", "turn", "wares", "asks", "line", "rounds", "second", "low", "high", "held", "by", "raised_wares", "due", "some", "others", "good", "a", "b"]) (sc := defScope st_law) (by decide +kernel)) (nox_take (nox_and (nox_set) (nox_and (nox_set) (nox_none)))) (fun _ _ _ _ _ => dg_tup rfl (dgs_cons (dg_name (i := 14) (by decide) sc_law.nd rfl (.inl rfl)) (dgs_cons (dg_name (i := 15) (by decide) sc_law.nd rfl (.inl rfl)) (dgs_nil)))) (fun _ _ _ _ _ => dts_nil) (fun _ _ _ _ _ => de_callC C__law_lesser hr (by decide) takes0 rfl (da_cons (de_var (i := 14) rfl (.inl rfl)) (da_cons (de_var (i := 15) rfl (.inl rfl)) (da_nil))) rfl)) <|
    ss_cons (s_setC (i := 9) (own := [("some", 14), ("others", 15)]) rfl sc_law.nd rfl rfl (sw_true rfl rfl rfl rfl) (di_zip rfl E.b_zip (ha_cons (he_of (de_var (i := 6) rfl (.inl rfl))) (ha_cons (he_of (de_var (i := 7) rfl (.inl rfl))) (ha_nil)))) (blkOk_by (N := ["script", "deck", "turn", "wares", "asks", "line", "rounds", "second", "low", "high", "held", "by", "raised_wares", "due", "some", "others", "good", "a", "b"]) (sc := defScope st_law) (by decide +kernel)) (nox_take (nox_and (nox_set) (nox_and (nox_set) (nox_none)))) (fun _ _ _ _ _ => dg_tup rfl (dgs_cons (dg_name (i := 14) (by decide) sc_law.nd rfl (.inl rfl)) (dgs_cons (dg_name (i := 15) (by decide) sc_law.nd rfl (.inl rfl)) (dgs_nil)))) (fun _ _ _ _ _ => dts_nil) (fun _ _ _ _ _ => de_callC C__law_greater hr (by decide) takes0 rfl (da_cons (de_var (i := 14) rfl (.inl rfl)) (da_cons (de_var (i := 15) rfl (.inl rfl)) (da_nil))) rfl)) <|
    ss_cons (s_if (dt_cmp (op_neD hr.units) h_ne (he_of (de_fz (fe_comp (own := [("held", 10)]) rfl sc_law.nd (di_seq (he_of (de_fz (fe_lst (da_cons (de_var (i := 6) rfl (.inl rfl)) (da_cons (de_var (i := 7) rfl (.inl rfl)) (da_cons (de_var (i := 8) rfl (.inl rfl)) (da_cons (de_var (i := 9) rfl (.inl rfl)) (da_nil))))) (by decide))))) (blkOk_by (N := ["script", "deck", "turn", "wares", "asks", "line", "rounds", "second", "low", "high", "held", "by", "raised_wares", "due", "some", "others", "good", "a", "b"]) (sc := defScope st_law) (by decide +kernel)) (nox_set) (fun _ _ _ _ _ => dg_name (i := 10) (by decide) sc_law.nd rfl (.inl rfl)) (fun _ _ _ _ _ => dts_one (dt_cmp op_notBl h_notb (he_of (de_callC C_lets_be hr (by decide) takes0 rfl (da_cons (de_var (i := 3) rfl (.inr (.inl rfl))) (da_cons (de_var (i := 10) rfl (.inl rfl)) (da_cons (de_var (i := 5) rfl (.inr (.inl rfl))) (da_nil)))) rfl)) (he_of (de_bl)) rfl)) (fun _ _ _ _ _ => de_var (i := 10) rfl (.inl rfl))))) (he_of (de_fz (fe_lst (da_nil) (by decide)))) rfl) (ss_one (s_ret (de_bl))) (ss_nil)) <|
    ss_cons (s_set (i := 11) sc_law.nd rfl (.inr rfl) (de_bin op_sub h_sub (he_of (de_callC C__law_draw hr (by decide) (takes_of rfl rfl rfl rfl) rfl (da_cons (de_var (i := 1) rfl (.inl rfl)) (da_cons (de_int) (da_nil))) rfl)) (he_of (de_int)))) <|
    ss_cons (s_setC (i := 12) (own := [("good", 16)]) rfl sc_law.nd rfl rfl (sw_true rfl rfl rfl rfl) (di_seq (he_of (de_var (i := 3) rfl (.inr (.inl rfl))))) (blkOk_by (N := ["script", "deck", "turn", "wares", "asks", "line", "rounds", "second", "low", "high", "held", "by", "raised_wares", "due", "some", "others", "good", "a", "b"]) (sc := defScope st_law) (by decide +kernel)) (nox_set) (fun _ _ _ _ _ => dg_name (i := 16) (by decide) sc_law.nd rfl (.inl rfl)) (fun _ _ _ _ _ => dts_nil) (fun _ _ _ _ _ => de_tup (da_cons (de_ix ix_seq h_ix (he_pk (i := 16) rfl (.inl rfl)) (he_of (de_int)) (fun _ _ => rfl)) (da_cons (de_ix ix_seq h_ix (he_pk (i := 16) rfl (.inl rfl)) (he_of (de_int)) (fun _ _ => rfl)) (da_cons (de_bin o_add h_add (he_of (de_ix ix_seq h_ix (he_pk (i := 16) rfl (.inl rfl)) (he_of (de_int)) (fun _ _ => rfl))) (he_pk (i := 11) rfl (.inr (.inl rfl)))) (da_nil)))) (by decide))) <|
    ss_cons (s_setC (i := 13) (own := [("a", 17), ("b", 18)]) rfl sc_law.nd rfl rfl (sw_true rfl rfl rfl rfl) (di_seq (he_of (de_callC C_worths_let hr (by decide) (takes_of rfl rfl rfl rfl) rfl (da_cons (de_var (i := 3) rfl (.inr (.inl rfl))) (da_cons (de_callB call_len h_len rfl E.b_len (by decide +kernel) (ha_cons (he_pk (i := 4) rfl (.inl rfl)) (ha_nil))) (da_cons (de_var (i := 5) rfl (.inr (.inl rfl))) (da_nil)))) rfl))) (blkOk_by (N := ["script", "deck", "turn", "wares", "asks", "line", "rounds", "second", "low", "high", "held", "by", "raised_wares", "due", "some", "others", "good", "a", "b"]) (sc := defScope st_law) (by decide +kernel)) (nox_take (nox_and (nox_set) (nox_and (nox_set) (nox_none)))) (fun _ _ _ _ _ => dg_tup rfl (dgs_cons (dg_name (i := 17) (by decide) sc_law.nd rfl (.inl rfl)) (dgs_cons (dg_name (i := 18) (by decide) sc_law.nd rfl (.inl rfl)) (dgs_nil)))) (fun _ _ _ _ _ => dts_nil) (fun _ _ _ _ _ => de_tup (da_cons (de_callC C__law_moved hr (by decide) takes0 rfl (da_cons (de_var (i := 17) rfl (.inl rfl)) (da_cons (de_var (i := 11) rfl (.inr (.inl rfl))) (da_nil))) rfl) (da_cons (de_callC C__law_moved hr (by decide) takes0 rfl (da_cons (de_var (i := 18) rfl (.inl rfl)) (da_cons (de_var (i := 11) rfl (.inr (.inl rfl))) (da_nil))) rfl) (da_nil))) (by decide))) <|
    ss_cons (s_if (dt_cmp (op_neD hr.units) h_ne (he_of (de_callC C_worths_let hr (by decide) (takes_of rfl rfl rfl rfl) rfl (da_cons (de_var (i := 12) rfl (.inl rfl)) (da_cons (de_callB call_len h_len rfl E.b_len (by decide +kernel) (ha_cons (he_pk (i := 4) rfl (.inl rfl)) (ha_nil))) (da_cons (de_var (i := 5) rfl (.inr (.inl rfl))) (da_nil)))) rfl)) (he_pk (i := 13) rfl (.inl rfl)) rfl) (ss_one (s_ret (de_bl))) (ss_nil)) <|
    ss_one (s_for (is := [10]) (passes_of rfl) rfl (di_seq (he_of (de_fz (fe_lst (da_cons (de_var (i := 8) rfl (.inl rfl)) (da_cons (de_var (i := 7) rfl (.inl rfl)) (da_nil))) (by decide))))) (dg_name (i := 10) (by decide) sc_law.nd rfl (.inl rfl)) (nox_set) (ss_one (s_if (dt_not (dt_tru (he_of (de_callC C_lets_be hr (by decide) (takes_of rfl rfl rfl rfl) rfl (da_cons (de_var (i := 12) rfl (.inl rfl)) (da_cons (de_fz (fe_comp (own := [("some", 14)]) rfl sc_law.nd (di_seq (he_of (de_var (i := 10) rfl (.inl rfl)))) (blkOk_by (N := ["script", "deck", "turn", "wares", "asks", "line", "rounds", "second", "low", "high", "held", "by", "raised_wares", "due", "some", "others", "good", "a", "b"]) (sc := defScope st_law) (by decide +kernel)) (nox_set) (fun _ _ _ _ _ => dg_name (i := 14) (by decide) sc_law.nd rfl (.inl rfl)) (fun _ _ _ _ _ => dts_nil) (fun _ _ _ _ _ => de_callC C__law_moved hr (by decide) takes0 rfl (da_cons (de_var (i := 14) rfl (.inl rfl)) (da_cons (de_var (i := 11) rfl (.inr (.inl rfl))) (da_nil))) rfl))) (da_cons (de_var (i := 5) rfl (.inr (.inl rfl))) (da_nil)))) rfl)))) (ss_one (s_ret (de_bl))) (ss_nil)))))) <|
    ss_one (s_ret (de_bl))
end
theorem all_mk {l : PySem.W.OpenLaw} {w : World} {K : PySem.W.Frag} {h : Heap} {mg : Str → Option Value} {fa : Addr} (X : K.In h) (G : h.Ns mainGlobals mg) (hfa : mg "law" = some (.ref fa))
    {f1 : Addr} {od1 an1 : Option Addr} {sl1 : Array (Option Value)} {oc1 kV1 dc1 pm1 cd1 ct1 : Value}
    (a1 : PySem.W.nsIn K mainGlobals "_law_draw" = some (some (.ref f1))) (l1 : K.lookup f1 = some ⟨oc1, od1, .func (PySem.W.fnOf "_law_draw" "_law_draw" (defArgs st__law_draw) (defBody st__law_draw) (defScope st__law_draw) .none kV1 dc1 pm1 an1 cd1 ct1), sl1⟩) (c1 : PySem.W.codeIn K cd1 "_law_draw" = true) (k1 : PySem.W.keepIn K (.ref f1) = true)
    {f2 : Addr} {od2 an2 : Option Addr} {sl2 : Array (Option Value)} {oc2 kV2 dc2 pm2 cd2 ct2 : Value}
    (a2 : PySem.W.nsIn K mainGlobals "_law_buyer" = some (some (.ref f2))) (l2 : K.lookup f2 = some ⟨oc2, od2, .func (PySem.W.fnOf "_law_buyer" "_law_buyer" (defArgs st__law_buyer) (defBody st__law_buyer) (defScope st__law_buyer) .none kV2 dc2 pm2 an2 cd2 ct2), sl2⟩) (c2 : PySem.W.codeIn K cd2 "_law_buyer" = true) (k2 : PySem.W.keepIn K (.ref f2) = true)
    {f3 : Addr} {od3 an3 : Option Addr} {sl3 : Array (Option Value)} {oc3 kV3 dc3 pm3 cd3 ct3 : Value}
    (a3 : PySem.W.nsIn K mainGlobals "_law_asks" = some (some (.ref f3))) (l3 : K.lookup f3 = some ⟨oc3, od3, .func (PySem.W.fnOf "_law_asks" "_law_asks" (defArgs st__law_asks) (defBody st__law_asks) (defScope st__law_asks) .none kV3 dc3 pm3 an3 cd3 ct3), sl3⟩) (c3 : PySem.W.codeIn K cd3 "_law_asks" = true) (k3 : PySem.W.keepIn K (.ref f3) = true)
    {f4 : Addr} {od4 an4 : Option Addr} {sl4 : Array (Option Value)} {oc4 kV4 dc4 pm4 cd4 ct4 : Value}
    (a4 : PySem.W.nsIn K mainGlobals "_law_deck" = some (some (.ref f4))) (l4 : K.lookup f4 = some ⟨oc4, od4, .func (PySem.W.fnOf "_law_deck" "_law_deck" (defArgs st__law_deck) (defBody st__law_deck) (defScope st__law_deck) .none kV4 dc4 pm4 an4 cd4 ct4), sl4⟩) (c4 : PySem.W.codeIn K cd4 "_law_deck" = true) (k4 : PySem.W.keepIn K (.ref f4) = true)
    {f5 : Addr} {od5 an5 : Option Addr} {sl5 : Array (Option Value)} {oc5 kV5 dc5 pm5 cd5 ct5 : Value}
    (a5 : PySem.W.nsIn K mainGlobals "_law_greater" = some (some (.ref f5))) (l5 : K.lookup f5 = some ⟨oc5, od5, .func (PySem.W.fnOf "_law_greater" "_law_greater" (defArgs st__law_greater) (defBody st__law_greater) (defScope st__law_greater) .none kV5 dc5 pm5 an5 cd5 ct5), sl5⟩) (c5 : PySem.W.codeIn K cd5 "_law_greater" = true) (k5 : PySem.W.keepIn K (.ref f5) = true)
    {f6 : Addr} {od6 an6 : Option Addr} {sl6 : Array (Option Value)} {oc6 kV6 dc6 pm6 cd6 ct6 : Value}
    (a6 : PySem.W.nsIn K mainGlobals "_law_lesser" = some (some (.ref f6))) (l6 : K.lookup f6 = some ⟨oc6, od6, .func (PySem.W.fnOf "_law_lesser" "_law_lesser" (defArgs st__law_lesser) (defBody st__law_lesser) (defScope st__law_lesser) .none kV6 dc6 pm6 an6 cd6 ct6), sl6⟩) (c6 : PySem.W.codeIn K cd6 "_law_lesser" = true) (k6 : PySem.W.keepIn K (.ref f6) = true)
    {f7 : Addr} {od7 an7 : Option Addr} {sl7 : Array (Option Value)} {oc7 kV7 dc7 pm7 cd7 ct7 : Value}
    (a7 : PySem.W.nsIn K mainGlobals "_law_lists" = some (some (.ref f7))) (l7 : K.lookup f7 = some ⟨oc7, od7, .func (PySem.W.fnOf "_law_lists" "_law_lists" (defArgs st__law_lists) (defBody st__law_lists) (defScope st__law_lists) .none kV7 dc7 pm7 an7 cd7 ct7), sl7⟩) (c7 : PySem.W.codeIn K cd7 "_law_lists" = true) (k7 : PySem.W.keepIn K (.ref f7) = true)
    {f8 : Addr} {od8 an8 : Option Addr} {sl8 : Array (Option Value)} {oc8 kV8 dc8 pm8 cd8 ct8 : Value}
    (a8 : PySem.W.nsIn K mainGlobals "_law_many" = some (some (.ref f8))) (l8 : K.lookup f8 = some ⟨oc8, od8, .func (PySem.W.fnOf "_law_many" "_law_many" (defArgs st__law_many) (defBody st__law_many) (defScope st__law_many) .none kV8 dc8 pm8 an8 cd8 ct8), sl8⟩) (c8 : PySem.W.codeIn K cd8 "_law_many" = true) (k8 : PySem.W.keepIn K (.ref f8) = true)
    {f9 : Addr} {od9 an9 : Option Addr} {sl9 : Array (Option Value)} {oc9 kV9 dc9 pm9 cd9 ct9 : Value}
    (a9 : PySem.W.nsIn K mainGlobals "_law_moved" = some (some (.ref f9))) (l9 : K.lookup f9 = some ⟨oc9, od9, .func (PySem.W.fnOf "_law_moved" "_law_moved" (defArgs st__law_moved) (defBody st__law_moved) (defScope st__law_moved) .none kV9 dc9 pm9 an9 cd9 ct9), sl9⟩) (c9 : PySem.W.codeIn K cd9 "_law_moved" = true) (k9 : PySem.W.keepIn K (.ref f9) = true)
    {f10 : Addr} {od10 an10 : Option Addr} {sl10 : Array (Option Value)} {oc10 kV10 dc10 pm10 cd10 ct10 : Value}
    (a10 : PySem.W.nsIn K mainGlobals "_law_behind" = some (some (.ref f10))) (l10 : K.lookup f10 = some ⟨oc10, od10, .func (PySem.W.fnOf "_law_behind" "_law_behind" (defArgs st__law_behind) (defBody st__law_behind) (defScope st__law_behind) .none kV10 dc10 pm10 an10 cd10 ct10), sl10⟩) (c10 : PySem.W.codeIn K cd10 "_law_behind" = true) (k10 : PySem.W.keepIn K (.ref f10) = true)
    {f11 : Addr} {od11 an11 : Option Addr} {sl11 : Array (Option Value)} {oc11 kV11 dc11 pm11 cd11 ct11 : Value}
    (a11 : PySem.W.nsIn K mainGlobals "_law_take" = some (some (.ref f11))) (l11 : K.lookup f11 = some ⟨oc11, od11, .func (PySem.W.fnOf "_law_take" "_law_take" (defArgs st__law_take) (defBody st__law_take) (defScope st__law_take) .none kV11 dc11 pm11 an11 cd11 ct11), sl11⟩) (c11 : PySem.W.codeIn K cd11 "_law_take" = true) (k11 : PySem.W.keepIn K (.ref f11) = true)
    {f12 : Addr} {od12 an12 : Option Addr} {sl12 : Array (Option Value)} {oc12 kV12 dc12 pm12 cd12 ct12 : Value}
    (a12 : PySem.W.nsIn K mainGlobals "_law_run" = some (some (.ref f12))) (l12 : K.lookup f12 = some ⟨oc12, od12, .func (PySem.W.fnOf "_law_run" "_law_run" (defArgs st__law_run) (defBody st__law_run) (defScope st__law_run) .none kV12 dc12 pm12 an12 cd12 ct12), sl12⟩) (c12 : PySem.W.codeIn K cd12 "_law_run" = true) (k12 : PySem.W.keepIn K (.ref f12) = true)
    {f13 : Addr} {od13 an13 : Option Addr} {sl13 : Array (Option Value)} {oc13 kV13 dc13 pm13 cd13 ct13 : Value}
    (a13 : PySem.W.nsIn K mainGlobals "moved" = some (some (.ref f13))) (l13 : K.lookup f13 = some ⟨oc13, od13, .func (PySem.W.fnOf "moved" "moved" (defArgs st_moved) (defBody st_moved) (defScope st_moved) .none kV13 dc13 pm13 an13 cd13 ct13), sl13⟩) (c13 : PySem.W.codeIn K cd13 "moved" = true) (k13 : PySem.W.keepIn K (.ref f13) = true)
    {f14 : Addr} {od14 an14 : Option Addr} {sl14 : Array (Option Value)} {oc14 kV14 dc14 pm14 cd14 ct14 : Value}
    (a14 : PySem.W.nsIn K mainGlobals "days_seen" = some (some (.ref f14))) (l14 : K.lookup f14 = some ⟨oc14, od14, .func (PySem.W.fnOf "days_seen" "days_seen" (defArgs st_days_seen) (defBody st_days_seen) (defScope st_days_seen) .none kV14 dc14 pm14 an14 cd14 ct14), sl14⟩) (c14 : PySem.W.codeIn K cd14 "days_seen" = true) (k14 : PySem.W.keepIn K (.ref f14) = true)
    {f15 : Addr} {od15 an15 : Option Addr} {sl15 : Array (Option Value)} {oc15 kV15 dc15 pm15 cd15 ct15 : Value} {T15 : Addr} {cT15 : Value} {oT15 : Option Addr} {nT15 : Nat} {sT15 : Array (Option Value)}
    (a15 : PySem.W.nsIn K mainGlobals "is_whole" = some (some (.ref f15))) (l15 : K.lookup f15 = some ⟨oc15, od15, .func (PySem.W.fnOf "is_whole" "is_whole" (defArgs st_is_whole) (defBody st_is_whole) (defScope st_is_whole) (.ref T15) kV15 dc15 pm15 an15 cd15 ct15), sl15⟩) (c15 : PySem.W.codeIn K cd15 "is_whole" = true) (k15 : PySem.W.keepIn K (.ref f15) = true)
    (t15 : K.lookup T15 = some ⟨cT15, oT15, .seq #[.none, .none] nT15, sT15⟩)
    {f16 : Addr} {od16 an16 : Option Addr} {sl16 : Array (Option Value)} {oc16 kV16 dc16 pm16 cd16 ct16 : Value}
    (a16 : PySem.W.nsIn K mainGlobals "is_good" = some (some (.ref f16))) (l16 : K.lookup f16 = some ⟨oc16, od16, .func (PySem.W.fnOf "is_good" "is_good" (defArgs st_is_good) (defBody st_is_good) (defScope st_is_good) .none kV16 dc16 pm16 an16 cd16 ct16), sl16⟩) (c16 : PySem.W.codeIn K cd16 "is_good" = true) (k16 : PySem.W.keepIn K (.ref f16) = true)
    {f17 : Addr} {od17 an17 : Option Addr} {sl17 : Array (Option Value)} {oc17 kV17 dc17 pm17 cd17 ct17 : Value}
    (a17 : PySem.W.nsIn K mainGlobals "is_list" = some (some (.ref f17))) (l17 : K.lookup f17 = some ⟨oc17, od17, .func (PySem.W.fnOf "is_list" "is_list" (defArgs st_is_list) (defBody st_is_list) (defScope st_is_list) .none kV17 dc17 pm17 an17 cd17 ct17), sl17⟩) (c17 : PySem.W.codeIn K cd17 "is_list" = true) (k17 : PySem.W.keepIn K (.ref f17) = true)
    {f18 : Addr} {od18 an18 : Option Addr} {sl18 : Array (Option Value)} {oc18 kV18 dc18 pm18 cd18 ct18 : Value}
    (a18 : PySem.W.nsIn K mainGlobals "is_goods" = some (some (.ref f18))) (l18 : K.lookup f18 = some ⟨oc18, od18, .func (PySem.W.fnOf "is_goods" "is_goods" (defArgs st_is_goods) (defBody st_is_goods) (defScope st_is_goods) .none kV18 dc18 pm18 an18 cd18 ct18), sl18⟩) (c18 : PySem.W.codeIn K cd18 "is_goods" = true) (k18 : PySem.W.keepIn K (.ref f18) = true)
    {f19 : Addr} {od19 an19 : Option Addr} {sl19 : Array (Option Value)} {oc19 kV19 dc19 pm19 cd19 ct19 : Value}
    (a19 : PySem.W.nsIn K mainGlobals "is_row" = some (some (.ref f19))) (l19 : K.lookup f19 = some ⟨oc19, od19, .func (PySem.W.fnOf "is_row" "is_row" (defArgs st_is_row) (defBody st_is_row) (defScope st_is_row) .none kV19 dc19 pm19 an19 cd19 ct19), sl19⟩) (c19 : PySem.W.codeIn K cd19 "is_row" = true) (k19 : PySem.W.keepIn K (.ref f19) = true)
    {f20 : Addr} {od20 an20 : Option Addr} {sl20 : Array (Option Value)} {oc20 kV20 dc20 pm20 cd20 ct20 : Value}
    (a20 : PySem.W.nsIn K mainGlobals "need_seen" = some (some (.ref f20))) (l20 : K.lookup f20 = some ⟨oc20, od20, .func (PySem.W.fnOf "need_seen" "need_seen" (defArgs st_need_seen) (defBody st_need_seen) (defScope st_need_seen) .none kV20 dc20 pm20 an20 cd20 ct20), sl20⟩) (c20 : PySem.W.codeIn K cd20 "need_seen" = true) (k20 : PySem.W.keepIn K (.ref f20) = true)
    {f21 : Addr} {od21 an21 : Option Addr} {sl21 : Array (Option Value)} {oc21 kV21 dc21 pm21 cd21 ct21 : Value}
    (a21 : PySem.W.nsIn K mainGlobals "taken" = some (some (.ref f21))) (l21 : K.lookup f21 = some ⟨oc21, od21, .func (PySem.W.fnOf "taken" "taken" (defArgs st_taken) (defBody st_taken) (defScope st_taken) .none kV21 dc21 pm21 an21 cd21 ct21), sl21⟩) (c21 : PySem.W.codeIn K cd21 "taken" = true) (k21 : PySem.W.keepIn K (.ref f21) = true)
    {f22 : Addr} {od22 an22 : Option Addr} {sl22 : Array (Option Value)} {oc22 kV22 dc22 pm22 cd22 ct22 : Value}
    (a22 : PySem.W.nsIn K mainGlobals "lets_be" = some (some (.ref f22))) (l22 : K.lookup f22 = some ⟨oc22, od22, .func (PySem.W.fnOf "lets_be" "lets_be" (defArgs st_lets_be) (defBody st_lets_be) (defScope st_lets_be) .none kV22 dc22 pm22 an22 cd22 ct22), sl22⟩) (c22 : PySem.W.codeIn K cd22 "lets_be" = true) (k22 : PySem.W.keepIn K (.ref f22) = true)
    {f23 : Addr} {od23 an23 : Option Addr} {sl23 : Array (Option Value)} {oc23 kV23 dc23 pm23 cd23 ct23 : Value}
    (a23 : PySem.W.nsIn K mainGlobals "raised" = some (some (.ref f23))) (l23 : K.lookup f23 = some ⟨oc23, od23, .func (PySem.W.fnOf "raised" "raised" (defArgs st_raised) (defBody st_raised) (defScope st_raised) .none kV23 dc23 pm23 an23 cd23 ct23), sl23⟩) (c23 : PySem.W.codeIn K cd23 "raised" = true) (k23 : PySem.W.keepIn K (.ref f23) = true)
    {f24 : Addr} {od24 an24 : Option Addr} {sl24 : Array (Option Value)} {oc24 kV24 dc24 pm24 cd24 ct24 : Value}
    (a24 : PySem.W.nsIn K mainGlobals "greater" = some (some (.ref f24))) (l24 : K.lookup f24 = some ⟨oc24, od24, .func (PySem.W.fnOf "greater" "greater" (defArgs st_greater) (defBody st_greater) (defScope st_greater) .none kV24 dc24 pm24 an24 cd24 ct24), sl24⟩) (c24 : PySem.W.codeIn K cd24 "greater" = true) (k24 : PySem.W.keepIn K (.ref f24) = true)
    {f25 : Addr} {od25 an25 : Option Addr} {sl25 : Array (Option Value)} {oc25 kV25 dc25 pm25 cd25 ct25 : Value}
    (a25 : PySem.W.nsIn K mainGlobals "lesser" = some (some (.ref f25))) (l25 : K.lookup f25 = some ⟨oc25, od25, .func (PySem.W.fnOf "lesser" "lesser" (defArgs st_lesser) (defBody st_lesser) (defScope st_lesser) .none kV25 dc25 pm25 an25 cd25 ct25), sl25⟩) (c25 : PySem.W.codeIn K cd25 "lesser" = true) (k25 : PySem.W.keepIn K (.ref f25) = true)
    {f26 : Addr} {od26 an26 : Option Addr} {sl26 : Array (Option Value)} {oc26 kV26 dc26 pm26 cd26 ct26 : Value}
    (a26 : PySem.W.nsIn K mainGlobals "tied" = some (some (.ref f26))) (l26 : K.lookup f26 = some ⟨oc26, od26, .func (PySem.W.fnOf "tied" "tied" (defArgs st_tied) (defBody st_tied) (defScope st_tied) .none kV26 dc26 pm26 an26 cd26 ct26), sl26⟩) (c26 : PySem.W.codeIn K cd26 "tied" = true) (k26 : PySem.W.keepIn K (.ref f26) = true)
    {f27 : Addr} {od27 an27 : Option Addr} {sl27 : Array (Option Value)} {oc27 kV27 dc27 pm27 cd27 ct27 : Value}
    (a27 : PySem.W.nsIn K mainGlobals "least_of" = some (some (.ref f27))) (l27 : K.lookup f27 = some ⟨oc27, od27, .func (PySem.W.fnOf "least_of" "least_of" (defArgs st_least_of) (defBody st_least_of) (defScope st_least_of) .none kV27 dc27 pm27 an27 cd27 ct27), sl27⟩) (c27 : PySem.W.codeIn K cd27 "least_of" = true) (k27 : PySem.W.keepIn K (.ref f27) = true)
    {f28 : Addr} {od28 an28 : Option Addr} {sl28 : Array (Option Value)} {oc28 kV28 dc28 pm28 cd28 ct28 : Value}
    (a28 : PySem.W.nsIn K mainGlobals "lowered" = some (some (.ref f28))) (l28 : K.lookup f28 = some ⟨oc28, od28, .func (PySem.W.fnOf "lowered" "lowered" (defArgs st_lowered) (defBody st_lowered) (defScope st_lowered) .none kV28 dc28 pm28 an28 cd28 ct28), sl28⟩) (c28 : PySem.W.codeIn K cd28 "lowered" = true) (k28 : PySem.W.keepIn K (.ref f28) = true)
    {f29 : Addr} {od29 an29 : Option Addr} {sl29 : Array (Option Value)} {oc29 kV29 dc29 pm29 cd29 ct29 : Value}
    (a29 : PySem.W.nsIn K mainGlobals "worths_let" = some (some (.ref f29))) (l29 : K.lookup f29 = some ⟨oc29, od29, .func (PySem.W.fnOf "worths_let" "worths_let" (defArgs st_worths_let) (defBody st_worths_let) (defScope st_worths_let) .none kV29 dc29 pm29 an29 cd29 ct29), sl29⟩) (c29 : PySem.W.codeIn K cd29 "worths_let" = true) (k29 : PySem.W.keepIn K (.ref f29) = true)
    {f30 : Addr} {od30 an30 : Option Addr} {sl30 : Array (Option Value)} {oc30 kV30 dc30 pm30 cd30 ct30 : Value}
    (a30 : PySem.W.nsIn K mainGlobals "_law_second" = some (some (.ref f30))) (l30 : K.lookup f30 = some ⟨oc30, od30, .func (PySem.W.fnOf "_law_second" "_law_second" (defArgs st__law_second) (defBody st__law_second) (defScope st__law_second) .none kV30 dc30 pm30 an30 cd30 ct30), sl30⟩) (c30 : PySem.W.codeIn K cd30 "_law_second" = true) (k30 : PySem.W.keepIn K (.ref f30) = true)
    {f31 : Addr} {od31 an31 : Option Addr} {sl31 : Array (Option Value)} {oc31 kV31 dc31 pm31 cd31 ct31 : Value}
    (a31 : PySem.W.nsIn K mainGlobals "_law_wares" = some (some (.ref f31))) (l31 : K.lookup f31 = some ⟨oc31, od31, .func (PySem.W.fnOf "_law_wares" "_law_wares" (defArgs st__law_wares) (defBody st__law_wares) (defScope st__law_wares) .none kV31 dc31 pm31 an31 cd31 ct31), sl31⟩) (c31 : PySem.W.codeIn K cd31 "_law_wares" = true) (k31 : PySem.W.keepIn K (.ref f31) = true)
    {f32 : Addr} {od32 an32 : Option Addr} {sl32 : Array (Option Value)} {oc32 kV32 dc32 pm32 cd32 ct32 : Value}
    (a32 : PySem.W.nsIn K mainGlobals "law" = some (some (.ref f32))) (l32 : K.lookup f32 = some ⟨oc32, od32, .func (PySem.W.fnOf "law" "law" (defArgs st_law) (defBody st_law) (defScope st_law) .none kV32 dc32 pm32 an32 cd32 ct32), sl32⟩) (c32 : PySem.W.codeIn K cd32 "law" = true) (k32 : PySem.W.keepIn K (.ref f32) = true)
    (z_all : PySem.W.nsIn K mainGlobals "all" = some none)
    (z_bool : PySem.W.nsIn K mainGlobals "bool" = some none)
    (z_enumerate : PySem.W.nsIn K mainGlobals "enumerate" = some none)
    (z_int : PySem.W.nsIn K mainGlobals "int" = some none)
    (z_isinstance : PySem.W.nsIn K mainGlobals "isinstance" = some none)
    (z_len : PySem.W.nsIn K mainGlobals "len" = some none)
    (z_list : PySem.W.nsIn K mainGlobals "list" = some none)
    (z_max : PySem.W.nsIn K mainGlobals "max" = some none)
    (z_min : PySem.W.nsIn K mainGlobals "min" = some none)
    (z_range : PySem.W.nsIn K mainGlobals "range" = some none)
    (z_tuple : PySem.W.nsIn K mainGlobals "tuple" = some none)
    (z_zip : PySem.W.nsIn K mainGlobals "zip" = some none)
    {tk_MOST_GOODS : Tok} (z_MOST_GOODS : PySem.W.nsIn K mainGlobals "MOST_GOODS" = some (some (.int 4 tk_MOST_GOODS)))
    {tk_MOST_LENGTH : Tok} (z_MOST_LENGTH : PySem.W.nsIn K mainGlobals "MOST_LENGTH" = some (some (.int 6 tk_MOST_LENGTH)))
    {tk_MOST_STEP : Tok} (z_MOST_STEP : PySem.W.nsIn K mainGlobals "MOST_STEP" = some (some (.int 4 tk_MOST_STEP)))
    {tk_MOST_TAKES : Tok} (z_MOST_TAKES : PySem.W.nsIn K mainGlobals "MOST_TAKES" = some (some (.int 300 tk_MOST_TAKES)))
    {tk_MOST_WORTH : Tok} (z_MOST_WORTH : PySem.W.nsIn K mainGlobals "MOST_WORTH" = some (some (.int 99 tk_MOST_WORTH)))
    (hl : ∀ ns : List Int, ns.length ≤ 63 → ∃ m, F_law [.loc (ns.map D.int)] [] = .ok (.bl true) m) :
    ∃ fd : FuncData, (∀ (s : Shared) (v : Value), BindsTo s fd ⟨[v], []⟩ [("script", v)]) ∧ ∀ base : Heap, K.In base → base.Ns mainGlobals mg → FnOk l.prog w K mg base (L2.CX l.prog w) 7 fa fd ["script"] (spLaw K) := by
  have e := hfa.symm.trans (PySem.W.mg_of X G a32)
  cases e
  have E : Ev mg := ⟨PySem.W.mg_none_of X G z_all, PySem.W.mg_none_of X G z_bool, PySem.W.mg_none_of X G z_enumerate, PySem.W.mg_none_of X G z_int, PySem.W.mg_none_of X G z_isinstance, PySem.W.mg_none_of X G z_len, PySem.W.mg_none_of X G z_list, PySem.W.mg_none_of X G z_max, PySem.W.mg_none_of X G z_min, PySem.W.mg_none_of X G z_range, PySem.W.mg_none_of X G z_tuple, PySem.W.mg_none_of X G z_zip, ⟨_, PySem.W.mg_of X G z_MOST_GOODS⟩, ⟨_, PySem.W.mg_of X G z_MOST_LENGTH⟩, ⟨_, PySem.W.mg_of X G z_MOST_STEP⟩, ⟨_, PySem.W.mg_of X G z_MOST_TAKES⟩, ⟨_, PySem.W.mg_of X G z_MOST_WORTH⟩⟩
  have F1 := fun_mk (st := st__law_draw) l1 c1 k1
  have F2 := fun_mk (st := st__law_buyer) l2 c2 k2
  have F3 := fun_mk (st := st__law_asks) l3 c3 k3
  have F4 := fun_mk (st := st__law_deck) l4 c4 k4
  have F5 := fun_mk (st := st__law_greater) l5 c5 k5
  have F6 := fun_mk (st := st__law_lesser) l6 c6 k6
  have F7 := fun_mk (st := st__law_lists) l7 c7 k7
  have F8 := fun_mk (st := st__law_many) l8 c8 k8
  have F9 := fun_mk (st := st__law_moved) l9 c9 k9
  have F10 := fun_mk (st := st__law_behind) l10 c10 k10
  have F11 := fun_mk (st := st__law_take) l11 c11 k11
  have F12 := fun_mk (st := st__law_run) l12 c12 k12
  have F13 := fun_mk (st := st_moved) l13 c13 k13
  have F14 := fun_mk (st := st_days_seen) l14 c14 k14
  have F15 := funD_mk (st := st_is_whole) (dvs := [.non, .non]) (its := [.none, .none]) l15 c15 k15 t15 (by simp) (.cons rfl (.cons rfl .nil))
  have F16 := fun_mk (st := st_is_good) l16 c16 k16
  have F17 := fun_mk (st := st_is_list) l17 c17 k17
  have F18 := fun_mk (st := st_is_goods) l18 c18 k18
  have F19 := fun_mk (st := st_is_row) l19 c19 k19
  have F20 := fun_mk (st := st_need_seen) l20 c20 k20
  have F21 := fun_mk (st := st_taken) l21 c21 k21
  have F22 := fun_mk (st := st_lets_be) l22 c22 k22
  have F23 := fun_mk (st := st_raised) l23 c23 k23
  have F24 := fun_mk (st := st_greater) l24 c24 k24
  have F25 := fun_mk (st := st_lesser) l25 c25 k25
  have F26 := fun_mk (st := st_tied) l26 c26 k26
  have F27 := fun_mk (st := st_least_of) l27 c27 k27
  have F28 := fun_mk (st := st_lowered) l28 c28 k28
  have F29 := fun_mk (st := st_worths_let) l29 c29 k29
  have F30 := fun_mk (st := st__law_second) l30 c30 k30
  have F31 := fun_mk (st := st__law_wares) l31 c31 k31
  have F32 := fun_mk (st := st_law) l32 c32 k32
  refine ⟨PySem.W.fnOf "law" "law" (defArgs st_law) (defBody st_law) (defScope st_law) .none kV32 dc32 pm32 an32 cd32 ct32, fun s v => .of_eq rfl, fun base _ _ => ?_⟩
  have C__law_draw := ok__law_draw (P := l.prog) (w := w) (base := base) E F1 (PySem.W.mg_of X G a1) 
  have C__law_buyer := ok__law_buyer (P := l.prog) (w := w) (base := base) E F2 (PySem.W.mg_of X G a2) C__law_draw
  have C__law_asks := ok__law_asks (P := l.prog) (w := w) (base := base) E F3 (PySem.W.mg_of X G a3) C__law_buyer C__law_draw
  have C__law_deck := ok__law_deck (P := l.prog) (w := w) (base := base) E F4 (PySem.W.mg_of X G a4) 
  have C__law_greater := ok__law_greater (P := l.prog) (w := w) (base := base) E F5 (PySem.W.mg_of X G a5) 
  have C__law_lesser := ok__law_lesser (P := l.prog) (w := w) (base := base) E F6 (PySem.W.mg_of X G a6) 
  have C__law_lists := ok__law_lists (P := l.prog) (w := w) (base := base) E F7 (PySem.W.mg_of X G a7) 
  have C__law_many := ok__law_many (P := l.prog) (w := w) (base := base) E F8 (PySem.W.mg_of X G a8) C__law_draw
  have C__law_moved := ok__law_moved (P := l.prog) (w := w) (base := base) E F9 (PySem.W.mg_of X G a9) 
  have C__law_behind := ok__law_behind (P := l.prog) (w := w) (base := base) E F10 (PySem.W.mg_of X G a10) 
  have C__law_take := ok__law_take (P := l.prog) (w := w) (base := base) E F11 (PySem.W.mg_of X G a11) 
  have C__law_run := ok__law_run (P := l.prog) (w := w) (base := base) E F12 (PySem.W.mg_of X G a12) C__law_behind C__law_take
  have C_moved := ok_moved (P := l.prog) (w := w) (base := base) E F13 (PySem.W.mg_of X G a13) 
  have C_days_seen := ok_days_seen (P := l.prog) (w := w) (base := base) E F14 (PySem.W.mg_of X G a14) C_moved
  have C_is_whole := ok_is_whole (P := l.prog) (w := w) (base := base) E F15 (PySem.W.mg_of X G a15) 
  have C_is_good := ok_is_good (P := l.prog) (w := w) (base := base) E F16 (PySem.W.mg_of X G a16) C_is_whole
  have C_is_list := ok_is_list (P := l.prog) (w := w) (base := base) E F17 (PySem.W.mg_of X G a17) 
  have C_is_goods := ok_is_goods (P := l.prog) (w := w) (base := base) E F18 (PySem.W.mg_of X G a18) C_is_good C_is_list
  have C_is_row := ok_is_row (P := l.prog) (w := w) (base := base) E F19 (PySem.W.mg_of X G a19) C_is_whole
  have C_need_seen := ok_need_seen (P := l.prog) (w := w) (base := base) E F20 (PySem.W.mg_of X G a20) C_is_goods C_is_row C_is_whole
  have C_taken := ok_taken (P := l.prog) (w := w) (base := base) E F21 (PySem.W.mg_of X G a21) 
  have C_lets_be := ok_lets_be (P := l.prog) (w := w) (base := base) E F22 (PySem.W.mg_of X G a22) C_days_seen C_need_seen C_taken
  have C_raised := ok_raised (P := l.prog) (w := w) (base := base) E F23 (PySem.W.mg_of X G a23) 
  have C_greater := ok_greater (P := l.prog) (w := w) (base := base) E F24 (PySem.W.mg_of X G a24) 
  have C_lesser := ok_lesser (P := l.prog) (w := w) (base := base) E F25 (PySem.W.mg_of X G a25) 
  have C_tied := ok_tied (P := l.prog) (w := w) (base := base) E F26 (PySem.W.mg_of X G a26) C_greater C_lesser
  have C_least_of := ok_least_of (P := l.prog) (w := w) (base := base) E F27 (PySem.W.mg_of X G a27) C_raised C_tied
  have C_lowered := ok_lowered (P := l.prog) (w := w) (base := base) E F28 (PySem.W.mg_of X G a28) C_lesser
  have C_worths_let := ok_worths_let (P := l.prog) (w := w) (base := base) E F29 (PySem.W.mg_of X G a29) C_days_seen C_least_of C_lowered C_need_seen C_tied
  have C__law_second := ok__law_second (P := l.prog) (w := w) (base := base) E F30 (PySem.W.mg_of X G a30) C__law_draw C__law_lists C_lets_be C_worths_let
  have C__law_wares := ok__law_wares (P := l.prog) (w := w) (base := base) E F31 (PySem.W.mg_of X G a31) C__law_draw
  exact (ok_law (P := l.prog) (w := w) (base := base) E F32 C__law_asks C__law_deck C__law_draw C__law_greater C__law_lesser C__law_lists C__law_many C__law_moved C__law_run C__law_second C__law_wares C_lets_be C_worths_let).imp (law_sp hl)
end Lw

namespace Lw
open PySem PySem.Spec PyProof.Rows L2 DL
abbrev Gd := Int × Int × Int
abbrev Wt := List (Option Int)
def gD (g : Gd) : D := .tup [.int g.1, .int g.2.1, .int g.2.2]
def oD : Option Int → D
  | none => .non
  | some i => .int i
def kD : Option Nat → D
  | none => .non
  | some k => .int (k : Nat)
@[simp] abbrev gsD (gs : List Gd) : D := .lst (gs.map gD)
@[simp] abbrev psD (ps : List Int) : D := .lst (ps.map D.int)
@[simp] abbrev wD (w : Wt) : D := .lst (w.map oD)
@[simp] abbrev rowD (r : List (Option Nat)) : D := .lst (r.map kD)
@[simp] theorem oD_none : oD none = .non := rfl
@[simp] theorem oD_some (i : Int) : oD (some i) = .int i := rfl
@[simp] theorem kD_none : kD none = .non := rfl
@[simp] theorem kD_some (i : Nat) : kD (some i) = .int (i : Nat) := rfl
@[simp] theorem isNone_oD (x : Option Int) : isNone (.d (oD x)) = x.isNone := by cases x <;> rfl
@[simp] theorem isNone_kD (x : Option Nat) : isNone (.d (kD x)) = x.isNone := by cases x <;> rfl
@[simp] theorem eq_kD (neg : Bool) (x y : Option Nat) (s : DL.S) : eqH neg (.d (kD x)) (.d (kD y)) s = .ok (.bl (decide (x = y) != neg)) s := by
  cases x <;> cases y <;> simp
  next a b => rw [show ((a : Int) == b) = decide (a = b) by by_cases h : a = b <;> simp [h]; omega]
@[simp] theorem eq_ikD (neg : Bool) (x : Nat) (y : Option Nat) (s : DL.S) : eqH neg (.d (.int (x : Nat))) (.d (kD y)) s = .ok (.bl (decide (some x = y) != neg)) s := eq_kD neg (some x) y s
theorem f_is_whole (i a b : Int) (m : List MO) : F_is_whole [.int i, .int a, .int b] m = .ok (.bl (decide (a ≤ i) && decide (i ≤ b))) m := by
  simp [F_is_whole, B_is_whole, Ty.isT]
  by_cases h : a ≤ i <;> simp [h]
def lesserS (x : Option Int) (y : Int) : Int := match x with | none => y | some i => min i y
def greaterS (x : Option Int) (y : Int) : Int := match x with | none => y | some i => max i y
theorem f_greater (x : Option Int) (y : Int) (m : List MO) : F_greater [oD x, .int y] m = .ok (.int (greaterS x y)) m := by
  cases x with
  | none => simp [F_greater, B_greater, greaterS]
  | some i => simp [F_greater, B_greater, greaterS]; omega
theorem f_lesser (x : Option Int) (y : Int) (m : List MO) : F_lesser [oD x, .int y] m = .ok (.int (lesserS x y)) m := by
  cases x with
  | none => simp [F_lesser, B_lesser, lesserS]
  | some i => simp [F_lesser, B_lesser, lesserS]; omega
/-! ### taken -/
def tkStep (p : List Int) (s : Option Nat × Int) (a : Option Int × Nat) : Option Nat × Int := match a.1 with
  | none => s
  | some v => if s.2 < v - p.getD a.2 0 then (some a.2, v - p.getD a.2 0) else s
def takenS (w : Wt) (p : List Int) : Option Nat := (w.zipIdx.foldl (tkStep p) (none, -1)).1
theorem l_taken (r : Src) (w : Wt) (p : List Int) (h : w.length ≤ p.length) (m : List MO) (hr : ∀ s : DL.S, s.mem = m → r.ok s) (a0 b0 : DL.Slot) : ∃ x y, forGo r U_taken_1 L_taken_1 (w.zipIdx.map fun a => D.tup [.int (a.2 : Nat), oD a.1])
    ⟨[a0, .val (psD p), .val .non, .val (.int (-1)), .no, .no], m, m.length⟩ = .nx ⟨[a0, .val (psD p), .val (kD (takenS w p)), .val (.int (w.zipIdx.foldl (tkStep p) (none, -1)).2), x, y], m, m.length⟩ := by
  obtain ⟨s', e, x, y, rfl⟩ := for_all (r := r) (u := U_taken_1) (body := L_taken_1) (fun a : Option Int × Nat => D.tup [.int (a.2 : Nat), oD a.1])
    (fun q s => ∃ x y, s = ⟨[a0, .val (psD p), .val (kD (q.foldl (tkStep p) (none, -1)).1), .val (.int (q.foldl (tkStep p) (none, -1)).2), x, y], m, m.length⟩) w.zipIdx (fun _ s h => hr s (by obtain ⟨_, _, rfl⟩ := h; rfl))
    (s := ⟨[a0, .val (psD p), .val .non, .val (.int (-1)), .no, .no], m, m.length⟩) (by
      rintro q ⟨v, k⟩ q' s hq ⟨x, y, rfl⟩
      have hk : k < p.length := by
        have : (v, k) ∈ w.zipIdx := by rw [hq]; simp
        have := List.mem_zipIdx this
        omega
      simp only [List.foldl_append, List.foldl_cons, List.foldl_nil]
      generalize (q.foldl (tkStep p) (none, -1)) = st
      cases v with
      | none => simp [turnB, tkStep, U_taken_1, L_taken_1]
      | some v =>
        simp [turnB, tkStep, psD, atI_nat', hk, U_taken_1, L_taken_1]
        by_cases hb : st.2 < v - p[k] <;> simp [hb]) ⟨_, _, rfl⟩
  exact ⟨x, y, e⟩
/-- d is the worths w, as data or in the store -/
def asW (m : List MO) (d : D) (w : Wt) : Prop := d = wD w ∨ ∃ n, d = .ref n ∧ m[n]? = some (.lst (w.map oD))
theorem f_taken {m : List MO} {d : D} {w : Wt} (hd : asW m d w) (p : List Int) (h : w.length ≤ p.length) : F_taken [d, psD p] m = .ok (kD (takenS w p)) m := by
  rcases hd with rfl | ⟨n, rfl, hm⟩
  · obtain ⟨x, y, e⟩ := l_taken ⟨w.zipIdx.map (fun a => D.tup [.int (a.2 : Nat), oD a.1]), [], []⟩ w p h m (fun _ _ => ok_nil _ _) (.val (wD w)) .no
    simp [F_taken, B_taken, enumItems_map]
    rw [e]
    simp
  · cases w with
    | nil =>
      obtain ⟨x, y, e⟩ := l_taken ⟨[], [], []⟩ [] p (by simp) m (fun _ _ => ok_nil _ _) (.val (.ref n)) .no
      simp at e
      simp [F_taken, B_taken, hm, enumItems]
      rw [e]
      simp
    | cons w0 w =>
      obtain ⟨x, y, e⟩ := l_taken ⟨(w0 :: w).zipIdx.map (fun a => D.tup [.int (a.2 : Nat), oD a.1]), [n], [(w0 :: w).map oD]⟩ (w0 :: w) p h m (fun s hs => by rw [ok_one, hs]; exact hm) (.val (.ref n)) .no
      have e2 := enumItems_map oD (w0 :: w)
      simp only [List.map_cons] at e2 e hm
      simp [F_taken, B_taken, hm, e2]
      simp at e
      rw [e]
      simp
/-! ### moved -/
def movedS (gs : List Gd) (p : List Int) (t : Option Nat) : List Int := gs.zipIdx.map fun a => if some a.2 = t then p.getD a.2 0 + a.1.1 else p.getD a.2 0 - a.1.2.1
theorem f_moved (gs : List Gd) (p : List Int) (t : Option Nat) (h : gs.length ≤ p.length) (m : List MO) : F_moved [gsD gs, psD p, kD t] m = .ok (psD (movedS gs p t)) m := by
  simp [F_moved, B_moved, enumItems_map]
  rw [comp_map (fun a : Gd × Nat => D.tup [.int (a.2 : Nat), gD a.1]) (fun a => .int (if some a.2 = t then p.getD a.2 0 + a.1.1 else p.getD a.2 0 - a.1.2.1)) (by simp)]
  · simp [movedS]
  · rintro ⟨⟨u, d, s⟩, k⟩ ha
    have hk : k < p.length := by have := List.mem_zipIdx ha; omega
    by_cases hb : some k = t
    · simp [elemB, U_moved_1, E_moved_1, gD, hb, atI_nat', hk]
    · simp [elemB, U_moved_1, E_moved_1, gD, hb, atI_nat', hk]
/-! ### what is a market's goods, a row -/
def okG (g : Gd) : Prop := 1 ≤ g.1 ∧ g.1 ≤ 4 ∧ 1 ≤ g.2.1 ∧ g.2.1 ≤ 4 ∧ -99 ≤ g.2.2 ∧ g.2.2 ≤ 99
theorem f_is_good (g : Gd) (h : okG g) (m : List MO) : F_is_good [gD g] m = .ok (.bl true) m := by
  obtain ⟨h1, h2, h3, h4, h5, h6⟩ := h
  simp [F_is_good, B_is_good, gD, Ty.isT, f_is_whole, h1, h2, h3, h4, h5, h6]
theorem blsOf_true : ∀ (n : Nat), blsOf (List.replicate n (D.bl true)) = some (List.replicate n true)
  | 0 => rfl
  | n + 1 => by simp [List.replicate_succ, blsOf, blsOf_true n]
@[simp] theorem all_true (n : Nat) (s : DL.S) : allH [.d (.lst (List.replicate n (D.bl true)))] s = .ok (.bl true) s := by
  show (match blsOf (List.replicate n (D.bl true)) with | some ns => R.ok (D.bl (ns.all id)) s | none => .bad) = _
  rw [blsOf_true]
  simp
@[simp] theorem all_trueM {α : Type} (l : List α) (s : DL.S) : allH [.d (.lst (l.map fun _ => D.bl true))] s = .ok (.bl true) s := by
  rw [show (l.map fun _ => D.bl true) = List.replicate l.length (D.bl true) by simp [List.map_const']]
  exact all_true _ _
theorem f_is_list (xs : List D) (a b : Int) (m : List MO) : F_is_list [.lst xs, .int a, .int b] m = .ok (.bl (decide (a ≤ (xs.length : Int)) && decide ((xs.length : Int) ≤ b))) m := by
  simp [F_is_list, B_is_list, Ty.isT]
  by_cases h : a ≤ (xs.length : Int) <;> simp [h]
theorem f_is_goods (gs : List Gd) (h : ∀ g ∈ gs, okG g) (h1 : 1 ≤ gs.length) (h2 : gs.length ≤ 4) (m : List MO) : F_is_goods [gsD gs] m = .ok (.bl true) m := by
  have e1 : (1 : Int) ≤ (gs.length : Int) := by omega
  have e2 : (gs.length : Int) ≤ 4 := by omega
  simp [F_is_goods, B_is_goods, f_is_list, e1, e2]
  rw [comp_map gD (fun _ => .bl true) (by simp)]
  · simp
  · intro g hg
    simp [elemB, U_is_goods_1, E_is_goods_1, f_is_good g (h g hg)]
/-- a row of takes of so many goods -/
def okRow (n : Nat) (row : List (Option Nat)) : Prop := 1 ≤ row.length ∧ row.length ≤ 300 ∧ ∀ k, some k ∈ row → k < n
theorem f_is_row (gs : List Gd) (row : List (Option Nat)) (h : okRow gs.length row) (m : List MO) : F_is_row [gsD gs, rowD row] m = .ok (.bl true) m := by
  obtain ⟨h1, h2, h3⟩ := h
  have e1 : (1 : Int) ≤ (row.length : Int) := by omega
  have e2 : (row.length : Int) ≤ 300 := by omega
  simp [F_is_row, B_is_row, Ty.isT, e1, e2]
  rw [comp_map kD (fun _ => .bl true) (by simp)]
  · simp
  · intro t ht
    cases t with
    | none => simp [elemB, U_is_row_1, E_is_row_1]
    | some k =>
      have := h3 k ht
      have e3 : (k : Int) ≤ (gs.length : Int) - 1 := by omega
      simp [elemB, U_is_row_1, E_is_row_1, f_is_whole, e3]
/-- what is asked of all: goods, length, row -/
structure Ok (gs : List Gd) (len : Nat) (row : List (Option Nat)) : Prop where
  g : ∀ g ∈ gs, okG g
  g1 : 1 ≤ gs.length
  g4 : gs.length ≤ 4
  l1 : 1 ≤ len
  l6 : len ≤ 6
  r : okRow gs.length row
theorem f_need {gs : List Gd} {len : Nat} {row : List (Option Nat)} (h : Ok gs len row) (m : List MO) : F_need_seen [gsD gs, .int (len : Nat), rowD row] m = .ok .non m := by
  have e1 : (1 : Int) ≤ (len : Int) := by have := h.l1; omega
  have e2 : (len : Int) ≤ 6 := by have := h.l6; omega
  simp [F_need_seen, B_need_seen, f_is_goods gs h.g h.g1 h.g4, f_is_whole, f_is_row gs row h.r, e1, e2]
/-! ### days seen -/
def seenGo (gs : List Gd) : List Int → List (Option Nat) → List (Option Nat × List Int)
  | _, [] => []
  | p, t :: r => (t, p) :: seenGo gs (movedS gs p t) r
def seenS (gs : List Gd) (row : List (Option Nat)) : List (Option Nat × List Int) := seenGo gs (gs.map (·.2.2)) row
def seD (a : Option Nat × List Int) : D := .tup [kD a.1, psD a.2]
theorem seenGo_snoc (gs : List Gd) : ∀ (p : List Int) (q : List (Option Nat)) (t : Option Nat), seenGo gs p (q ++ [t]) = seenGo gs p q ++ [(t, q.foldl (movedS gs) p)]
  | p, [], t => rfl
  | p, a :: q, t => by
    show (a, p) :: seenGo gs (movedS gs p a) (q ++ [t]) = _
    rw [seenGo_snoc gs _ q t]
    rfl
theorem moved_len (gs : List Gd) (p : List Int) (t : Option Nat) : (movedS gs p t).length = gs.length := by simp [movedS]
theorem fold_len (gs : List Gd) : ∀ (q : List (Option Nat)) (p : List Int), p.length = gs.length → (q.foldl (movedS gs) p).length = gs.length
  | [], p, h => h
  | t :: q, p, h => fold_len gs q _ (moved_len gs p t)
theorem seen_lens (gs : List Gd) : ∀ (q : List (Option Nat)) (p : List Int), p.length = gs.length → ∀ a ∈ seenGo gs p q, a.2.length = gs.length
  | [], p, h, a, ha => by cases ha
  | t :: q, p, h, a, ha => by
    rcases List.mem_cons.mp ha with rfl | ha
    · exact h
    · exact seen_lens gs q _ (moved_len gs p t) a ha
theorem seen_len (gs : List Gd) : ∀ (q : List (Option Nat)) (p : List Int), (seenGo gs p q).length = q.length
  | [], p => rfl
  | t :: q, p => by simp [seenGo, seen_len gs q]
theorem f_days (gs : List Gd) (row : List (Option Nat)) (hr : row.length ≤ 300) (m : List MO) : F_days_seen [gsD gs, rowD row] m = .ok (.lst ((seenS gs row).map seD)) m := by
  simp [F_days_seen, B_days_seen]
  rw [comp_map gD (fun g => .int g.2.2) (by simp) (by
    rintro ⟨u, d, s⟩ hg
    simp [elemB, U_days_seen_1, E_days_seen_1, gD])]
  simp
  obtain ⟨s', e, x, rfl⟩ := for_all (r := ⟨row.map kD, [], []⟩) (u := U_days_seen_2) (body := L_days_seen_2) kD
    (fun q s => ∃ x, s = ⟨[.val (gsD gs), .val (rowD row), .val (psD (q.foldl (movedS gs) (gs.map (·.2.2)))), .own (.lst ((seenGo gs (gs.map (·.2.2)) q).map seD)), x, .no, .no, .no], m, m.length⟩) row (fun _ _ _ => ok_nil _ _)
    (s := ⟨[.val (gsD gs), .val (rowD row), .val (psD (gs.map (·.2.2))), .own (.lst []), .no, .no, .no, .no], m, m.length⟩) (by
      rintro q t q' s hq ⟨x, rfl⟩
      have hl : q.length < 300 := by rw [hq] at hr; simp at hr; omega
      have hp : (q.foldl (movedS gs) (gs.map (·.2.2))).length = gs.length := fold_len gs q _ (by simp)
      have hz : q.length < sizeLine := by rw [sizeLine_eq]; omega
      simp only [seenGo_snoc, List.foldl_append, List.foldl_cons, List.foldl_nil]
      simp [turnB, U_days_seen_2, L_days_seen_2, seen_len, hz, seD, f_moved _ _ _ (Nat.le_of_eq hp.symm)]) ⟨_, rfl⟩
  simp [Function.comp_def] at e
  rw [e]
  simp [seenS]
/-! ### lets_be -/
structure asWs (m : List MO) (ds : List D) (ws : List Wt) : Prop where
  len : ds.length = ws.length
  at_ : ∀ (i : Nat) (d : D), ds[i]? = some d → ∃ w, ws[i]? = some w ∧ asW m d w
def okDay (ws : List Wt) (a : (Option Nat × List Int) × Nat) : Bool := decide (takenS (ws.getD (a.2 % ws.length) []) a.1.2 = a.1.1)
def letsS (ws : List Wt) (seen : List (Option Nat × List Int)) : Bool := seen.zipIdx.all (okDay ws)
theorem f_lets {gs : List Gd} {ds : List D} {ws : List Wt} {row : List (Option Nat)} {m : List MO} (h : Ok gs ws.length row) (hd : asWs m ds ws) (hw : ∀ w ∈ ws, w.length ≤ gs.length) :
    F_lets_be [gsD gs, .lst ds, rowD row] m = .ok (.bl (letsS ws (seenS gs row))) m := by
  have hn := f_need h m
  have hy := f_days gs row h.r.2.1 m
  have hl := hd.len
  have h1 := h.l1
  simp only [gsD, rowD] at hn hy
  simp [F_lets_be, B_lets_be, hl, hn, hy, enumItems_map]
  rcases for_ret (r := ⟨(seenS gs row).zipIdx.map fun a => D.tup [.int (a.2 : Nat), seD a.1], [], []⟩) (u := U_lets_be_1) (body := L_lets_be_1) (fun a : (Option Nat × List Int) × Nat => D.tup [.int (a.2 : Nat), seD a.1])
    (fun q s => q.all (okDay ws) = true ∧ ∃ x y z, s = ⟨[.val (gsD gs), .val (.lst ds), .val (rowD row), x, y, z], m, m.length⟩) (fun d s => d = .bl false ∧ s.mem = m ∧ (seenS gs row).zipIdx.all (okDay ws) = false) (fun _ _ _ => ok_nil _ _) (seenS gs row).zipIdx []
    ⟨[.val (gsD gs), .val (.lst ds), .val (rowD row), .no, .no, .no], m, m.length⟩ (by
      rintro q ⟨⟨t, p⟩, k⟩ q' s hq ⟨ha, x, y, z, rfl⟩
      have hp : p.length = gs.length := by
        have h3 : ((t, p), k) ∈ (seenS gs row).zipIdx := by simp at hq; rw [hq]; simp
        have h4 := List.mem_zipIdx h3
        have h5 : (t, p) ∈ seenS gs row := by
          rw [h4.2.2]; exact List.getElem_mem _
        exact seen_lens gs row _ (by simp) _ h5
      have hk : k % ws.length < ws.length := Nat.mod_lt _ (by omega)
      have ek : ((k : Int) % (ws.length : Int)) = ((k % ws.length : Nat) : Int) := by simp
      obtain ⟨w, e1, e2⟩ := hd.at_ (k % ws.length) ds[k % ws.length] (by rw [List.getElem?_eq_getElem])
      have hwl : w.length ≤ p.length := by rw [hp]; exact hw w (List.mem_of_getElem? e1)
      have ft := f_taken e2 p hwl
      have e3 : ws.getD (k % ws.length) [] = w := by simp [List.getD, e1]
      have e4 : ds[k % ws.length]? = some ds[k % ws.length] := by rw [List.getElem?_eq_getElem]
      have hp0 : 0 < ws.length := by omega
      simp only [psD] at ft
      by_cases hb : takenS w p = t
      · left
        simp [turnB, U_lets_be_1, L_lets_be_1, seD, hl, hp0, ft, hb, e4]
        exact ⟨by simpa using ha, by unfold okDay; simp only [e3]; simpa using hb⟩
      · right
        refine ⟨.bl false, ⟨[.val (gsD gs), .val (.lst ds), .val (rowD row), .val (.int (k : Nat)), .val (kD t), .val (psD p)], m, m.length⟩, ?_, rfl, rfl, ?_⟩
        · simp [turnB, U_lets_be_1, L_lets_be_1, seD, hl, hp0, ft, hb, e4]
        · rw [show (seenS gs row).zipIdx = q ++ ((t, p), k) :: q' by simpa using hq]
          have hx : okDay ws ((t, p), k) = false := by unfold okDay; simp only [e3]; simpa using hb
          simp only [List.all_append, List.all_cons, hx]
          simp) (by simp) with ⟨s', e, ha, x, y, z, rfl⟩ | ⟨d, s', e, rfl, hm, hz⟩
  · simp at e
    rw [e]
    simp at ha
    simp [letsS]
    exact ha
  · simp at e
    rw [e]
    simp [hm]
    exact hz
end Lw

namespace Lw
open PySem PySem.Spec PyProof.Rows L2 DL
/-! ### gaps as a dict -/
abbrev Gap := (Nat × Nat) × Int
def gK (k : Nat × Nat) : List Key := [.inl (k.1 : Int), .inl (k.2 : Int)]
def gapE (x : Gap) : List Key × D := (gK x.1, .int x.2)
def getG (gs : List Gap) (k : Nat × Nat) : Option Int := (gs.find? fun x => decide (x.1 = k)).map (·.2)
def putG (gs : List Gap) (k : Nat × Nat) (v : Int) : List Gap :=
  if (gs.any fun x => decide (x.1 = k)) = true then gs.map (fun x => if x.1 = k then (x.1, v) else x) else gs ++ [(k, v)]
theorem gK_inj {a b : Nat × Nat} : gK a = gK b ↔ a = b := by
  obtain ⟨a1, a2⟩ := a
  obtain ⟨b1, b2⟩ := b
  simp [gK]
  omega
theorem getA_gap (k : Nat × Nat) : ∀ gs : List Gap, getA (gs.map gapE) (gK k) = (getG gs k).map D.int
  | [] => rfl
  | x :: r => by
    have ih := getA_gap k r
    unfold getA getG at ih ⊢
    by_cases h : x.1 = k
    · rw [List.map_cons, List.find?_cons_of_pos (by simp [gapE, gK_inj, h]), List.find?_cons_of_pos (by simp [h])]
      rfl
    · rw [List.map_cons, List.find?_cons_of_neg (by simp [gapE, gK_inj, h]), List.find?_cons_of_neg (by simp [h])]
      exact ih
theorem any_gap (k : Nat × Nat) : ∀ gs : List Gap, ((gs.map gapE).any fun kv => decide (kv.1 = gK k)) = gs.any fun x => decide (x.1 = k)
  | [] => rfl
  | x :: r => by
    rw [List.map_cons, List.any_cons, List.any_cons, any_gap k r]
    simp [gapE, gK_inj]
theorem putA_gap (gs : List Gap) (k : Nat × Nat) (v : Int) : putA (gs.map gapE) (gK k) (.int v) = (putG gs k v).map gapE := by
  unfold putA putG
  rw [any_gap]
  split
  · rw [List.map_map, List.map_map]
    apply List.map_congr_left
    intro x _
    simp only [Function.comp]
    by_cases h : x.1 = k
    · simp [gapE, gK_inj, h]
    · simp [gapE, gK_inj, h]
  · rw [List.map_append]; rfl
theorem keysOf_gap (t k : Nat) : keysOf (.tup [.int (t : Nat), .int (k : Nat)]) = some (gK (t, k)) := rfl
@[simp] theorem ev_getD (kvs : List (List Key × D)) (t k : Nat) : getD (.dT kvs) (.tup [.int (t : Nat), .int (k : Nat)]) = some (getA kvs (gK (t, k))) := rfl
@[simp] theorem ev_setD (kvs : List (List Key × D)) (t k : Nat) (v : D) : setD (.dT kvs) (.tup [.int (t : Nat), .int (k : Nat)]) v = if kvs.length < sizeLine then some (.dT (putA kvs (gK (t, k)) v)) else none := rfl
@[simp] theorem ev_isD (kvs : List (List Key × D)) : (MO.dT kvs).isD = true := rfl
@[simp] theorem ev_dGet1 (to : DL.S → R Hd) (tk : DL.S → R D) (s : DL.S) : dGet1 to tk s = (to s).bind fun h s1 => match holds h s1 with
  | some m0 => if m0.isD = true then (tk s1).bind fun k s2 => (match holds h s2 with
    | some m => .of ((getD m k).map fun r => r.getD .non) s2
    | none => .bad) else .bad
  | none => .bad := rfl
@[simp] theorem ev_nD (m : MO) (s : DL.S) : nD m s = .ok m s := rfl
@[simp] theorem ev_sPar3 (i j l : Nat) (u : DL.S → R (List D)) (s : DL.S) : sPar3 i j l u s = (u s).st fun ds s1 => match ds with
  | [a, b, c] => .nx { s1 with env := ((s1.env.set i (.val a)).set j (.val b)).set l (.val c) }
  | _ => .bad := rfl
theorem putG_len (gs : List Gap) (k : Nat × Nat) (v : Int) : (putG gs k v).length ≤ gs.length + 1 := by
  unfold putG
  split <;> simp
/-! ### tied -/
structure TS where
  low : Wt
  high : Wt
  gaps : List Gap
def gapN (p : List Int) (t k : Nat) (c : Int) : Int := c - p.getD t 0 - (if k < t then 1 else 0)
def tdStep (t : Option Nat) (p : List Int) (s : TS) (a : Int × Nat) : TS := match t with
  | none => ⟨s.low, s.high.set a.2 (some (lesserS (s.high.getD a.2 none) (a.1 - 1))), s.gaps⟩
  | some t => if a.2 = t then ⟨s.low.set a.2 (some (greaterS (s.low.getD a.2 none) a.1)), s.high, s.gaps⟩
    else ⟨s.low, s.high, putG s.gaps (t, a.2) (lesserS (getG s.gaps (t, a.2)) (gapN p t a.2 a.1))⟩
def tdDay (s : TS) (a : Option Nat × List Int) : TS := a.2.zipIdx.foldl (tdStep a.1 a.2) s
def tiedS (n : Nat) (seen : List (Option Nat × List Int)) : TS := seen.foldl tdDay ⟨List.replicate n none, List.replicate n none, []⟩
def encT (m : List MO) (s : TS) : List MO := m ++ [.lst (s.low.map oD), .lst (s.high.map oD), .dT (s.gaps.map gapE)]
theorem td_len (t : Option Nat) (p : List Int) (s : TS) (a : Int × Nat) : (tdStep t p s a).low.length = s.low.length ∧ (tdStep t p s a).high.length = s.high.length ∧ (tdStep t p s a).gaps.length ≤ s.gaps.length + 1 := by
  unfold tdStep
  cases t with
  | none => simp
  | some t =>
    simp only
    split
    · simp
    · exact ⟨rfl, rfl, putG_len _ _ _⟩
theorem td_lens (t : Option Nat) (p : List Int) : ∀ (l : List (Int × Nat)) (s : TS), (l.foldl (tdStep t p) s).low.length = s.low.length ∧ (l.foldl (tdStep t p) s).high.length = s.high.length ∧ (l.foldl (tdStep t p) s).gaps.length ≤ s.gaps.length + l.length
  | [], s => by simp
  | a :: l, s => by
    have h1 := td_len t p s a
    have h2 := td_lens t p l (tdStep t p s a)
    refine ⟨h2.1.trans h1.1, h2.2.1.trans h1.2.1, ?_⟩
    have := h2.2.2
    have := h1.2.2
    simp only [List.foldl_cons, List.length_cons]
    omega
theorem l_tied2 (m : List MO) (t : Option Nat) (p : List Int) (n : Nat) (hp : p.length = n) (ht : ∀ k, t = some k → k < n) (s0 : TS) (h1 : s0.low.length = n) (h2 : s0.high.length = n) (h3 : s0.gaps.length + n < sizeLine) (a b x y z : DL.Slot) (lo : Nat) :
    ∃ x' y' z', forGo ⟨p.zipIdx.map (fun a => D.tup [.int (a.2 : Nat), .int a.1]), [], []⟩ U_tied_2 L_tied_2 (p.zipIdx.map fun a => D.tup [.int (a.2 : Nat), .int a.1]) ⟨[a, b, .val (.ref m.length), .val (.ref (m.length + 1)), .val (.ref (m.length + 2)), .val (kD t), .val (psD p), x, y, z], encT m s0, lo⟩ =
      .nx ⟨[a, b, .val (.ref m.length), .val (.ref (m.length + 1)), .val (.ref (m.length + 2)), .val (kD t), .val (psD p), x', y', z'], encT m (tdDay s0 (t, p)), lo⟩ := by
  obtain ⟨s', e, x, y, z, rfl⟩ := for_all (r := ⟨p.zipIdx.map (fun a => D.tup [.int (a.2 : Nat), .int a.1]), [], []⟩) (u := U_tied_2) (body := L_tied_2) (fun a : Int × Nat => D.tup [.int (a.2 : Nat), .int a.1])
    (fun q s => ∃ x y z, s = ⟨[a, b, .val (.ref m.length), .val (.ref (m.length + 1)), .val (.ref (m.length + 2)), .val (kD t), .val (psD p), x, y, z], encT m (q.foldl (tdStep t p) s0), lo⟩) p.zipIdx (fun _ _ _ => ok_nil _ _)
    (s := ⟨[a, b, .val (.ref m.length), .val (.ref (m.length + 1)), .val (.ref (m.length + 2)), .val (kD t), .val (psD p), x, y, z], encT m s0, lo⟩) (by
      rintro q ⟨c, k⟩ q' s hq ⟨x, y, z, rfl⟩
      have hk : k < n := by
        have : (c, k) ∈ p.zipIdx := by rw [hq]; simp
        have := List.mem_zipIdx this
        omega
      have hl := td_lens t p q s0
      have hql : q.length ≤ n := by
        have := congrArg List.length hq
        simp at this
        omega
      simp only [List.foldl_append, List.foldl_cons, List.foldl_nil]
      generalize q.foldl (tdStep t p) s0 = st at hl ⊢
      have k1 : k < st.low.length := by omega
      have k2 : k < st.high.length := by omega
      have k3 : st.gaps.length < sizeLine := by omega
      cases t with
      | none =>
        simp [turnB, U_tied_2, L_tied_2, encT, atI_nat', k2, ixN_nat, f_lesser, tdStep]
      | some t =>
        have ht' : t < p.length := by rw [hp]; exact ht t rfl
        by_cases hb : k = t
        · subst hb
          simp [turnB, U_tied_2, L_tied_2, encT, atI_nat', k1, ixN_nat, f_greater, tdStep]
        · have hg := getA_gap (t, k) st.gaps
          have e1 : ((getG st.gaps (t, k)).map D.int).getD .non = oD (getG st.gaps (t, k)) := by cases getG st.gaps (t, k) <;> rfl
          have hb' : ¬ ((k : Int) = (t : Int)) := by omega
          simp [turnB, U_tied_2, L_tied_2, encT, atI_nat', ht', hb, hb', tdStep, hg, e1, f_lesser, k3, putA_gap]
          simp [gapN, ht']) ⟨_, _, _, rfl⟩
  exact ⟨x, y, z, e⟩
theorem tdDay_len (s : TS) (a : Option Nat × List Int) : (tdDay s a).low.length = s.low.length ∧ (tdDay s a).high.length = s.high.length ∧ (tdDay s a).gaps.length ≤ s.gaps.length + a.2.length := by
  have := td_lens a.1 a.2 a.2.zipIdx s
  simpa [tdDay] using this
theorem tied_lens : ∀ (l : List (Option Nat × List Int)) (n : Nat) (s : TS), (∀ a ∈ l, a.2.length = n) → (l.foldl tdDay s).low.length = s.low.length ∧ (l.foldl tdDay s).high.length = s.high.length ∧ (l.foldl tdDay s).gaps.length ≤ s.gaps.length + n * l.length
  | [], n, s, _ => by simp
  | a :: l, n, s, h => by
    have h1 := tdDay_len s a
    have h2 := tied_lens l n (tdDay s a) fun b hb => h b (by simp [hb])
    have h3 := h a (by simp)
    refine ⟨h2.1.trans h1.1, h2.2.1.trans h1.2.1, ?_⟩
    have h4 := h2.2.2
    have h5 := h1.2.2
    simp only [List.foldl_cons, List.length_cons, Nat.mul_add]
    omega
theorem flat_non : ∀ n : Nat, (List.replicate n [D.non]).flatten = (List.replicate n (none : Option Int)).map oD
  | 0 => rfl
  | n + 1 => by rw [List.replicate_succ, List.flatten_cons, flat_non n]; rfl
theorem rep_non {n : Nat} (h : n ≤ 1000) (s : DL.S) : repF (.d (.lst [D.non])) (.d (.int (n : Int))) s = .ok (.lst ((List.replicate n (none : Option Int)).map oD)) s := by
  have r1 : -(2 ^ 63) ≤ (n : Int) ∧ (n : Int) < 2 ^ 63 ∧ [D.non].length * (n : Int).toNat ≤ sizeLine := by
    refine ⟨by omega, by omega, ?_⟩
    rw [sizeLine_eq]
    simp
    omega
  unfold repF
  simp only [ev_holds_lst]
  rw [if_pos r1, Int.toNat_natCast, flat_non]
/-- the days are of n goods -/
structure okSeen (n : Nat) (seen : List (Option Nat × List Int)) : Prop where
  len : seen.length ≤ 300
  n4 : n ≤ 4
  p : ∀ a ∈ seen, a.2.length = n
  t : ∀ a ∈ seen, ∀ k, a.1 = some k → k < n
theorem f_tied {n : Nat} {seen : List (Option Nat × List Int)} (h : okSeen n seen) (m : List MO) : F_tied [.int (n : Nat), .lst (seen.map seD)] m = .ok (.tup [.ref m.length, .ref (m.length + 1), .ref (m.length + 2)]) (encT m (tiedS n seen)) := by
  have hn4 := h.n4
  have rp := fun s => rep_non (n := n) (by omega) s
  obtain ⟨s', e, x, y, z, x', y', rfl⟩ := for_all (r := ⟨seen.map seD, [], []⟩) (u := U_tied_1) (body := L_tied_1) seD
    (fun q s => ∃ x y z x' y', s = ⟨[.val (.int (n : Nat)), .val (.lst (seen.map seD)), .val (.ref m.length), .val (.ref (m.length + 1)), .val (.ref (m.length + 2)), x, y, z, x', y'], encT m (q.foldl tdDay ⟨List.replicate n none, List.replicate n none, []⟩), m.length⟩) seen (fun _ _ _ => ok_nil _ _)
    (s := ⟨[.val (.int (n : Nat)), .val (.lst (seen.map seD)), .val (.ref m.length), .val (.ref (m.length + 1)), .val (.ref (m.length + 2)), .no, .no, .no, .no, .no], encT m ⟨List.replicate n none, List.replicate n none, []⟩, m.length⟩) (by
      rintro q ⟨t, p⟩ q' s hq ⟨x, y, z, x', y', rfl⟩
      have hm : (t, p) ∈ seen := by rw [hq]; simp
      have hp := h.p _ hm
      have hl := tied_lens q n ⟨List.replicate n none, List.replicate n none, []⟩ fun a ha => h.p a (by rw [hq]; simp [ha])
      have hq3 : q.length < 300 := by have := h.len; rw [hq] at this; simp at this; omega
      have hz : n * q.length ≤ 4 * 300 := Nat.mul_le_mul hn4 (by omega)
      simp only [List.foldl_append, List.foldl_cons, List.foldl_nil]
      simp at hl
      generalize q.foldl tdDay ⟨List.replicate n none, List.replicate n none, []⟩ = st at hl ⊢
      obtain ⟨x1, y1, z1, e1⟩ := l_tied2 m t p n hp (fun k hk => h.t _ hm k hk) st (by omega) (by omega) (by rw [sizeLine_eq]; omega) (.val (.int (n : Nat))) (.val (.lst (seen.map seD))) z x' y' m.length
      simp [turnB, U_tied_1, L_tied_1, seD, enumItems_map]
      simp at e1
      rw [e1]
      simp) ⟨_, _, _, _, _, rfl⟩
  simp -implicitDefEqProofs [F_tied, B_tied, rp, List.append_assoc]
  simp [encT] at e
  rw [e]
  simp [tiedS, encT]
end Lw

namespace Lw
open PySem PySem.Spec PyProof.Rows L2 DL
/-! ### == of worths -/
def pO : Option Int → PyData
  | none => .none
  | some i => .int i
theorem pd_oD (m : List MO) (n : Nat) (x : Option Int) : pd m (n + 1) (oD x) = some (pO x) := by cases x <;> rfl
theorem mapM_oD (m : List MO) (n : Nat) : ∀ w : Wt, (w.map oD).mapM (pd m (n + 1)) = some (w.map pO)
  | [] => by simp
  | x :: w => by rw [List.map_cons, DL.mapM_cons, pd_oD, mapM_oD m n w]; rfl
theorem lay_pO : ∀ w : Wt, PyData.canLayAll0 (w.map pO) = true
  | [] => by simp [PyData.canLayAll0]
  | x :: w => by cases x <;> simp [PyData.canLayAll0, pO, PyData.canLay0, lay_pO w]
theorem depth_pO : ∀ w : Wt, PyData.depthAll (w.map pO) = 0
  | [] => by simp [PyData.depthAll]
  | x :: w => by cases x <;> simp [PyData.depthAll, pO, PyData.depth, depth_pO w]
theorem eqv_pO : ∀ w w' : Wt, PyData.eqvAll (w.map pO) (w'.map pO) = decide (w = w')
  | [], [] => by simp [PyData.eqvAll]
  | [], y :: w' => by simp [PyData.eqvAll]
  | x :: w, [] => by simp [PyData.eqvAll]
  | x :: w, y :: w' => by
    simp only [List.map_cons, PyData.eqvAll, eqv_pO w w']
    cases x with
    | none => cases y <;> simp [pO, PyData.eqv]
    | some i => cases y with
      | none => simp [pO, PyData.eqv]
      | some j => by_cases h : i = j <;> simp [pO, PyData.eqv, h]
theorem shaped_pO (w : Wt) : SeqAt.shaped (.list (w.map pO)) = true := by
  simp [SeqAt.shaped, PyData.canLay0, lay_pO, PyData.depth, depth_pO]
theorem eq_own_w {env : List DL.Slot} {i : Nat} {w w' : Wt} {m : List MO} {lo : Nat} (h : env[i]? = some (.own (.lst (w.map oD)))) : eqH false (.own i) (.d (.lst (w'.map oD))) ⟨env, m, lo⟩ = .ok (.bl (decide (w = w'))) ⟨env, m, lo⟩ := by
  have e1 : hdat (.own i) ⟨env, m, lo⟩ = some (.list (w.map pO)) := by
    unfold hdat
    simp only [h]
    rw [mapM_oD m 10 w]; rfl
  have e2 : hdat (.d (.lst (w'.map oD))) ⟨env, m, lo⟩ = some (.list (w'.map pO)) := by
    show ((w'.map oD).mapM (pd m 11)).map PyData.list = _
    rw [mapM_oD m 10 w']; rfl
  have e3 : eqO (.own i) (.d (.lst (w'.map oD))) ⟨env, m, lo⟩ = some (decide (w = w')) := by
    unfold eqO
    rw [e1, e2]
    simp only [shaped_pO, Bool.and_self, if_true]
    rw [PyData.eqv, eqv_pO]
  unfold eqH
  rw [e3]
  cases decide (w = w') <;> rfl
/-! ### a walk over a dict's items -/
theorem items_nx {i n : Nat} {u : D → DL.S → R Unit} {body : DL.S → RS} {env env' : List DL.Slot} {mem : List MO} {lo : Nat} {kvs : List (List Key × D)} (h1 : env[i]? = some (.val (.ref n))) (h2 : mem[n]? = some (.dT kvs)) (hl : kvs.length ≤ sizeLine)
    (h : forGo ⟨itemsD kvs, [], []⟩ u body (itemsD kvs) ⟨env, mem.set n .gone, lo⟩ = .nx ⟨env', mem.set n .gone, lo⟩) : sItems i u body ⟨env, mem, lo⟩ = .nx ⟨env', mem, lo⟩ := by
  have hn : n < mem.length := (List.getElem?_eq_some_iff.mp h2).1
  unfold sItems
  simp only [h1, h2, hl, if_true]
  rw [h]
  unfold unlk
  simp only [List.getElem?_set_self hn]
  rw [List.set_set, setE h2]
theorem itemsD_gap (gs : List Gap) : itemsD (gs.map gapE) = gs.map fun x => D.tup [.tup [.int (x.1.1 : Nat), .int (x.1.2 : Nat)], .int x.2] := by
  unfold itemsD
  rw [List.map_map]
  rfl
/-! ### raised -/
def rStep (w : Wt) (x : Gap) : Wt := match w.getD x.1.2 none, w.getD x.1.1 none with
  | some v, some u => w.set x.1.1 (some (max u (v - x.2)))
  | _, _ => w
def sweep (gs : List Gap) (w : Wt) : Wt := gs.foldl rStep w
def raiseGo (gs : List Gap) : Nat → Wt → Option Wt
  | 0, _ => none
  | k + 1, w => if sweep gs w = w then some w else raiseGo gs k (sweep gs w)
/-- the takers have worths -/
def HasT (n : Nat) (gs : List Gap) (w : Wt) : Prop := w.length = n ∧ ∀ x ∈ gs, x.1.1 < n ∧ x.1.2 < n ∧ (w.getD x.1.1 none).isSome = true
theorem rStep_len (w : Wt) (x : Gap) : (rStep w x).length = w.length := by
  unfold rStep
  split <;> simp
theorem rStep_some (w : Wt) (x : Gap) (k : Nat) (h : (w.getD k none).isSome = true) : ((rStep w x).getD k none).isSome = true := by
  unfold rStep
  split
  · next v u e1 e2 =>
    by_cases hk : x.1.1 = k
    · subst hk
      have : x.1.1 < w.length := by
        apply Classical.byContradiction
        intro hn
        simp [List.getD, List.getElem?_eq_none (by omega : w.length ≤ x.1.1)] at h
      simp [List.getD, this]
    · simp only [List.getD] at h ⊢
      rw [List.getElem?_set_ne hk]; exact h
  · exact h
theorem HasT.step {n : Nat} {gs : List Gap} {w : Wt} (h : HasT n gs w) (x : Gap) : HasT n gs (rStep w x) :=
  ⟨(rStep_len w x).trans h.1, fun y hy => ⟨(h.2 y hy).1, (h.2 y hy).2.1, rStep_some w x _ (h.2 y hy).2.2⟩⟩
theorem HasT.fold {n : Nat} {gs : List Gap} : ∀ (q : List Gap) {w : Wt}, HasT n gs w → HasT n gs (q.foldl rStep w)
  | [], _, h => h
  | x :: q, _, h => HasT.fold q (h.step x)
theorem imax (a c : Int) : (if c > a then c else a) = max a c := by omega
theorem l_raised2 {n : Nat} {gs : List Gap} {w : Wt} (h : HasT n gs w) (m : List MO) (a b c d x y z : DL.Slot) (lo : Nat) : ∃ x' y' z', forGo ⟨itemsD (gs.map gapE), [], []⟩ U_raised_2 L_raised_2 (itemsD (gs.map gapE)) ⟨[a, b, .own (.lst (w.map oD)), c, d, x, y, z], m, lo⟩ =
    .nx ⟨[a, b, .own (.lst ((sweep gs w).map oD)), c, d, x', y', z'], m, lo⟩ := by
  rw [itemsD_gap]
  obtain ⟨s', e, x', y', z', rfl⟩ := for_all (r := ⟨gs.map fun x => D.tup [.tup [.int (x.1.1 : Nat), .int (x.1.2 : Nat)], .int x.2], [], []⟩) (u := U_raised_2) (body := L_raised_2) (fun x : Gap => D.tup [.tup [.int (x.1.1 : Nat), .int (x.1.2 : Nat)], .int x.2])
    (fun q s => ∃ x y z, s = ⟨[a, b, .own (.lst ((q.foldl rStep w).map oD)), c, d, x, y, z], m, lo⟩) gs (fun _ _ _ => ok_nil _ _)
    (s := ⟨[a, b, .own (.lst (w.map oD)), c, d, x, y, z], m, lo⟩) (by
      rintro q ⟨⟨t, k⟩, g⟩ q' s hq ⟨x, y, z, rfl⟩
      have hf := h.fold q
      simp only [List.foldl_append, List.foldl_cons, List.foldl_nil]
      generalize q.foldl rStep w = st at hf ⊢
      obtain ⟨h1, h2, h3⟩ := hf.2 ((t, k), g) (by rw [hq]; simp)
      have hl := hf.1
      simp only at h1 h2 h3
      obtain ⟨u, hu⟩ := Option.isSome_iff_exists.mp h3
      have et : st[t]? = some (some u) := by
        have : t < st.length := by omega
        simp only [List.getD, List.getElem?_eq_getElem this] at hu ⊢
        simpa using hu
      have hk : k < st.length := by omega
      have ht : t < st.length := by omega
      cases hv : st[k] with
      | none =>
        have ek : st[k]? = some none := by rw [List.getElem?_eq_getElem hk, hv]
        simp -implicitDefEqProofs [turnB, U_raised_2, L_raised_2, atI_nat', ek, et, rStep, List.getD]
      | some v =>
        have ek : st[k]? = some (some v) := by rw [List.getElem?_eq_getElem hk, hv]
        simp -implicitDefEqProofs [turnB, U_raised_2, L_raised_2, atI_nat', ek, et, rStep, List.getD, ixN_nat ht, imax]) ⟨_, _, _, rfl⟩
  exact ⟨x', y', z', e⟩
end Lw

namespace Lw
open PySem PySem.Spec PyProof.Rows L2 DL
theorem HasT.sweep {n : Nat} {gs : List Gap} {w : Wt} (h : HasT n gs w) : HasT n gs (sweep gs w) := h.fold gs
def oW : Option Wt → D
  | none => .non
  | some w => wD w
theorem l_raised1 {n a b : Nat} {gs : List Gap} {low : Wt} {m : List MO} (h : HasT n gs low) (hb : m[b]? = some (.dT (gs.map gapE))) (hg : gs.length ≤ sizeLine) (lo : Nat) :
    (∃ (x3 x4 x5 x6 x7 : DL.Slot) (w : Wt), forGo ⟨(List.range (n + 1)).map fun i => D.int (i : Nat), [], []⟩ U_raised_1 L_raised_1 ((List.range (n + 1)).map fun i => D.int (i : Nat)) ⟨[.val (.ref a), .val (.ref b), .own (.lst (low.map oD)), .no, .no, .no, .no, .no], m, lo⟩ =
      .nx ⟨[.val (.ref a), .val (.ref b), .own (.lst (w.map oD)), x3, x4, x5, x6, x7], m, lo⟩ ∧ raiseGo gs (n + 1) low = none) ∨
    ∃ (w : Wt) (s' : DL.S), forGo ⟨(List.range (n + 1)).map fun i => D.int (i : Nat), [], []⟩ U_raised_1 L_raised_1 ((List.range (n + 1)).map fun i => D.int (i : Nat)) ⟨[.val (.ref a), .val (.ref b), .own (.lst (low.map oD)), .no, .no, .no, .no, .no], m, lo⟩ = .rt (wD w) s' ∧ s'.mem = m ∧ raiseGo gs (n + 1) low = some w := by
  rcases for_ret (r := ⟨(List.range (n + 1)).map fun i => D.int (i : Nat), [], []⟩) (u := U_raised_1) (body := L_raised_1) (fun i : Nat => D.int (i : Nat))
    (fun q s => ∃ w, HasT n gs w ∧ raiseGo gs (n + 1) low = raiseGo gs (n + 1 - q.length) w ∧ ∃ x3 x4 x5 x6 x7, s = ⟨[.val (.ref a), .val (.ref b), .own (.lst (w.map oD)), x3, x4, x5, x6, x7], m, lo⟩)
    (fun d s => ∃ w, d = wD w ∧ s.mem = m ∧ raiseGo gs (n + 1) low = some w) (fun _ _ _ => ok_nil _ _) (List.range (n + 1)) [] ⟨[.val (.ref a), .val (.ref b), .own (.lst (low.map oD)), .no, .no, .no, .no, .no], m, lo⟩ (by
      rintro q i q' s hq ⟨w, hw, hr, x3, x4, x5, x6, x7, rfl⟩
      have hl : q.length < n + 1 := by
        have := congrArg List.length hq
        simp at this
        omega
      obtain ⟨y5, y6, y7, e⟩ := l_raised2 hw (m.set b .gone) (.val (.ref a)) (.val (.ref b)) (.val (.int (i : Nat))) (.val (wD w)) x5 x6 x7 lo
      have e2 := items_nx (i := 1) (n := b) (u := U_raised_2) (body := L_raised_2) (env := [.val (.ref a), .val (.ref b), .own (.lst (w.map oD)), .val (.int (i : Nat)), .val (wD w), x5, x6, x7]) (mem := m) (lo := lo) rfl hb (by simpa using hg) e
      have e3 := eq_own_w (env := [.val (.ref a), .val (.ref b), .own (.lst ((sweep gs w).map oD)), .val (.int (i : Nat)), .val (wD w), y5, y6, y7]) (i := 2) (w := sweep gs w) (w' := w) (m := m) (lo := lo) rfl
      have er : raiseGo gs (n + 1 - q.length) w = if sweep gs w = w then some w else raiseGo gs (n + 1 - (q.length + 1)) (sweep gs w) := by
        obtain ⟨k, hk⟩ : ∃ k, n + 1 - q.length = k + 1 := ⟨n - q.length, by omega⟩
        rw [hk, show n + 1 - (q.length + 1) = k by omega]
        rfl
      simp only [wD] at e2 e3
      by_cases hb : sweep gs w = w
      · right
        refine ⟨wD w, ⟨[.val (.ref a), .val (.ref b), .val (wD w), .val (.int (i : Nat)), .val (wD w), y5, y6, y7], m, lo⟩, ?_, w, rfl, rfl, by rw [hr, er, if_pos hb]⟩
        simp -implicitDefEqProofs [turnB, U_raised_1, L_raised_1, e2, e3, hb]
        rw [hb] at e3
        simp -implicitDefEqProofs [e3]
      · left
        refine ⟨⟨[.val (.ref a), .val (.ref b), .own (.lst ((sweep gs w).map oD)), .val (.int (i : Nat)), .val (wD w), y5, y6, y7], m, lo⟩, ?_, sweep gs w, hw.sweep, by rw [hr, er, if_neg hb]; simp, _, _, _, _, _, rfl⟩
        simp -implicitDefEqProofs [turnB, U_raised_1, L_raised_1, e2, e3, hb]) ⟨low, h, rfl, _, _, _, _, _, rfl⟩ with ⟨s', e, w, hw, hr, x3, x4, x5, x6, x7, rfl⟩ | ⟨d, s', e, w, rfl, hm, hr⟩
  · exact .inl ⟨x3, x4, x5, x6, x7, w, e, by rw [hr]; simp [raiseGo]⟩
  · exact .inr ⟨w, s', e, hm, hr⟩
theorem f_raised {n a b : Nat} {gs : List Gap} {low : Wt} {m : List MO} (h : HasT n gs low) (hn : n ≤ 4) (ha : m[a]? = some (.lst (low.map oD))) (hb : m[b]? = some (.dT (gs.map gapE))) (hg : gs.length ≤ sizeLine) :
    F_raised [.ref a, .ref b] m = .ok (oW (raiseGo gs (n + 1) low)) m := by
  have hl := h.1
  have e0 : rng1 [.d (.int ((n : Int) + 1))] = fun s => .ok ⟨(List.range (n + 1)).map fun i => D.int (i : Nat), [], []⟩ s := by
    funext s
    exact rng1_nat (n := n + 1) (by omega) s
  rcases l_raised1 (a := a) h hb hg m.length with ⟨x3, x4, x5, x6, x7, w, e, er⟩ | ⟨w, s', e, hm, er⟩
  · simp -implicitDefEqProofs [F_raised, B_raised, ha, hl, e0]
    rw [e, er]
    simp [oW]
  · simp -implicitDefEqProofs [F_raised, B_raised, ha, hl, e0]
    rw [e, er]
    simp [oW, hm]
/-! ### lowered -/
def lStep (w : Wt) (x : Gap) : Wt := match w.getD x.1.1 none with
  | some v => w.set x.1.2 (some (lesserS (w.getD x.1.2 none) (v + x.2)))
  | none => w
def sweepL (gs : List Gap) (w : Wt) : Wt := gs.foldl lStep w
def lowGo (gs : List Gap) : Nat → Wt → Wt
  | 0, w => w
  | k + 1, w => lowGo gs k (sweepL gs w)
def HasL (n : Nat) (gs : List Gap) (w : Wt) : Prop := w.length = n ∧ ∀ x ∈ gs, x.1.1 < n ∧ x.1.2 < n
theorem lStep_len (w : Wt) (x : Gap) : (lStep w x).length = w.length := by
  unfold lStep
  split <;> simp
theorem HasL.fold {n : Nat} {gs : List Gap} : ∀ (q : List Gap) {w : Wt}, HasL n gs w → HasL n gs (q.foldl lStep w)
  | [], _, h => h
  | x :: q, _, h => HasL.fold q ⟨(lStep_len _ x).trans h.1, h.2⟩
theorem l_lowered2 {n : Nat} {gs : List Gap} {w : Wt} (h : HasL n gs w) (m : List MO) (a b c x y z : DL.Slot) (lo : Nat) : ∃ x' y' z', forGo ⟨itemsD (gs.map gapE), [], []⟩ U_lowered_2 L_lowered_2 (itemsD (gs.map gapE)) ⟨[a, b, .own (.lst (w.map oD)), c, x, y, z], m, lo⟩ =
    .nx ⟨[a, b, .own (.lst ((sweepL gs w).map oD)), c, x', y', z'], m, lo⟩ := by
  rw [itemsD_gap]
  obtain ⟨s', e, x', y', z', rfl⟩ := for_all (r := ⟨gs.map fun x => D.tup [.tup [.int (x.1.1 : Nat), .int (x.1.2 : Nat)], .int x.2], [], []⟩) (u := U_lowered_2) (body := L_lowered_2) (fun x : Gap => D.tup [.tup [.int (x.1.1 : Nat), .int (x.1.2 : Nat)], .int x.2])
    (fun q s => ∃ x y z, s = ⟨[a, b, .own (.lst ((q.foldl lStep w).map oD)), c, x, y, z], m, lo⟩) gs (fun _ _ _ => ok_nil _ _)
    (s := ⟨[a, b, .own (.lst (w.map oD)), c, x, y, z], m, lo⟩) (by
      rintro q ⟨⟨t, k⟩, g⟩ q' s hq ⟨x, y, z, rfl⟩
      have hf := h.fold q
      simp only [List.foldl_append, List.foldl_cons, List.foldl_nil]
      generalize q.foldl lStep w = st at hf ⊢
      obtain ⟨h1, h2⟩ := hf.2 ((t, k), g) (by rw [hq]; simp)
      have hl := hf.1
      simp only at h1 h2
      have hk : k < st.length := by omega
      have ht : t < st.length := by omega
      have ek : st[k]? = some st[k] := List.getElem?_eq_getElem hk
      cases hv : st[t] with
      | none =>
        have et : st[t]? = some none := by rw [List.getElem?_eq_getElem ht, hv]
        simp -implicitDefEqProofs [turnB, U_lowered_2, L_lowered_2, atI_nat', et, lStep, List.getD]
      | some v =>
        have et : st[t]? = some (some v) := by rw [List.getElem?_eq_getElem ht, hv]
        simp -implicitDefEqProofs [turnB, U_lowered_2, L_lowered_2, atI_nat', et, ek, lStep, List.getD, ixN_nat hk, f_lesser]) ⟨_, _, _, rfl⟩
  exact ⟨x', y', z', e⟩
theorem f_lowered {n a b : Nat} {gs : List Gap} {high : Wt} {m : List MO} (h : HasL n gs high) (hn : n ≤ 4) (ha : m[a]? = some (.lst (high.map oD))) (hb : m[b]? = some (.dT (gs.map gapE))) (hg : gs.length ≤ sizeLine) :
    F_lowered [.ref a, .ref b] m = .ok (wD (lowGo gs n high)) m := by
  have hl := h.1
  have e0 : rng1 [.d (.int (n : Int))] = fun s => .ok ⟨(List.range n).map fun i => D.int (i : Nat), [], []⟩ s := by
    funext s
    exact rng1_nat (n := n) (by omega) s
  obtain ⟨s', e, w, hw, hr, x3, x4, x5, x6, rfl⟩ := for_all (r := ⟨(List.range n).map fun i => D.int (i : Nat), [], []⟩) (u := U_lowered_1) (body := L_lowered_1) (fun i : Nat => D.int (i : Nat))
    (fun q s => ∃ w, HasL n gs w ∧ lowGo gs n high = lowGo gs (n - q.length) w ∧ ∃ x3 x4 x5 x6, s = ⟨[.val (.ref a), .val (.ref b), .own (.lst (w.map oD)), x3, x4, x5, x6], m, m.length⟩)
    (List.range n) (fun _ _ _ => ok_nil _ _) (s := ⟨[.val (.ref a), .val (.ref b), .own (.lst (high.map oD)), .no, .no, .no, .no], m, m.length⟩) (by
      rintro q i q' s hq ⟨w, hw, hr, x3, x4, x5, x6, rfl⟩
      have hl : q.length < n := by
        have := congrArg List.length hq
        simp at this
        omega
      obtain ⟨y5, y6, y7, e⟩ := l_lowered2 hw (m.set b .gone) (.val (.ref a)) (.val (.ref b)) (.val (.int (i : Nat))) x4 x5 x6 m.length
      have e2 := items_nx (i := 1) (n := b) (u := U_lowered_2) (body := L_lowered_2) (env := [.val (.ref a), .val (.ref b), .own (.lst (w.map oD)), .val (.int (i : Nat)), x4, x5, x6]) (mem := m) (lo := m.length) rfl hb (by simpa using hg) e
      have er : lowGo gs (n - q.length) w = lowGo gs (n - (q.length + 1)) (sweepL gs w) := by
        obtain ⟨k, hk⟩ : ∃ k, n - q.length = k + 1 := ⟨n - q.length - 1, by omega⟩
        rw [hk, show n - (q.length + 1) = k by omega]
        rfl
      refine ⟨⟨[.val (.ref a), .val (.ref b), .own (.lst ((sweepL gs w).map oD)), .val (.int (i : Nat)), y5, y6, y7], m, m.length⟩, ?_, sweepL gs w, hw.fold gs, by rw [hr, er]; simp, _, _, _, _, rfl⟩
      simp -implicitDefEqProofs [turnB, U_lowered_1, L_lowered_1, e2]) ⟨high, h, rfl, _, _, _, _, rfl⟩
  simp -implicitDefEqProofs [F_lowered, B_lowered, ha, hl, e0]
  rw [e]
  simp [hr, lowGo]
end Lw

namespace Lw
open PySem PySem.Spec PyProof.Rows L2 DL
/-! ### who is taken, by conditions -/
/-- the worth of good k -/
def wa (w : Wt) (k : Nat) : Option Int := w.getD k none
def pa (p : List Int) (k : Nat) : Int := p.getD k 0
def CC (w : Wt) (p : List Int) : Option Nat → Prop
  | none => ∀ k v, wa w k = some v → v ≤ pa p k - 1
  | some t => ∃ v, wa w t = some v ∧ pa p t ≤ v ∧ ∀ k u, wa w k = some u → k ≠ t → u - pa p k ≤ v - pa p t - (if k < t then 1 else 0)
theorem CC_inj {w : Wt} {p : List Int} {t t' : Option Nat} (h : CC w p t) (h' : CC w p t') : t = t' := by
  cases t with
  | none =>
    cases t' with
    | none => rfl
    | some t =>
      obtain ⟨v, h1, h2, _⟩ := h'
      have := h t v h1
      omega
  | some t =>
    obtain ⟨v, h1, h2, h3⟩ := h
    cases t' with
    | none => have := h' t v h1; omega
    | some t' =>
      obtain ⟨v', h1', h2', h3'⟩ := h'
      by_cases e : t = t'
      · rw [e]
      · have a := h3 t' v' h1' (fun z => e z.symm)
        have b := h3' t v h1 e
        split at a <;> split at b <;> omega
def TkInv (p : List Int) (q : List (Option Int × Nat)) (s : Option Nat × Int) : Prop :=
  (s.1 = none ∧ s.2 = -1 ∧ ∀ v k, (some v, k) ∈ q → v - pa p k ≤ -1) ∨
    ∃ t v, s.1 = some t ∧ (some v, t) ∈ q ∧ s.2 = v - pa p t ∧ 0 ≤ s.2 ∧ ∀ u k, (some u, k) ∈ q → u - pa p k ≤ s.2 ∧ (k < t → u - pa p k < s.2)
theorem tk_step {p : List Int} {q : List (Option Int × Nat)} {s : Option Nat × Int} (h : TkInv p q s) (a : Option Int × Nat) (hk : ∀ b ∈ q, b.2 < a.2) : TkInv p (q ++ [a]) (tkStep p s a) := by
  obtain ⟨x, k⟩ := a
  cases x with
  | none =>
    have e : tkStep p s (none, k) = s := rfl
    rw [e]
    rcases h with ⟨h1, h2, h3⟩ | ⟨t, v, h1, h2, h3, h4, h5⟩
    · exact .inl ⟨h1, h2, fun v k' hm => by simp at hm; exact h3 v k' hm⟩
    · exact .inr ⟨t, v, h1, by simp [h2], h3, h4, fun u k' hm => by simp at hm; exact h5 u k' hm⟩
  | some v =>
    have e : tkStep p s (some v, k) = if s.2 < v - pa p k then (some k, v - pa p k) else s := rfl
    rw [e]
    split
    · next hb =>
      refine .inr ⟨k, v, rfl, by simp, rfl, ?_, fun u k' hm => ?_⟩
      · rcases h with ⟨h1, h2, h3⟩ | ⟨t, v', h1, h2, h3, h4, h5⟩
        · rw [h2] at hb; show 0 ≤ v - pa p k; omega
        · show 0 ≤ v - pa p k; omega
      · simp at hm
        show u - pa p k' ≤ v - pa p k ∧ (k' < k → u - pa p k' < v - pa p k)
        rcases hm with hm | ⟨rfl, rfl⟩
        · rcases h with ⟨h1, h2, h3⟩ | ⟨t, v', h1, h2, h3, h4, h5⟩
          · have := h3 u k' hm; rw [h2] at hb; constructor
            · omega
            · intro; omega
          · have := (h5 u k' hm).1; constructor
            · omega
            · intro; omega
        · exact ⟨Int.le_refl _, fun z => absurd z (Nat.lt_irrefl _)⟩
    · next hb =>
      rcases h with ⟨h1, h2, h3⟩ | ⟨t, v', h1, h2, h3, h4, h5⟩
      · refine .inl ⟨h1, h2, fun u k' hm => ?_⟩
        simp at hm
        rcases hm with hm | ⟨rfl, rfl⟩
        · exact h3 u k' hm
        · rw [h2] at hb; omega
      · refine .inr ⟨t, v', h1, by simp [h2], h3, h4, fun u k' hm => ?_⟩
        simp at hm
        rcases hm with hm | ⟨rfl, rfl⟩
        · exact h5 u k' hm
        · refine ⟨by omega, fun z => ?_⟩
          have := hk _ h2
          simp at this
          omega
theorem tk_all (p : List Int) : ∀ (l : List (Option Int × Nat)) (q : List (Option Int × Nat)) (s : Option Nat × Int), TkInv p q s → (∀ a b, (q ++ l) = a ++ b → ∀ x ∈ a, ∀ y ∈ b, x.2 < y.2) → TkInv p (q ++ l) (l.foldl (tkStep p) s)
  | [], q, s, h, _ => by simpa using h
  | a :: l, q, s, h, ho => by
    have := tk_all p l (q ++ [a]) (tkStep p s a) (tk_step h a fun b hb => ho q (a :: l) rfl b hb a (by simp)) (fun x y e => ho x y (by rw [← e]; simp))
    simpa using this
theorem zipIdx_mono {α : Type} (w : List α) (a b : List (α × Nat)) (h : w.zipIdx = a ++ b) : ∀ x ∈ a, ∀ y ∈ b, x.2 < y.2 := by
  intro x hx y hy
  obtain ⟨i, hi⟩ := List.mem_iff_getElem?.mp hx
  obtain ⟨j, hj⟩ := List.mem_iff_getElem?.mp hy
  have h1 : w.zipIdx[i]? = some x := by rw [h, List.getElem?_append_left (List.getElem?_eq_some_iff.mp hi).1]; exact hi
  have h2 : w.zipIdx[a.length + j]? = some y := by rw [h, List.getElem?_append_right (by omega)]; simpa using hj
  have hi' := (List.getElem?_eq_some_iff.mp hi).1
  rw [List.getElem?_zipIdx] at h1 h2
  obtain ⟨x', _, rfl⟩ := Option.map_eq_some_iff.mp h1
  obtain ⟨y', _, rfl⟩ := Option.map_eq_some_iff.mp h2
  simp
  omega
theorem mem_zip_wa {w : Wt} {v : Int} {k : Nat} : (some v, k) ∈ w.zipIdx ↔ wa w k = some v := by
  unfold wa
  rw [List.mem_iff_getElem?]
  constructor
  · rintro ⟨i, hi⟩
    rw [List.getElem?_zipIdx] at hi
    obtain ⟨x, h1, h2⟩ := Option.map_eq_some_iff.mp hi
    cases h2
    simp [List.getD, h1]
  · intro h
    refine ⟨k, ?_⟩
    rw [List.getElem?_zipIdx]
    simp only [List.getD] at h
    cases e : w[k]? with
    | none => rw [e] at h; cases h
    | some x => rw [e] at h; simp at h; rw [h]; simp
theorem taken_CC (w : Wt) (p : List Int) : CC w p (takenS w p) := by
  have h := tk_all p w.zipIdx [] (none, -1) (.inl ⟨rfl, rfl, fun v k hm => by cases hm⟩) (fun a b e => zipIdx_mono w a b (by simpa using e))
  simp only [List.nil_append] at h
  unfold takenS
  rcases h with ⟨h1, h2, h3⟩ | ⟨t, v, h1, h2, h3, h4, h5⟩
  · rw [h1]
    intro k v hk
    have := h3 v k (mem_zip_wa.mpr hk)
    omega
  · rw [h1]
    refine ⟨v, mem_zip_wa.mp h2, by omega, fun k u hk hne => ?_⟩
    have := h5 u k (mem_zip_wa.mpr hk)
    rw [h3] at this
    split
    · next hlt => have := this.2 hlt; omega
    · have := this.1; omega
theorem taken_iff {w : Wt} {p : List Int} {t : Option Nat} : takenS w p = t ↔ CC w p t :=
  ⟨fun h => h ▸ taken_CC w p, fun h => CC_inj (taken_CC w p) h⟩
/-! ### tied, by its triples -/
structure Tr where
  t : Option Nat
  p : List Int
  k : Nat
def trStep (s : TS) (x : Tr) : TS := tdStep x.t x.p s (pa x.p x.k, x.k)
def trs (seen : List (Option Nat × List Int)) : List Tr := seen.flatMap fun a => (List.range a.2.length).map fun k => ⟨a.1, a.2, k⟩
theorem foldl_range (t : Option Nat) (p : List Int) (s : TS) : p.zipIdx.foldl (tdStep t p) s = ((List.range p.length).map fun k => (⟨t, p, k⟩ : Tr)).foldl trStep s := by
  have e : p.zipIdx = (List.range p.length).map fun k => (pa p k, k) := by
    apply List.ext_getElem?
    intro i
    rw [List.getElem?_zipIdx, List.getElem?_map]
    by_cases h : i < p.length
    · simp [h, pa]
    · simp [h]
  rw [e, List.foldl_map, List.foldl_map]
  rfl
theorem tied_trs (n : Nat) (seen : List (Option Nat × List Int)) : tiedS n seen = (trs seen).foldl trStep ⟨List.replicate n none, List.replicate n none, []⟩ := by
  unfold tiedS trs
  generalize (⟨List.replicate n none, List.replicate n none, []⟩ : TS) = s
  induction seen generalizing s with
  | nil => rfl
  | cons a l ih =>
    rw [List.foldl_cons, List.flatMap_cons, List.foldl_append, ih, tdDay, foldl_range]
theorem getG_nil (k : Nat × Nat) : getG [] k = none := rfl
theorem getG_put (gs : List Gap) (k j : Nat × Nat) (v : Int) : getG (putG gs k v) j = if j = k then some v else getG gs j := by
  have key : ∀ gs : List Gap, getG (gs.map fun x => if x.1 = k then (x.1, v) else x) j = (getG gs j).map fun y => if j = k then v else y := by
    intro gs
    induction gs with
    | nil => rfl
    | cons x r ih =>
      unfold getG at ih ⊢
      rw [List.map_cons]
      by_cases h : x.1 = j
      · by_cases hk : x.1 = k
        · have hj : j = k := by rw [← h]; exact hk
          rw [if_pos hk, List.find?_cons_of_pos (by simp [h]), List.find?_cons_of_pos (by simp [h])]; simp [hj]
        · have hj : ¬ j = k := by rw [← h]; exact hk
          rw [if_neg hk, List.find?_cons_of_pos (by simp [h]), List.find?_cons_of_pos (by simp [h])]; simp [hj]
      · rw [List.find?_cons_of_neg (by split <;> simp [h]), List.find?_cons_of_neg (by simp [h])]
        exact ih
  have anyk : (gs.any fun x => decide (x.1 = k)) = (getG gs k).isSome := by
    induction gs with
    | nil => rfl
    | cons x r ih =>
      rw [List.any_cons]
      unfold getG at ih ⊢
      by_cases h : x.1 = k
      · rw [List.find?_cons_of_pos (by simp [h])]; simp [h]
      · rw [List.find?_cons_of_neg (by simp [h]), ← ih]; simp [h]
  unfold putG
  rw [anyk]
  split
  · next h =>
    rw [key]
    by_cases e : j = k
    · subst e
      obtain ⟨y, hy⟩ := Option.isSome_iff_exists.mp h
      simp [hy]
    · simp [e]
  · next h =>
    have hn : getG gs k = none := by simpa using h
    have app : ∀ gs : List Gap, getG (gs ++ [(k, v)]) j = match getG gs j with | some y => some y | none => if j = k then some v else none := by
      intro gs
      induction gs with
      | nil =>
        unfold getG
        by_cases e : k = j
        · simp [e]
        · have e' : ¬ j = k := fun z => e z.symm
          simp [e, e']
      | cons x r ih =>
        unfold getG at ih ⊢
        rw [List.cons_append]
        by_cases h : x.1 = j
        · rw [List.find?_cons_of_pos (by simp [h]), List.find?_cons_of_pos (by simp [h])]; rfl
        · rw [List.find?_cons_of_neg (by simp [h]), List.find?_cons_of_neg (by simp [h])]
          exact ih
    rw [app]
    by_cases e : j = k
    · subst e; rw [hn]
    · cases getG gs j <;> simp [e]
theorem mem_put {gs : List Gap} {k : Nat × Nat} {v : Int} {x : Gap} (h : x ∈ putG gs k v) : (x.1 = k ∧ x.2 = v) ∨ (x.1 ≠ k ∧ x ∈ gs) := by
  unfold putG at h
  split at h
  · obtain ⟨y, hy, rfl⟩ := List.mem_map.mp h
    by_cases e : y.1 = k
    · simp [e]
    · simp [e, hy]
  · next hn =>
    rcases List.mem_append.mp h with h | h
    · refine .inr ⟨fun e => hn ?_, h⟩
      rw [List.any_eq_true]
      exact ⟨x, h, by simpa using e⟩
    · rw [List.mem_singleton] at h
      subst h
      exact .inl ⟨rfl, rfl⟩
/-- what is known behind some triples -/
structure TInv (n : Nat) (P : List Tr) (s : TS) : Prop where
  ll : s.low.length = n
  hl : s.high.length = n
  l1 : ∀ k l, wa s.low k = some l → ∃ x ∈ P, x.t = some x.k ∧ x.k = k ∧ l = pa x.p x.k
  l2 : ∀ x ∈ P, x.t = some x.k → ∃ l, wa s.low x.k = some l ∧ pa x.p x.k ≤ l
  h1 : ∀ k h, wa s.high k = some h → ∃ x ∈ P, x.t = none ∧ x.k = k ∧ h = pa x.p x.k - 1
  h2 : ∀ x ∈ P, x.t = none → ∃ h, wa s.high x.k = some h ∧ h ≤ pa x.p x.k - 1
  g0 : ∀ x ∈ s.gaps, getG s.gaps x.1 = some x.2
  g1 : ∀ t k g, getG s.gaps (t, k) = some g → ∃ x ∈ P, x.t = some t ∧ x.k = k ∧ k ≠ t ∧ g = gapN x.p t k (pa x.p k)
  g2 : ∀ x ∈ P, ∀ t, x.t = some t → x.k ≠ t → ∃ g, getG s.gaps (t, x.k) = some g ∧ g ≤ gapN x.p t x.k (pa x.p x.k)
theorem wa_set {w : Wt} {k j : Nat} {v : Option Int} (h : k < w.length) : wa (w.set k v) j = if k = j then v else wa w j := by
  unfold wa
  by_cases e : k = j
  · subst e; simp [List.getD, h]
  · simp [List.getD, List.getElem?_set_ne e, e]
theorem lesser_le (x : Option Int) (y : Int) : lesserS x y ≤ y ∧ (∀ i, x = some i → lesserS x y ≤ i) ∧ (lesserS x y = y ∨ ∃ i, x = some i ∧ lesserS x y = i) := by
  cases x with
  | none => exact ⟨Int.le_refl _, fun i h => (nomatch h), .inl rfl⟩
  | some i =>
    show min i y ≤ y ∧ (∀ j, some i = some j → min i y ≤ j) ∧ (min i y = y ∨ ∃ j, some i = some j ∧ min i y = j)
    refine ⟨by omega, fun j h => by cases h; omega, ?_⟩
    by_cases h : i ≤ y
    · exact .inr ⟨i, rfl, by omega⟩
    · exact .inl (by omega)
theorem greater_le (x : Option Int) (y : Int) : y ≤ greaterS x y ∧ (∀ i, x = some i → i ≤ greaterS x y) ∧ (greaterS x y = y ∨ ∃ i, x = some i ∧ greaterS x y = i) := by
  cases x with
  | none => exact ⟨Int.le_refl _, fun i h => (nomatch h), .inl rfl⟩
  | some i =>
    show y ≤ max i y ∧ (∀ j, some i = some j → j ≤ max i y) ∧ (max i y = y ∨ ∃ j, some i = some j ∧ max i y = j)
    refine ⟨by omega, fun j h => by cases h; omega, ?_⟩
    by_cases h : y ≤ i
    · exact .inr ⟨i, rfl, by omega⟩
    · exact .inl (by omega)
theorem tinv_step {n : Nat} {P : List Tr} {s : TS} (h : TInv n P s) (x : Tr) (hk : x.k < n) : TInv n (P ++ [x]) (trStep s x) := by
  have mem : ∀ y, y ∈ P ++ [x] ↔ y ∈ P ∨ y = x := fun y => by simp
  obtain ⟨t, p, k⟩ := x
  have hk : k < n := hk
  cases t with
  | none =>
    have e : trStep s ⟨none, p, k⟩ = ⟨s.low, s.high.set k (some (lesserS (wa s.high k) (pa p k - 1))), s.gaps⟩ := rfl
    rw [e]
    have hx : k < s.high.length := by rw [h.hl]; exact hk
    obtain ⟨a1, a2, a3⟩ := lesser_le (wa s.high k) (pa p k - 1)
    refine ⟨h.ll, by simp [h.hl], fun j l hj => ?_, fun y hy ht => ?_, fun j v hj => ?_, fun y hy ht => ?_, h.g0, fun t' j g hg => ?_, fun y hy t' ht hne => ?_⟩
    · obtain ⟨y, hy, z⟩ := h.l1 j l hj; exact ⟨y, by simp [hy], z⟩
    · rcases (mem y).mp hy with hy | rfl
      · exact h.l2 y hy ht
      · cases ht
    · rw [wa_set hx] at hj
      split at hj
      · next e =>
        cases hj
        rcases a3 with a3 | ⟨i, hi, a3⟩
        · exact ⟨⟨none, p, k⟩, by simp, rfl, e, a3⟩
        · obtain ⟨y, hy, z1, z2, z3⟩ := h.h1 k i hi
          exact ⟨y, by simp [hy], z1, z2.trans e, by rw [a3]; exact z3⟩
      · obtain ⟨y, hy, z⟩ := h.h1 j v hj; exact ⟨y, by simp [hy], z⟩
    · rw [wa_set hx]
      rcases (mem y).mp hy with hy | rfl
      · obtain ⟨v, hv, hle⟩ := h.h2 y hy ht
        by_cases e : k = y.k
        · rw [if_pos e]; rw [← e] at hv; exact ⟨_, rfl, Int.le_trans (a2 _ hv) hle⟩
        · rw [if_neg e]; exact ⟨v, hv, hle⟩
      · rw [if_pos rfl]; exact ⟨_, rfl, a1⟩
    · obtain ⟨y, hy, z⟩ := h.g1 t' j g hg; exact ⟨y, by simp [hy], z⟩
    · rcases (mem y).mp hy with hy | rfl
      · exact h.g2 y hy t' ht hne
      · cases ht
  | some t =>
    by_cases hkt : k = t
    · have e : trStep s ⟨some t, p, k⟩ = ⟨s.low.set k (some (greaterS (wa s.low k) (pa p k))), s.high, s.gaps⟩ := by
        unfold trStep tdStep
        simp only
        rw [if_pos hkt]; rfl
      rw [e]
      subst hkt
      have hx : k < s.low.length := by rw [h.ll]; exact hk
      obtain ⟨a1, a2, a3⟩ := greater_le (wa s.low k) (pa p k)
      refine ⟨by simp [h.ll], h.hl, fun j l hj => ?_, fun y hy ht => ?_, fun j v hj => ?_, fun y hy ht => ?_, h.g0, fun t' j g hg => ?_, fun y hy t' ht hne => ?_⟩
      · rw [wa_set hx] at hj
        split at hj
        · next e =>
          cases hj
          rcases a3 with a3 | ⟨i, hi, a3⟩
          · exact ⟨⟨some k, p, k⟩, by simp, rfl, e, a3⟩
          · obtain ⟨y, hy, z1, z2, z3⟩ := h.l1 k i hi
            exact ⟨y, by simp [hy], z1, z2.trans e, by rw [a3]; exact z3⟩
        · obtain ⟨y, hy, z⟩ := h.l1 j l hj; exact ⟨y, by simp [hy], z⟩
      · rw [wa_set hx]
        rcases (mem y).mp hy with hy | rfl
        · obtain ⟨v, hv, hle⟩ := h.l2 y hy ht
          by_cases e : k = y.k
          · rw [if_pos e]; rw [← e] at hv; exact ⟨_, rfl, Int.le_trans hle (a2 _ hv)⟩
          · rw [if_neg e]; exact ⟨v, hv, hle⟩
        · rw [if_pos rfl]; exact ⟨_, rfl, a1⟩
      · obtain ⟨y, hy, z⟩ := h.h1 j v hj; exact ⟨y, by simp [hy], z⟩
      · rcases (mem y).mp hy with hy | rfl
        · exact h.h2 y hy ht
        · cases ht
      · obtain ⟨y, hy, z⟩ := h.g1 t' j g hg; exact ⟨y, by simp [hy], z⟩
      · rcases (mem y).mp hy with hy | rfl
        · exact h.g2 y hy t' ht hne
        · cases ht; exact absurd rfl hne
    · have e : trStep s ⟨some t, p, k⟩ = ⟨s.low, s.high, putG s.gaps (t, k) (lesserS (getG s.gaps (t, k)) (gapN p t k (pa p k)))⟩ := by
        unfold trStep tdStep
        simp only
        rw [if_neg hkt]
      rw [e]
      obtain ⟨a1, a2, a3⟩ := lesser_le (getG s.gaps (t, k)) (gapN p t k (pa p k))
      refine ⟨h.ll, h.hl, fun j l hj => ?_, fun y hy ht => ?_, fun j v hj => ?_, fun y hy ht => ?_, fun y hy => ?_, fun t' j g hg => ?_, fun y hy t' ht hne => ?_⟩
      · obtain ⟨y, hy, z⟩ := h.l1 j l hj; exact ⟨y, by simp [hy], z⟩
      · rcases (mem y).mp hy with hy | rfl
        · exact h.l2 y hy ht
        · have ht : some t = some k := ht
          cases ht; exact absurd rfl hkt
      · obtain ⟨y, hy, z⟩ := h.h1 j v hj; exact ⟨y, by simp [hy], z⟩
      · rcases (mem y).mp hy with hy | rfl
        · exact h.h2 y hy ht
        · cases ht
      · show getG (putG s.gaps (t, k) _) y.1 = some y.2
        rw [getG_put]
        rcases mem_put hy with ⟨e1, e2⟩ | ⟨e1, e2⟩
        · rw [if_pos e1, e2]
        · rw [if_neg e1]; exact h.g0 y e2
      · have hg : getG (putG s.gaps (t, k) _) (t', j) = some g := hg
        rw [getG_put] at hg
        split at hg
        · next e =>
          cases hg
          cases e
          rcases a3 with a3 | ⟨i, hi, a3⟩
          · exact ⟨⟨some t, p, k⟩, by simp, rfl, rfl, hkt, a3⟩
          · obtain ⟨y, hy, z1, z2, z3, z4⟩ := h.g1 t k i hi
            exact ⟨y, by simp [hy], z1, z2, z3, by rw [a3]; exact z4⟩
        · obtain ⟨y, hy, z⟩ := h.g1 t' j g hg; exact ⟨y, by simp [hy], z⟩
      · show ∃ g, getG (putG s.gaps (t, k) _) (t', y.k) = some g ∧ _
        rw [getG_put]
        rcases (mem y).mp hy with hy | rfl
        · obtain ⟨v, hv, hle⟩ := h.g2 y hy t' ht hne
          by_cases e : (t', y.k) = (t, k)
          · rw [if_pos e]; rw [e] at hv; exact ⟨_, rfl, Int.le_trans (a2 _ hv) hle⟩
          · rw [if_neg e]; exact ⟨v, hv, hle⟩
        · cases ht
          rw [if_pos rfl]; exact ⟨_, rfl, a1⟩
theorem tinv_fold {n : Nat} : ∀ (l : List Tr) (P : List Tr) (s : TS), TInv n P s → (∀ x ∈ l, x.k < n) → TInv n (P ++ l) (l.foldl trStep s)
  | [], P, s, h, _ => by simpa using h
  | x :: l, P, s, h, hk => by
    have := tinv_fold l (P ++ [x]) (trStep s x) (tinv_step h x (hk x (by simp))) (fun y hy => hk y (by simp [hy]))
    simpa using this
theorem wa_rep (n k : Nat) : wa (List.replicate n none) k = none := by
  unfold wa
  simp only [List.getD, List.getElem?_replicate]
  split <;> rfl
theorem mem_trs {seen : List (Option Nat × List Int)} {x : Tr} : x ∈ trs seen ↔ (x.t, x.p) ∈ seen ∧ x.k < x.p.length := by
  unfold trs
  rw [List.mem_flatMap]
  constructor
  · rintro ⟨a, ha, hx⟩
    obtain ⟨k, hk, rfl⟩ := List.mem_map.mp hx
    exact ⟨ha, by simpa using hk⟩
  · rintro ⟨h1, h2⟩
    exact ⟨(x.t, x.p), h1, List.mem_map.mpr ⟨x.k, by simpa using h2, rfl⟩⟩
theorem tied_inv {n : Nat} {seen : List (Option Nat × List Int)} (h : ∀ a ∈ seen, a.2.length = n) : TInv n (trs seen) (tiedS n seen) := by
  rw [tied_trs]
  have := tinv_fold (n := n) (trs seen) [] ⟨List.replicate n none, List.replicate n none, []⟩
    ⟨by simp, by simp, fun k l e => (by rw [wa_rep] at e; cases e), fun x hx => (by simp at hx), fun k l e => (by rw [wa_rep] at e; cases e), fun x hx => (by simp at hx), fun x hx => (by simp at hx), fun t k g e => (by rw [getG_nil] at e; cases e), fun x hx => (by simp at hx)⟩
    (fun x hx => by obtain ⟨h1, h2⟩ := mem_trs.mp hx; rw [← h _ h1]; exact h2)
  simpa using this
/-! ### the rows' conditions as bounds and gaps -/
def Sat (w : Wt) (seen : List (Option Nat × List Int)) : Prop := ∀ a ∈ seen, CC w a.2 a.1
structure Sys (w : Wt) (T : TS) : Prop where
  low : ∀ k l, wa T.low k = some l → ∃ v, wa w k = some v ∧ l ≤ v
  high : ∀ k h v, wa T.high k = some h → wa w k = some v → v ≤ h
  gap : ∀ x ∈ T.gaps, ∀ v, wa w x.1.2 = some v → ∃ u, wa w x.1.1 = some u ∧ v - x.2 ≤ u
theorem wa_lt {w : Wt} {k : Nat} {v : Int} (h : wa w k = some v) : k < w.length := by
  apply Classical.byContradiction
  intro hn
  unfold wa at h
  simp [List.getD, List.getElem?_eq_none (by omega : w.length ≤ k)] at h
theorem sat_sys {n : Nat} {seen : List (Option Nat × List Int)} (hp : ∀ a ∈ seen, a.2.length = n) {w : Wt} (h : Sat w seen) : Sys w (tiedS n seen) := by
  have I := tied_inv hp
  refine ⟨fun k l e => ?_, fun k v u e e2 => ?_, fun x hx v e => ?_⟩
  · obtain ⟨x, hx, h1, h2, h3⟩ := I.l1 k l e
    have c := h _ (mem_trs.mp hx).1
    simp only [h1] at c
    obtain ⟨v, c1, c2, _⟩ := c
    subst h2
    exact ⟨v, c1, by omega⟩
  · obtain ⟨x, hx, h1, h2, h3⟩ := I.h1 k v e
    have c := h _ (mem_trs.mp hx).1
    simp only [h1] at c
    subst h2
    have := c _ _ e2
    omega
  · obtain ⟨⟨t, k⟩, g⟩ := x
    obtain ⟨y, hy, h1, h2, h3, h4⟩ := I.g1 t k g (I.g0 _ hx)
    have c := h _ (mem_trs.mp hy).1
    simp only [h1] at c
    obtain ⟨u, c1, c2, c3⟩ := c
    have := c3 k v e h3
    refine ⟨u, c1, ?_⟩
    show v - g ≤ u
    rw [h4]
    unfold gapN
    show v - (pa y.p k - pa y.p t - (if k < t then 1 else 0)) ≤ u
    omega
theorem sys_sat {n : Nat} {seen : List (Option Nat × List Int)} (hp : ∀ a ∈ seen, a.2.length = n) (ht : ∀ a ∈ seen, ∀ k, a.1 = some k → k < n) {w : Wt} (hw : w.length ≤ n) (h : Sys w (tiedS n seen)) : Sat w seen := by
  have I := tied_inv hp
  rintro ⟨t, p⟩ ha
  have hl := hp _ ha
  cases t with
  | none =>
    intro k v e
    have hk : k < p.length := by have := wa_lt e; simp only at hl; omega
    obtain ⟨b, h1, h2⟩ := I.h2 ⟨none, p, k⟩ (mem_trs.mpr ⟨ha, hk⟩) rfl
    have := h.high k b v h1 e
    simp only at h2
    show v ≤ pa p k - 1
    omega
  | some t =>
    have htl : t < p.length := by have := ht _ ha t rfl; simp only at hl; omega
    obtain ⟨l, h1, h2⟩ := I.l2 ⟨some t, p, t⟩ (mem_trs.mpr ⟨ha, htl⟩) rfl
    obtain ⟨v, v1, v2⟩ := h.low t l h1
    refine ⟨v, v1, Int.le_trans h2 v2, fun k u e hne => ?_⟩
    have hk : k < p.length := by have := wa_lt e; simp only at hl; omega
    obtain ⟨g, g1, g2⟩ := I.g2 ⟨some t, p, k⟩ (mem_trs.mpr ⟨ha, hk⟩) t rfl hne
    have hm : (((t, k), g) : Gap) ∈ (tiedS n seen).gaps := by
      unfold getG at g1
      obtain ⟨y, hy, rfl⟩ := Option.map_eq_some_iff.mp g1
      have := List.find?_some hy
      have hy2 := List.mem_of_find?_eq_some hy
      simp at this
      rw [← this]; exact hy2
    obtain ⟨v', e1, e2⟩ := h.gap _ hm u e
    have e1 : wa w t = some v' := e1
    rw [v1] at e1; cases e1
    have e2 : u - g ≤ v := e2
    have g2 : g ≤ pa p k - pa p t - (if k < t then 1 else 0) := g2
    show u - pa p k ≤ v - pa p t - (if k < t then 1 else 0)
    omega
end Lw

namespace Lw
open PySem PySem.Spec PyProof.Rows L2 DL
/-! ### the least worths -/
def Sol (gs : List Gap) (w : Wt) : Prop := ∀ x ∈ gs, ∀ v, wa w x.1.2 = some v → ∃ u, wa w x.1.1 = some u ∧ v - x.2 ≤ u
def Le (a w : Wt) : Prop := ∀ k v, wa a k = some v → ∃ u, wa w k = some u ∧ v ≤ u
theorem Le.refl (a : Wt) : Le a a := fun k v h => ⟨v, h, Int.le_refl _⟩
theorem Le.trans {a b c : Wt} (h : Le a b) (k : Le b c) : Le a c := fun i v e => by
  obtain ⟨u, e1, h1⟩ := h i v e
  obtain ⟨x, e2, h2⟩ := k i u e1
  exact ⟨x, e2, by omega⟩
theorem wa_ext {a b : Wt} (hl : a.length = b.length) (h : ∀ k, wa a k = wa b k) : a = b := by
  apply List.ext_getElem hl
  intro i h1 h2
  have := h i
  unfold wa at this
  simpa [List.getD, h1, h2] using this
theorem Le.antisymm {a b : Wt} (hl : a.length = b.length) (h : Le a b) (k : Le b a) : a = b := by
  refine wa_ext hl fun i => ?_
  cases e : wa a i with
  | none =>
    cases e2 : wa b i with
    | none => rfl
    | some v => obtain ⟨u, e3, _⟩ := k i v e2; rw [e] at e3; cases e3
  | some v =>
    obtain ⟨u, e3, h1⟩ := h i v e
    obtain ⟨x, e4, h2⟩ := k i u e3
    rw [e] at e4; cases e4
    rw [e3]; congr 1; omega
theorem rStep_wa {n : Nat} {gs : List Gap} {w : Wt} (h : HasT n gs w) {x : Gap} (hx : x ∈ gs) (k : Nat) : wa (rStep w x) k = match wa w x.1.2, wa w x.1.1 with
    | some v, some u => if x.1.1 = k then some (max u (v - x.2)) else wa w k
    | _, _ => wa w k := by
  have hl : x.1.1 < w.length := by rw [h.1]; exact (h.2 x hx).1
  unfold rStep
  show wa (match wa w x.1.2, wa w x.1.1 with | some v, some u => w.set x.1.1 (some (max u (v - x.2))) | _, _ => w) k = _
  cases wa w x.1.2 with
  | none => rfl
  | some v => cases wa w x.1.1 with
    | none => rfl
    | some u => exact wa_set hl
theorem rStep_le {n : Nat} {gs : List Gap} {w : Wt} (h : HasT n gs w) {x : Gap} (hx : x ∈ gs) : Le w (rStep w x) := fun k v e => by
  rw [rStep_wa h hx]
  split
  · next v' u e1 e2 =>
    split
    · next hk => subst hk; rw [e2] at e; cases e; exact ⟨_, rfl, by omega⟩
    · exact ⟨v, e, Int.le_refl _⟩
  · exact ⟨v, e, Int.le_refl _⟩
theorem rStep_bd {n : Nat} {gs : List Gap} {w s : Wt} (h : HasT n gs w) {x : Gap} (hx : x ∈ gs) (hs : Sol gs s) (hle : Le w s) : Le (rStep w x) s := fun k v e => by
  rw [rStep_wa h hx] at e
  split at e
  · next v' u e1 e2 =>
    split at e
    · next hk =>
      cases e
      subst hk
      obtain ⟨y, e3, h1⟩ := hle _ _ e1
      obtain ⟨z, e4, h2⟩ := hs x hx y e3
      obtain ⟨z', e5, h3⟩ := hle _ _ e2
      rw [e4] at e5; cases e5
      exact ⟨z, e4, by omega⟩
    · exact hle k v e
  · exact hle k v e
theorem rStep_dom {n : Nat} {gs : List Gap} {w : Wt} (h : HasT n gs w) {x : Gap} (hx : x ∈ gs) (k : Nat) : (wa (rStep w x) k).isSome = (wa w k).isSome := by
  rw [rStep_wa h hx]
  split
  · next v' u e1 e2 =>
    split
    · next hk => subst hk; rw [e2]; rfl
    · rfl
  · rfl
theorem fold_le {n : Nat} {gs : List Gap} : ∀ (q : List Gap) {w : Wt}, HasT n gs w → (∀ x ∈ q, x ∈ gs) → Le w (q.foldl rStep w)
  | [], w, _, _ => Le.refl w
  | x :: q, w, h, hq => (rStep_le h (hq x (by simp))).trans (fold_le q (h.step x) fun y hy => hq y (by simp [hy]))
theorem fold_bd {n : Nat} {gs : List Gap} {s : Wt} (hs : Sol gs s) : ∀ (q : List Gap) {w : Wt}, HasT n gs w → (∀ x ∈ q, x ∈ gs) → Le w s → Le (q.foldl rStep w) s
  | [], w, _, _, h => h
  | x :: q, w, h, hq, hl => fold_bd hs q (h.step x) (fun y hy => hq y (by simp [hy])) (rStep_bd h (hq x (by simp)) hs hl)
theorem fold_dom {n : Nat} {gs : List Gap} (k : Nat) : ∀ (q : List Gap) {w : Wt}, HasT n gs w → (∀ x ∈ q, x ∈ gs) → (wa (q.foldl rStep w) k).isSome = (wa w k).isSome
  | [], w, _, _ => rfl
  | x :: q, w, h, hq => (fold_dom k q (h.step x) fun y hy => hq y (by simp [hy])).trans (rStep_dom h (hq x (by simp)) k)
theorem sweep_le {n : Nat} {gs : List Gap} {w : Wt} (h : HasT n gs w) : Le w (sweep gs w) := fold_le gs h fun _ h => h
theorem sweep_bd {n : Nat} {gs : List Gap} {w s : Wt} (h : HasT n gs w) (hs : Sol gs s) (hl : Le w s) : Le (sweep gs w) s := fold_bd hs gs h (fun _ h => h) hl
theorem sweep_dom {n : Nat} {gs : List Gap} {w : Wt} (h : HasT n gs w) (k : Nat) : (wa (sweep gs w) k).isSome = (wa w k).isSome := fold_dom k gs h fun _ h => h
theorem sweep_gap {n : Nat} {gs : List Gap} {w : Wt} (h : HasT n gs w) {x : Gap} (hx : x ∈ gs) {v : Int} (e : wa w x.1.2 = some v) : ∃ u, wa (sweep gs w) x.1.1 = some u ∧ v - x.2 ≤ u := by
  obtain ⟨a, b, hab⟩ := List.append_of_mem hx
  have e0 : sweep gs w = (x :: b).foldl rStep (a.foldl rStep w) := by
    unfold sweep
    rw [← List.foldl_append, ← hab]
  have ha : HasT n gs (a.foldl rStep w) := h.fold a
  have sub : ∀ y ∈ a, y ∈ gs := fun y hy => by rw [hab]; simp [hy]
  have subb : ∀ y ∈ b, y ∈ gs := fun y hy => by rw [hab]; simp [hy]
  obtain ⟨v1, e1, h1⟩ := fold_le a h sub _ v e
  obtain ⟨u1, e2⟩ := Option.isSome_iff_exists.mp (ha.2 x hx).2.2
  have e2 : wa (a.foldl rStep w) x.1.1 = some u1 := e2
  have e3 : wa (rStep (a.foldl rStep w) x) x.1.1 = some (max u1 (v1 - x.2)) := by
    rw [rStep_wa ha hx, e1, e2]
    simp
  obtain ⟨u, e4, h4⟩ := fold_le b (ha.step x) subb _ _ e3
  refine ⟨u, ?_, by omega⟩
  rw [e0, List.foldl_cons]
  exact e4
theorem fix_sol {n : Nat} {gs : List Gap} {w : Wt} (h : HasT n gs w) (e : sweep gs w = w) : Sol gs w := fun x hx v hv => by
  have := sweep_gap h hx hv
  rw [e] at this
  exact this
theorem sweep_len (gs : List Gap) (w : Wt) : (sweep gs w).length = w.length := by
  unfold sweep
  induction gs generalizing w with
  | nil => rfl
  | cons x r ih => rw [List.foldl_cons, ih, rStep_len]
theorem sol_fix {n : Nat} {gs : List Gap} {w : Wt} (h : HasT n gs w) (hs : Sol gs w) : sweep gs w = w :=
  Le.antisymm (sweep_len gs w) (sweep_bd h hs (Le.refl w)) (sweep_le h)
/-- how far below -/
def far (s w : Wt) : Nat → Nat
  | 0 => 0
  | k + 1 => far s w k + (((wa s k).getD 0) - ((wa w k).getD 0)).toNat
theorem far_lt {s w w' : Wt} (h1 : Le w w') (h2 : Le w' s) (hd : ∀ k, (wa w' k).isSome = (wa w k).isSome) : ∀ n : Nat, far s w' n ≤ far s w n ∧ ((∃ k, k < n ∧ wa w k ≠ wa w' k) → far s w' n < far s w n)
  | 0 => ⟨Nat.le_refl _, fun ⟨k, hk, _⟩ => absurd hk (Nat.not_lt_zero _)⟩
  | n + 1 => by
    obtain ⟨i1, i2⟩ := far_lt h1 h2 hd n
    unfold far
    cases e : wa w n with
    | none =>
      have e' : wa w' n = none := by have := hd n; rw [e] at this; simpa using this
      rw [e']
      refine ⟨by omega, fun ⟨k, hk, hne⟩ => ?_⟩
      by_cases hkn : k = n
      · subst hkn; rw [e, e'] at hne; exact absurd rfl hne
      · have := i2 ⟨k, by omega, hne⟩; omega
    | some v =>
      obtain ⟨v', e', hv⟩ := h1 n v e
      obtain ⟨u, e2, hu⟩ := h2 n v' e'
      rw [e', e2]
      simp only [Option.getD_some]
      refine ⟨by omega, fun ⟨k, hk, hne⟩ => ?_⟩
      by_cases hkn : k = n
      · subst hkn
        rw [e, e'] at hne
        have : v ≠ v' := fun z => hne (by rw [z])
        omega
      · have := i2 ⟨k, by omega, hne⟩; omega
/-- the least solution above w -/
structure Least (n : Nat) (gs : List Gap) (w L : Wt) : Prop where
  has : HasT n gs L
  sol : Sol gs L
  le : Le w L
  dom : ∀ k, (wa L k).isSome = (wa w k).isSome
  least : ∀ s, Sol gs s → Le w s → Le L s
theorem least_ex {n : Nat} {gs : List Gap} {s : Wt} (hs : Sol gs s) : ∀ (N : Nat) (w : Wt), HasT n gs w → Le w s → far s w n ≤ N → ∃ L, Least n gs w L := by
  intro N
  induction N with
  | zero =>
    intro w h hl hf
    have e : sweep gs w = w := Classical.byContradiction fun hne => by
      have : ∃ k, k < n ∧ wa w k ≠ wa (sweep gs w) k := Classical.byContradiction fun z => hne (wa_ext (sweep_len gs w) fun k => by
        by_cases hk : k < n
        · exact Classical.byContradiction fun y => z ⟨k, hk, fun q => y q.symm⟩
        · have e1 : wa w k = none := by unfold wa; simp [List.getD, List.getElem?_eq_none (by rw [h.1]; omega : w.length ≤ k)]
          have e2 : wa (sweep gs w) k = none := by unfold wa; simp [List.getD, List.getElem?_eq_none (by rw [sweep_len, h.1]; omega : (sweep gs w).length ≤ k)]
          rw [e1, e2])
      have := (far_lt (sweep_le h) (sweep_bd h hs hl) (sweep_dom h) n).2 this
      omega
    exact ⟨w, h, fix_sol h e, Le.refl w, fun _ => rfl, fun _ _ h => h⟩
  | succ N ih =>
    intro w h hl hf
    by_cases e : sweep gs w = w
    · exact ⟨w, h, fix_sol h e, Le.refl w, fun _ => rfl, fun _ _ h => h⟩
    · have hk : ∃ k, k < n ∧ wa w k ≠ wa (sweep gs w) k := Classical.byContradiction fun z => e (wa_ext (sweep_len gs w) fun k => by
        by_cases hk : k < n
        · exact Classical.byContradiction fun y => z ⟨k, hk, fun q => y q.symm⟩
        · have e1 : wa w k = none := by unfold wa; simp [List.getD, List.getElem?_eq_none (by rw [h.1]; omega : w.length ≤ k)]
          have e2 : wa (sweep gs w) k = none := by unfold wa; simp [List.getD, List.getElem?_eq_none (by rw [sweep_len, h.1]; omega : (sweep gs w).length ≤ k)]
          rw [e1, e2])
      have hlt := (far_lt (sweep_le h) (sweep_bd h hs hl) (sweep_dom h) n).2 hk
      obtain ⟨L, l1, l2, l3, l4, l5⟩ := ih (sweep gs w) h.sweep (sweep_bd h hs hl) (by omega)
      exact ⟨L, l1, l2, (sweep_le h).trans l3, fun k => (l4 k).trans (sweep_dom h k), fun t ht hw => l5 t ht (sweep_bd h ht hw)⟩
def cnt (L w : Wt) : Nat → Nat
  | 0 => 0
  | k + 1 => cnt L w k + if wa w k = wa L k then 0 else 1
theorem cnt_le (L w : Wt) : ∀ n, cnt L w n ≤ n
  | 0 => Nat.le_refl _
  | n + 1 => by have := cnt_le L w n; unfold cnt; split <;> omega
theorem cnt_mono {L w w' : Wt} (h : ∀ k, wa w k = wa L k → wa w' k = wa L k) : ∀ n, cnt L w' n ≤ cnt L w n ∧ ((∃ k, k < n ∧ wa w k ≠ wa L k ∧ wa w' k = wa L k) → cnt L w' n < cnt L w n)
  | 0 => ⟨Nat.le_refl _, fun ⟨k, hk, _⟩ => absurd hk (Nat.not_lt_zero _)⟩
  | n + 1 => by
    obtain ⟨i1, i2⟩ := cnt_mono h n
    unfold cnt
    by_cases e : wa w n = wa L n
    · rw [if_pos e, if_pos (h n e)]
      refine ⟨by omega, fun ⟨k, hk, h1, h2⟩ => ?_⟩
      by_cases hkn : k = n
      · subst hkn; exact absurd e h1
      · have := i2 ⟨k, by omega, h1, h2⟩; omega
    · rw [if_neg e]
      by_cases e' : wa w' n = wa L n
      · rw [if_pos e']; exact ⟨by omega, fun _ => by omega⟩
      · rw [if_neg e']
        refine ⟨by omega, fun ⟨k, hk, h1, h2⟩ => ?_⟩
        by_cases hkn : k = n
        · subst hkn; exact absurd h2 e'
        · have := i2 ⟨k, by omega, h1, h2⟩; omega
theorem cnt_zero {L w : Wt} : ∀ n, cnt L w n = 0 → ∀ k, k < n → wa w k = wa L k
  | 0, _, k, hk => absurd hk (Nat.not_lt_zero _)
  | n + 1, h, k, hk => by
    unfold cnt at h
    by_cases hkn : k = n
    · subst hkn
      apply Classical.byContradiction
      intro z
      rw [if_neg z] at h
      omega
    · exact cnt_zero n (by omega) k (by omega)
theorem cnt_drop {n : Nat} {gs : List Gap} {low w L : Wt} (hL : Least n gs low L) (h : HasT n gs w) (hlow : Le low w) (hwl : Le w L) (hd : ∀ k, (wa w k).isSome = (wa L k).isSome) (hne : w ≠ L) : cnt L (sweep gs w) n < cnt L w n := by
  have hs := sweep_le h
  have hb := sweep_bd h hL.sol hwl
  have keep : ∀ k, wa w k = wa L k → wa (sweep gs w) k = wa L k := fun k e => by
    cases e1 : wa L k with
    | none =>
      have := sweep_dom h k
      rw [e, e1] at this
      simpa using this
    | some v =>
      rw [e1] at e
      obtain ⟨u, e2, h2⟩ := hs k v e
      obtain ⟨z, e3, h3⟩ := hb k u e2
      rw [e1] at e3; cases e3
      rw [e2]; congr 1; omega
  refine (cnt_mono keep n).2 (Classical.byContradiction fun hno => ?_)
  have hno : ∀ k, k < n → wa w k ≠ wa L k → wa (sweep gs w) k ≠ wa L k := fun k hk h1 h2 => hno ⟨k, hk, h1, h2⟩
  have hex : ∃ k, k < n ∧ wa w k ≠ wa L k := Classical.byContradiction fun z => hne (wa_ext (h.1.trans hL.has.1.symm) fun k => by
    by_cases hk : k < n
    · exact Classical.byContradiction fun y => z ⟨k, hk, y⟩
    · have e1 : wa w k = none := by unfold wa; simp [List.getD, List.getElem?_eq_none (by rw [h.1]; omega : w.length ≤ k)]
      have e2 : wa L k = none := by unfold wa; simp [List.getD, List.getElem?_eq_none (by rw [hL.has.1]; omega : L.length ≤ k)]
      rw [e1, e2])
  let L' : Wt := (List.range n).map fun k => if wa w k = wa L k then wa L k else (wa L k).map (· - 1)
  have wL' : ∀ k, k < n → wa L' k = if wa w k = wa L k then wa L k else (wa L k).map (· - 1) := fun k hk => by
    show ((List.range n).map _).getD k none = _
    simp [List.getD, hk]
  have sol' : Sol gs L' := fun x hx v' e => by
    obtain ⟨b1, b2, _⟩ := h.2 x hx
    rw [wL' _ b2] at e
    rw [wL' _ b1]
    by_cases hk : wa w x.1.2 = wa L x.1.2
    · rw [if_pos hk] at e
      rw [← hk] at e
      obtain ⟨u1, e1, h1⟩ := sweep_gap h hx e
      obtain ⟨u, e2, h2⟩ := hb _ _ e1
      by_cases ht : wa w x.1.1 = wa L x.1.1
      · rw [if_pos ht]; exact ⟨u, e2, by omega⟩
      · rw [if_neg ht, e2]
        refine ⟨u - 1, rfl, ?_⟩
        have := hno _ b1 ht
        rw [e1, e2] at this
        have : u1 ≠ u := fun z => this (by rw [z])
        omega
    · rw [if_neg hk] at e
      obtain ⟨v, e0, rfl⟩ := Option.map_eq_some_iff.mp e
      obtain ⟨u, e2, h2⟩ := hL.sol x hx v e0
      by_cases ht : wa w x.1.1 = wa L x.1.1
      · rw [if_pos ht]; exact ⟨u, e2, by omega⟩
      · rw [if_neg ht, e2]; exact ⟨u - 1, rfl, by omega⟩
  have le' : Le w L' := fun k a e => by
    have hk : k < n := by have := wa_lt e; rw [h.1] at this; exact this
    obtain ⟨u, e2, h2⟩ := hwl k a e
    rw [wL' k hk]
    by_cases hkk : wa w k = wa L k
    · rw [if_pos hkk]; exact ⟨u, e2, h2⟩
    · rw [if_neg hkk, e2]
      refine ⟨u - 1, rfl, ?_⟩
      rw [e, e2] at hkk
      have : a ≠ u := fun z => hkk (by rw [z])
      omega
  obtain ⟨k, hk, hkne⟩ := hex
  have hdk := hd k
  cases e : wa L k with
  | none =>
    rw [e] at hdk
    have : wa w k = none := by simpa using hdk
    exact hkne (by rw [this, e])
  | some u =>
    obtain ⟨u', e2, h2⟩ := hL.least L' sol' (hlow.trans le') k u e
    rw [wL' k hk, if_neg hkne, e] at e2
    have e2 : some (u - 1) = some u' := e2
    cases e2
    omega
theorem raise_least {n : Nat} {gs : List Gap} {low L : Wt} (hL : Least n gs low L) : ∀ (k : Nat) (w : Wt), HasT n gs w → Le low w → Le w L → (∀ k, (wa w k).isSome = (wa L k).isSome) → cnt L w n ≤ k → raiseGo gs (k + 1) w = some L := by
  intro k
  induction k with
  | zero =>
    intro w h h1 h2 h3 hc
    have e : w = L := wa_ext (h.1.trans hL.has.1.symm) fun j => by
      by_cases hj : j < n
      · exact cnt_zero n (by omega) j hj
      · have e1 : wa w j = none := by unfold wa; simp [List.getD, List.getElem?_eq_none (by rw [h.1]; omega : w.length ≤ j)]
        have e2 : wa L j = none := by unfold wa; simp [List.getD, List.getElem?_eq_none (by rw [hL.has.1]; omega : L.length ≤ j)]
        rw [e1, e2]
    subst e
    unfold raiseGo
    rw [if_pos (sol_fix h hL.sol)]
  | succ k ih =>
    intro w h h1 h2 h3 hc
    unfold raiseGo
    by_cases e : sweep gs w = w
    · rw [if_pos e]
      have := hL.least w (fix_sol h e) h1
      rw [Le.antisymm (h.1.trans hL.has.1.symm) h2 this]
    · rw [if_neg e]
      have hne : w ≠ L := fun z => by subst z; exact e (sol_fix h hL.sol)
      have hd := cnt_drop hL h h1 h2 h3 hne
      exact ih _ h.sweep (h1.trans (sweep_le h)) (sweep_bd h hL.sol h2) (fun j => (sweep_dom h j).trans (h3 j)) (by omega)
/-- raised gives the least worths -/
theorem raised_ok {n : Nat} {gs : List Gap} {low s : Wt} (h : HasT n gs low) (hs : Sol gs s) (hl : Le low s) : ∃ L, raiseGo gs (n + 1) low = some L ∧ Least n gs low L := by
  obtain ⟨L, hL⟩ := least_ex hs (far s low n) low h hl (Nat.le_refl _)
  exact ⟨L, raise_least hL n low h (Le.refl _) hL.le (fun k => (hL.dom k).symm) (cnt_le _ _ _), hL⟩
end Lw

namespace Lw
open PySem PySem.Spec PyProof.Rows L2 DL
theorem tied_has {n : Nat} {seen : List (Option Nat × List Int)} (hp : ∀ a ∈ seen, a.2.length = n) (ht : ∀ a ∈ seen, ∀ k, a.1 = some k → k < n) : HasT n (tiedS n seen).gaps (tiedS n seen).low := by
  have I := tied_inv hp
  refine ⟨I.ll, fun x hx => ?_⟩
  obtain ⟨⟨t, k⟩, g⟩ := x
  obtain ⟨y, hy, h1, h2, h3, h4⟩ := I.g1 t k g (I.g0 _ hx)
  obtain ⟨m1, m2⟩ := mem_trs.mp hy
  have hl := hp _ m1
  have htn := ht _ m1 t h1
  rw [h1] at m1
  obtain ⟨l, e, _⟩ := I.l2 ⟨some t, y.p, t⟩ (mem_trs.mpr ⟨m1, by simp only at hl; show t < y.p.length; omega⟩) rfl
  refine ⟨htn, by simp only at hl ⊢; omega, ?_⟩
  show (wa (tiedS n seen).low t).isSome = true
  rw [e]; rfl
def badP (a : Option Int × Option Int) : Bool := match a with
  | (some x, some y) => decide (y < x)
  | _ => false
def leastS (n : Nat) (seen : List (Option Nat × List Int)) : Option Wt := match raiseGo (tiedS n seen).gaps (n + 1) (tiedS n seen).low with
  | none => none
  | some w => if (w.zip (tiedS n seen).high).any badP then none else some w
theorem zip_any {w h : Wt} (hn : ∀ k x y, wa w k = some x → wa h k = some y → x ≤ y) : (w.zip h).any badP = false := by
  rw [List.any_eq_false]
  rintro ⟨a, b⟩ hab
  obtain ⟨i, hi⟩ := List.mem_iff_getElem?.mp hab
  rw [List.getElem?_zip_eq_some] at hi
  obtain ⟨h1, h2⟩ := hi
  cases a with
  | none => simp [badP]
  | some x => cases b with
    | none => simp [badP]
    | some y =>
      have := hn i x y (by unfold wa; simp [List.getD, h1]) (by unfold wa; simp [List.getD, h2])
      simp [badP]
      omega
theorem least_ok {n : Nat} {seen : List (Option Nat × List Int)} (hp : ∀ a ∈ seen, a.2.length = n) (ht : ∀ a ∈ seen, ∀ k, a.1 = some k → k < n) {s : Wt} (hs : Sat s seen) : ∃ L, leastS n seen = some L ∧ L.length = n ∧ Sat L seen := by
  have sy := sat_sys hp hs
  have ht' := tied_has hp ht
  obtain ⟨L, e, hL⟩ := raised_ok ht' (fun x hx v hv => sy.gap x hx v hv) sy.low
  have hls : Le L s := hL.least s (fun x hx v hv => sy.gap x hx v hv) sy.low
  have hb : (L.zip (tiedS n seen).high).any badP = false := zip_any fun k x y e1 e2 => by
    obtain ⟨u, e3, h1⟩ := hls k x e1
    have := sy.high k y u e2 e3
    omega
  refine ⟨L, ?_, hL.has.1, sys_sat hp ht (Nat.le_of_eq hL.has.1) ⟨hL.le, fun k h v e1 e2 => ?_, hL.sol⟩⟩
  · unfold leastS
    rw [e]
    simp [hb]
  · obtain ⟨u, e3, h1⟩ := hls k v e2
    have := sy.high k h u e1 e3
    omega
/-! ### lesser, greater -/
def lessO : Option Int → Option Int → Option Int
  | some a, some b => some (min a b)
  | _, _ => none
def greatO : Option Int → Option Int → Option Int
  | some a, some b => some (max a b)
  | none, b => b
  | a, none => a
def lessW (a b : Wt) : Wt := List.zipWith lessO a b
def greatW (a b : Wt) : Wt := List.zipWith greatO a b
theorem wa_less {a b : Wt} (h : a.length = b.length) (k : Nat) : wa (lessW a b) k = lessO (wa a k) (wa b k) := by
  unfold wa lessW
  simp only [List.getD, List.getElem?_zipWith]
  by_cases hk : k < a.length
  · rw [List.getElem?_eq_getElem hk, List.getElem?_eq_getElem (by omega : k < b.length)]; rfl
  · rw [List.getElem?_eq_none (by omega), List.getElem?_eq_none (by omega)]; rfl
theorem wa_great {a b : Wt} (h : a.length = b.length) (k : Nat) : wa (greatW a b) k = greatO (wa a k) (wa b k) := by
  unfold wa greatW
  simp only [List.getD, List.getElem?_zipWith]
  by_cases hk : k < a.length
  · rw [List.getElem?_eq_getElem hk, List.getElem?_eq_getElem (by omega : k < b.length)]; rfl
  · rw [List.getElem?_eq_none (by omega), List.getElem?_eq_none (by omega)]; rfl
theorem CC_less {a b : Wt} {p : List Int} {t : Option Nat} (hl : a.length = b.length) (h : CC a p t) (k : CC b p t) : CC (lessW a b) p t := by
  cases t with
  | none =>
    intro j v e
    rw [wa_less hl] at e
    cases e1 : wa a j with
    | none => rw [e1] at e; cases e
    | some x => cases e2 : wa b j with
      | none => rw [e1, e2] at e; cases e
      | some y =>
        rw [e1, e2] at e
        cases e
        have := h j x e1
        omega
  | some t =>
    obtain ⟨v, h1, h2, h3⟩ := h
    obtain ⟨u, k1, k2, k3⟩ := k
    refine ⟨min v u, by rw [wa_less hl, h1, k1]; rfl, by omega, fun j x e hne => ?_⟩
    rw [wa_less hl] at e
    cases e1 : wa a j with
    | none => rw [e1] at e; cases e
    | some x1 => cases e2 : wa b j with
      | none => rw [e1, e2] at e; cases e
      | some y1 =>
        rw [e1, e2] at e
        cases e
        have a1 := h3 j x1 e1 hne
        have a2 := k3 j y1 e2 hne
        split at a1 <;> simp_all <;> omega
theorem CC_great {a b : Wt} {p : List Int} {t : Option Nat} (hl : a.length = b.length) (h : CC a p t) (k : CC b p t) : CC (greatW a b) p t := by
  cases t with
  | none =>
    intro j v e
    rw [wa_great hl] at e
    cases e1 : wa a j with
    | none => rw [e1] at e; exact k j v e
    | some x => cases e2 : wa b j with
      | none => rw [e1, e2] at e; cases e; exact h j _ e1
      | some y =>
        rw [e1, e2] at e
        cases e
        have := h j x e1
        have := k j y e2
        omega
  | some t =>
    obtain ⟨v, h1, h2, h3⟩ := h
    obtain ⟨u, k1, k2, k3⟩ := k
    refine ⟨max v u, by rw [wa_great hl, h1, k1]; rfl, by omega, fun j x e hne => ?_⟩
    rw [wa_great hl] at e
    have m1 : v ≤ max v u := by omega
    have m2 : u ≤ max v u := by omega
    cases e1 : wa a j with
    | none =>
      rw [e1] at e
      have := k3 j x e hne
      omega
    | some x1 => cases e2 : wa b j with
      | none =>
        rw [e1, e2] at e
        cases e
        have := h3 j _ e1 hne
        omega
      | some y1 =>
        rw [e1, e2] at e
        cases e
        have a1 := h3 j x1 e1 hne
        have a2 := k3 j y1 e2 hne
        have : max x1 y1 = x1 ∨ max x1 y1 = y1 := by omega
        rcases this with e | e <;> rw [e] <;> omega
/-! ### all moved by one number -/
def shW (b : Int) (w : Wt) : Wt := w.map (Option.map (· + b))
def shP (b : Int) (p : List Int) : List Int := p.map (· + b)
def shG (b : Int) (g : Gd) : Gd := (g.1, g.2.1, g.2.2 + b)
def shS (b : Int) (a : Option Nat × List Int) : Option Nat × List Int := (a.1, shP b a.2)
theorem wa_sh (b : Int) (w : Wt) (k : Nat) : wa (shW b w) k = (wa w k).map (· + b) := by
  unfold wa shW
  simp only [List.getD, List.getElem?_map]
  cases w[k]? <;> rfl
theorem pa_sh {b : Int} {p : List Int} {k : Nat} (h : k < p.length) : pa (shP b p) k = pa p k + b := by
  unfold pa shP
  simp [List.getD, h]
theorem CC_sh {b : Int} {w : Wt} {p : List Int} {t : Option Nat} (hl : w.length ≤ p.length) (h : CC w p t) : CC (shW b w) (shP b p) t := by
  cases t with
  | none =>
    intro k v e
    rw [wa_sh] at e
    obtain ⟨u, e1, rfl⟩ := Option.map_eq_some_iff.mp e
    rw [pa_sh (by have := wa_lt e1; omega)]
    have := h k u e1
    omega
  | some t =>
    obtain ⟨v, h1, h2, h3⟩ := h
    have ht : t < p.length := by have := wa_lt h1; omega
    refine ⟨v + b, by rw [wa_sh, h1]; rfl, by rw [pa_sh ht]; omega, fun k u e hne => ?_⟩
    rw [wa_sh] at e
    obtain ⟨u, e1, rfl⟩ := Option.map_eq_some_iff.mp e
    rw [pa_sh (by have := wa_lt e1; omega), pa_sh ht]
    have := h3 k u e1 hne
    omega
theorem taken_sh (b : Int) {w : Wt} {p : List Int} (hl : w.length ≤ p.length) : takenS (shW b w) (shP b p) = takenS w p :=
  taken_iff.mpr (CC_sh hl (taken_CC w p))
theorem moved_sh (b : Int) (gs : List Gd) (p : List Int) (t : Option Nat) (h : gs.length ≤ p.length) : movedS (gs.map (shG b)) (shP b p) t = shP b (movedS gs p t) := by
  unfold movedS
  rw [List.zipIdx_map, List.map_map]
  show _ = ((gs.zipIdx.map _).map _)
  rw [List.map_map]
  apply List.map_congr_left
  rintro ⟨⟨u, d, s⟩, k⟩ hk
  have hk : k < p.length := by have := List.mem_zipIdx hk; omega
  have e : (shP b p).getD k 0 = p.getD k 0 + b := pa_sh hk
  simp only [Function.comp, Prod.map, shG, id]
  rw [e]
  split <;> omega
theorem seen_sh (b : Int) (gs : List Gd) : ∀ (q : List (Option Nat)) (p : List Int), p.length = gs.length → seenGo (gs.map (shG b)) (shP b p) q = (seenGo gs p q).map (shS b)
  | [], p, _ => rfl
  | t :: q, p, h => by
    show (t, shP b p) :: seenGo (gs.map (shG b)) (movedS (gs.map (shG b)) (shP b p) t) q = _
    rw [moved_sh b gs p t (Nat.le_of_eq h.symm), seen_sh b gs q _ (moved_len gs p t)]
    rfl
theorem seenS_sh (b : Int) (gs : List Gd) (row : List (Option Nat)) : seenS (gs.map (shG b)) row = (seenS gs row).map (shS b) := by
  unfold seenS
  have e : (gs.map (shG b)).map (·.2.2) = shP b (gs.map (·.2.2)) := by
    unfold shP
    rw [List.map_map, List.map_map]
    rfl
  rw [e]
  exact seen_sh b gs row _ (by simp)
def shT (b : Int) (s : TS) : TS := ⟨shW b s.low, shW b s.high, s.gaps⟩
theorem shW_set (b : Int) (w : Wt) (k : Nat) (v : Int) : (shW b w).set k (some (v + b)) = shW b (w.set k (some v)) := by
  unfold shW
  rw [List.map_set]; rfl
theorem getD_sh (b : Int) (w : Wt) (k : Nat) : (shW b w).getD k none = (w.getD k none).map (· + b) := wa_sh b w k
theorem lesser_sh (b : Int) (x : Option Int) (y : Int) : lesserS (x.map (· + b)) (y + b) = lesserS x y + b := by
  cases x with
  | none => rfl
  | some i => show min (i + b) (y + b) = min i y + b; omega
theorem greater_sh (b : Int) (x : Option Int) (y : Int) : greaterS (x.map (· + b)) (y + b) = greaterS x y + b := by
  cases x with
  | none => rfl
  | some i => show max (i + b) (y + b) = max i y + b; omega
theorem tdStep_sh (b : Int) (t : Option Nat) (p : List Int) (s : TS) (a : Int × Nat) (ht : ∀ k, t = some k → k < p.length) : tdStep t (shP b p) (shT b s) (a.1 + b, a.2) = shT b (tdStep t p s a) := by
  unfold tdStep
  cases t with
  | none =>
    simp only [shT, getD_sh]
    rw [show a.1 + b - 1 = a.1 - 1 + b by omega, lesser_sh, shW_set]
  | some t =>
    simp only [shT, getD_sh]
    split
    · rw [greater_sh, shW_set]
    · have e : gapN (shP b p) t a.2 (a.1 + b) = gapN p t a.2 a.1 := by
        unfold gapN
        have : (shP b p).getD t 0 = p.getD t 0 + b := pa_sh (ht t rfl)
        rw [this]; omega
      rw [e]
theorem tdDay_sh (b : Int) (s : TS) (a : Option Nat × List Int) (ht : ∀ k, a.1 = some k → k < a.2.length) : tdDay (shT b s) (shS b a) = shT b (tdDay s a) := by
  obtain ⟨t, p⟩ := a
  unfold tdDay
  show (shP b p).zipIdx.foldl (tdStep t (shP b p)) (shT b s) = _
  have e : (shP b p).zipIdx = p.zipIdx.map fun a => (a.1 + b, a.2) := by
    unfold shP
    rw [List.zipIdx_map]; rfl
  rw [e, List.foldl_map]
  show _ = shT b (p.zipIdx.foldl (tdStep t p) s)
  generalize p.zipIdx = l
  induction l generalizing s with
  | nil => rfl
  | cons x l ih => rw [List.foldl_cons, List.foldl_cons, tdStep_sh b t p s x ht, ih]
theorem tied_sh0 (b : Int) : ∀ (seen : List (Option Nat × List Int)) (s : TS), (∀ a ∈ seen, ∀ k, a.1 = some k → k < a.2.length) → (seen.map (shS b)).foldl tdDay (shT b s) = shT b (seen.foldl tdDay s)
  | [], s, _ => rfl
  | x :: l, s, ht => by rw [List.map_cons, List.foldl_cons, List.foldl_cons, tdDay_sh b s x (ht x (by simp)), tied_sh0 b l _ (fun a ha => ht a (by simp [ha]))]
theorem tied_sh (b : Int) (n : Nat) (seen : List (Option Nat × List Int)) (ht : ∀ a ∈ seen, ∀ k, a.1 = some k → k < a.2.length) : tiedS n (seen.map (shS b)) = shT b (tiedS n seen) := by
  unfold tiedS
  rw [← tied_sh0 b seen _ ht]
  have e : shT b (⟨List.replicate n none, List.replicate n none, []⟩ : TS) = ⟨List.replicate n none, List.replicate n none, []⟩ := by
    simp [shT, shW]
  rw [e]
theorem rStep_sh (b : Int) (w : Wt) (x : Gap) : rStep (shW b w) x = shW b (rStep w x) := by
  unfold rStep
  rw [getD_sh, getD_sh]
  cases w.getD x.1.2 none with
  | none => rfl
  | some v => cases w.getD x.1.1 none with
    | none => rfl
    | some u =>
      show (shW b w).set x.1.1 (some (max (u + b) (v + b - x.2))) = shW b (w.set x.1.1 (some (max u (v - x.2))))
      rw [show max (u + b) (v + b - x.2) = max u (v - x.2) + b by omega, shW_set]
theorem sweep_sh (b : Int) (gs : List Gap) (w : Wt) : sweep gs (shW b w) = shW b (sweep gs w) := by
  unfold sweep
  induction gs generalizing w with
  | nil => rfl
  | cons x l ih => rw [List.foldl_cons, List.foldl_cons, rStep_sh, ih]
theorem shW_inj {b : Int} {w w' : Wt} : shW b w = shW b w' ↔ w = w' := by
  refine ⟨fun h => ?_, fun h => by rw [h]⟩
  unfold shW at h
  refine (List.map_inj_right (f := Option.map (· + b)) fun x y e => ?_).mp h
  cases x <;> cases y <;> simp at e ⊢
  omega
theorem raise_sh (b : Int) (gs : List Gap) : ∀ (k : Nat) (w : Wt), raiseGo gs k (shW b w) = (raiseGo gs k w).map (shW b)
  | 0, _ => rfl
  | k + 1, w => by
    unfold raiseGo
    rw [sweep_sh]
    by_cases h : sweep gs w = w
    · rw [if_pos h, if_pos (by rw [h])]; rfl
    · rw [if_neg h, if_neg (fun z => h (shW_inj.mp z)), raise_sh b gs k]
theorem lStep_sh (b : Int) (w : Wt) (x : Gap) : lStep (shW b w) x = shW b (lStep w x) := by
  unfold lStep
  rw [getD_sh, getD_sh]
  cases w.getD x.1.1 none with
  | none => rfl
  | some v =>
    show (shW b w).set x.1.2 (some (lesserS ((w.getD x.1.2 none).map (· + b)) (v + b + x.2))) = shW b (w.set x.1.2 (some (lesserS (w.getD x.1.2 none) (v + x.2))))
    rw [show v + b + x.2 = v + x.2 + b by omega, lesser_sh, shW_set]
theorem low_sh (b : Int) (gs : List Gap) : ∀ (k : Nat) (w : Wt), lowGo gs k (shW b w) = shW b (lowGo gs k w)
  | 0, _ => rfl
  | k + 1, w => by
    unfold lowGo
    have e : sweepL gs (shW b w) = shW b (sweepL gs w) := by
      unfold sweepL
      induction gs generalizing w with
      | nil => rfl
      | cons x l ih => rw [List.foldl_cons, List.foldl_cons, lStep_sh, ih]
    rw [e, low_sh b gs k]
theorem any_sh (b : Int) : ∀ (w h : Wt), ((shW b w).zip (shW b h)).any badP = (w.zip h).any badP
  | [], h => by simp [shW]
  | x :: w, [] => by simp [shW]
  | x :: w, y :: h => by
    show (badP (x.map (· + b), y.map (· + b)) || ((shW b w).zip (shW b h)).any badP) = (badP (x, y) || (w.zip h).any badP)
    rw [any_sh b w h]
    congr 1
    cases x <;> cases y <;> simp [badP]
theorem least_sh (b : Int) (n : Nat) (seen : List (Option Nat × List Int)) (ht : ∀ a ∈ seen, ∀ k, a.1 = some k → k < a.2.length) : leastS n (seen.map (shS b)) = (leastS n seen).map (shW b) := by
  unfold leastS
  rw [tied_sh b n seen ht]
  show (match raiseGo (tiedS n seen).gaps (n + 1) (shW b (tiedS n seen).low) with | none => none | some w => if (w.zip (shW b (tiedS n seen).high)).any badP then none else some w) = _
  rw [raise_sh]
  cases raiseGo (tiedS n seen).gaps (n + 1) (tiedS n seen).low with
  | none => rfl
  | some w =>
    show (if ((shW b w).zip (shW b (tiedS n seen).high)).any badP then none else some (shW b w)) = Option.map (shW b) (if (w.zip (tiedS n seen).high).any badP then none else some w)
    rw [any_sh]
    cases (w.zip (tiedS n seen).high).any badP <;> rfl
end Lw

namespace Lw
open PySem PySem.Spec PyProof.Rows L2 DL
/-! ### least_of -/
theorem f_least {n : Nat} {seen : List (Option Nat × List Int)} (h : okSeen n seen) (m : List MO) : F_least_of [.int (n : Nat), .lst (seen.map seD)] m = .ok (oW (leastS n seen)) (encT m (tiedS n seen)) := by
  have ft := f_tied h m
  have hH := tied_has h.p h.t
  have I := tied_inv h.p
  have hgl : (tiedS n seen).gaps.length ≤ sizeLine := by
    have := (tied_lens seen n ⟨List.replicate n none, List.replicate n none, []⟩ h.p).2.2
    have h1 := h.len
    have h2 : n * seen.length ≤ 4 * 300 := Nat.mul_le_mul h.n4 h1
    rw [sizeLine_eq]
    show (seen.foldl tdDay _).gaps.length ≤ _
    simp at this
    omega
  have g0 : (encT m (tiedS n seen))[m.length]? = some (.lst ((tiedS n seen).low.map oD)) := by simp [encT]
  have g1 : (encT m (tiedS n seen))[m.length + 1]? = some (.lst ((tiedS n seen).high.map oD)) := by simp [encT]
  have g2 : (encT m (tiedS n seen))[m.length + 2]? = some (.dT ((tiedS n seen).gaps.map gapE)) := by simp [encT]
  have fr := f_raised (a := m.length) hH h.n4 g0 g2 hgl
  unfold leastS
  generalize tiedS n seen = T at *
  cases hr : raiseGo T.gaps (n + 1) T.low with
  | none =>
    rw [hr] at fr
    simp -implicitDefEqProofs [F_least_of, B_least_of, ft, fr, oW]
  | some w =>
    rw [hr] at fr
    simp only [oW, wD] at fr
    rcases for_ret (r := ⟨(w.zip T.high).map fun a => D.tup [oD a.1, oD a.2], [m.length + 1], [T.high.map oD]⟩) (u := U_least_of_1) (body := L_least_of_1) (fun a : Option Int × Option Int => D.tup [oD a.1, oD a.2])
      (fun q s => q.any badP = false ∧ ∃ x y, s = ⟨[.val (.int (n : Nat)), .val (.lst (seen.map seD)), .val (.ref m.length), .val (.ref (m.length + 1)), .val (.ref (m.length + 2)), .val (wD w), x, y], encT m T, m.length⟩)
      (fun d s => d = .non ∧ s.mem = encT m T ∧ (w.zip T.high).any badP = true) (fun _ s h => by obtain ⟨_, _, _, rfl⟩ := h; rw [ok_one]; exact g1) (w.zip T.high) []
      ⟨[.val (.int (n : Nat)), .val (.lst (seen.map seD)), .val (.ref m.length), .val (.ref (m.length + 1)), .val (.ref (m.length + 2)), .val (wD w), .no, .no], encT m T, m.length⟩ (by
        rintro q ⟨a, b⟩ q' s hq ⟨ha, x, y, rfl⟩
        cases a with
        | none =>
          left
          refine ⟨⟨[.val (.int (n : Nat)), .val (.lst (seen.map seD)), .val (.ref m.length), .val (.ref (m.length + 1)), .val (.ref (m.length + 2)), .val (wD w), .val (oD none), .val (oD b)], encT m T, m.length⟩, ?_, ?_, _, _, rfl⟩
          · simp -implicitDefEqProofs [turnB, U_least_of_1, L_least_of_1]
          · rw [List.any_append, ha]; simp [badP]
        | some a =>
          cases b with
          | none =>
            left
            refine ⟨⟨[.val (.int (n : Nat)), .val (.lst (seen.map seD)), .val (.ref m.length), .val (.ref (m.length + 1)), .val (.ref (m.length + 2)), .val (wD w), .val (oD (some a)), .val (oD none)], encT m T, m.length⟩, ?_, ?_, _, _, rfl⟩
            · simp -implicitDefEqProofs [turnB, U_least_of_1, L_least_of_1]
            · rw [List.any_append, ha]; simp [badP]
          | some b =>
            by_cases hb : b < a
            · right
              refine ⟨.non, ⟨[.val (.int (n : Nat)), .val (.lst (seen.map seD)), .val (.ref m.length), .val (.ref (m.length + 1)), .val (.ref (m.length + 2)), .val (wD w), .val (oD (some a)), .val (oD (some b))], encT m T, m.length⟩, ?_, rfl, rfl, ?_⟩
              · simp -implicitDefEqProofs [turnB, U_least_of_1, L_least_of_1, hb]
              · rw [show w.zip T.high = q ++ (some a, some b) :: q' by simpa using hq, List.any_append, List.any_cons]
                simp [badP, hb]
            · left
              refine ⟨⟨[.val (.int (n : Nat)), .val (.lst (seen.map seD)), .val (.ref m.length), .val (.ref (m.length + 1)), .val (.ref (m.length + 2)), .val (wD w), .val (oD (some a)), .val (oD (some b))], encT m T, m.length⟩, ?_, ?_, _, _, rfl⟩
              · simp -implicitDefEqProofs [turnB, U_least_of_1, L_least_of_1, hb]
              · rw [List.any_append, ha]; simp [badP, hb]) ⟨by simp, _, _, rfl⟩ with ⟨s', e, ha, x, y, rfl⟩ | ⟨d, s', e, rfl, hm, hz⟩
    · simp only [List.nil_append] at ha
      simp only [wD] at e
      simp -implicitDefEqProofs [F_least_of, B_least_of, ft, fr, oW, g1, zipItems_map]
      rw [e]
      rw [ha]
      simp
    · simp only [wD] at e
      simp -implicitDefEqProofs [F_least_of, B_least_of, ft, fr, oW, g1, zipItems_map]
      rw [e]
      rw [hz]
      simp [hm]
end Lw

namespace Lw
open PySem PySem.Spec PyProof.Rows L2 DL
/-! ### the days of one place of the round -/
def daysS (b R L : Nat) : List Nat := (List.range (rngN (b : Int) (R : Int) (L : Int))).map fun i => b + i * L
theorem rngN_eq {b R L : Nat} (hL : 0 < L) : rngN (b : Int) (R : Int) (L : Int) = if b < R then (R - b - 1) / L + 1 else 0 := by
  unfold rngN Builtin.Range.rangeSize
  rw [if_pos (by omega : (L : Int) > 0)]
  by_cases h : b < R
  · rw [if_pos (by omega), if_pos h]
    have e : ((R : Int) - (b : Int) - 1) = ((R - b - 1 : Nat) : Int) := by omega
    rw [e, ← Int.natCast_ediv]
    generalize (R - b - 1) / L = q
    omega
  · rw [if_neg (by omega), if_neg h]; rfl
theorem days_lt {b R L d : Nat} (hL : 0 < L) (h : d ∈ daysS b R L) : d < R ∧ d % L = b % L := by
  unfold daysS at h
  obtain ⟨i, hi, rfl⟩ := List.mem_map.mp h
  rw [List.mem_range, rngN_eq hL] at hi
  split at hi
  · have h1 : i ≤ (R - b - 1) / L := by omega
    have h2 : i * L ≤ R - b - 1 := (Nat.le_div_iff_mul_le hL).mp h1
    exact ⟨by omega, by simp⟩
  · omega
theorem days_all {R L d : Nat} (hL : 0 < L) (h : d < R) : d ∈ daysS (d % L) R L := by
  unfold daysS
  refine List.mem_map.mpr ⟨d / L, ?_, ?_⟩
  · rw [List.mem_range, rngN_eq hL]
    have h0 := Nat.div_add_mod d L
    have h3 : d / L * L = L * (d / L) := Nat.mul_comm _ _
    rw [if_pos (by omega)]
    have : d / L ≤ (R - d % L - 1) / L := (Nat.le_div_iff_mul_le hL).mpr (by omega)
    omega
  · have h0 := Nat.div_add_mod d L
    have h3 : d / L * L = L * (d / L) := Nat.mul_comm _ _
    omega
theorem days_len {b R L : Nat} (hL : 0 < L) : (daysS b R L).length ≤ R := by
  unfold daysS
  rw [List.length_map, List.length_range, rngN_eq hL]
  split
  · have := Nat.div_le_self (R - b - 1) L
    omega
  · omega
theorem rng_days (b R L : Nat) : rngItems (b : Int) (L : Int) (rngN (b : Int) (R : Int) (L : Int)) = (daysS b R L).map fun d => D.int (d : Nat) := by
  unfold rngItems daysS
  rw [List.map_map]
  apply List.map_congr_left
  intro i _
  simp
theorem small_nat {b R L : Nat} (hb : b ≤ 6) (hR : R ≤ 300) (hL : 0 < L) (hL6 : L ≤ 6) : Builtin.Range.small (b : Int) (R : Int) (L : Int) = true := by
  have e : Builtin.Range.rangeSize (b : Int) (R : Int) (L : Int) = (rngN (b : Int) (R : Int) (L : Int) : Int) := PyProof.Rows.rangeSize_toNat _ _ _
  have h1 := rngN_eq (b := b) (R := R) hL
  have h2 := Nat.div_le_self (R - b - 1) L
  unfold Builtin.Range.small
  rw [e]
  simp only [Builtin.Range.rangeFitsLong, Bool.and_eq_true, Bool.or_eq_true, decide_eq_true_eq, beq_iff_eq]
  have h3 : rngN (b : Int) (R : Int) (L : Int) ≤ R := by rw [h1]; split <;> omega
  generalize rngN (b : Int) (R : Int) (L : Int) = q at h3 ⊢
  refine ⟨⟨⟨⟨⟨by omega, by omega⟩, by omega, by omega⟩, by omega, by omega⟩, by omega, by omega⟩, .inr ?_⟩
  rw [if_pos (by omega)]
  simp only [Bool.and_eq_true, decide_eq_true_eq]
  exact ⟨by omega, by omega⟩
theorem ev_listRg3 {b R L : Nat} (hb : b ≤ 6) (hR : R ≤ 300) (hL : 0 < L) (hL6 : L ≤ 6) (s : DL.S) : listRg3 [.d (.int (b : Nat)), .d (.int (R : Nat)), .d (.int (L : Nat))] s = .ok (.lst ((daysS b R L).map fun d => D.int (d : Nat))) s := by
  unfold listRg3
  simp only
  have h1 : rngN (b : Int) (R : Int) (L : Int) ≤ 16777216 := by
    have := days_len (b := b) (R := R) hL
    unfold daysS at this
    rw [List.length_map, List.length_range] at this
    omega
  rw [if_pos ⟨by omega, by omega, small_nat hb hR hL hL6, h1⟩, rng_days]
/-! ### worths_let -/
def someS (seen : List (Option Nat × List Int)) (b L : Nat) : List (Option Nat × List Int) := (daysS b seen.length L).map fun d => seen.getD d (none, [])
theorem some_mem {seen : List (Option Nat × List Int)} {b L : Nat} (hL : 0 < L) {a : Option Nat × List Int} (h : a ∈ someS seen b L) : a ∈ seen := by
  unfold someS at h
  obtain ⟨d, hd, rfl⟩ := List.mem_map.mp h
  have := (days_lt hL hd).1
  simp [List.getD, this]
theorem some_ok {n : Nat} {seen : List (Option Nat × List Int)} {b L : Nat} (hL : 0 < L) (h : okSeen n seen) : okSeen n (someS seen b L) :=
  ⟨by unfold someS; rw [List.length_map]; exact Nat.le_trans (days_len hL) h.len, h.n4, fun a ha => h.p a (some_mem hL ha), fun a ha => h.t a (some_mem hL ha)⟩
def pairD (a : Wt × Wt) : D := .tup [wD a.1, wD a.2]
/-- what is told for one day of the round -/
def dayS (n : Nat) (seen : List (Option Nat × List Int)) (L b : Nat) : Option (Wt × Wt) := (leastS n (someS seen b L)).map fun w => (w, lowGo (tiedS n (someS seen b L)).gaps n (tiedS n (someS seen b L)).high)
theorem seen_okSeen {gs : List Gd} {row : List (Option Nat)} (h : okRow gs.length row) (h4 : gs.length ≤ 4) : okSeen gs.length (seenS gs row) := by
  refine ⟨by rw [seenS, seen_len]; exact h.2.1, h4, fun a ha => seen_lens gs row _ (by simp) a ha, ?_⟩
  have : ∀ (q : List (Option Nat)) (p : List Int), (∀ k, some k ∈ q → k < gs.length) → ∀ a ∈ seenGo gs p q, ∀ k, a.1 = some k → k < gs.length := by
    intro q
    induction q with
    | nil => intro p _ a ha; cases ha
    | cons t q ih =>
      intro p hq a ha k e
      rcases List.mem_cons.mp ha with rfl | ha
      · exact hq k (by rw [← e]; simp)
      · exact ih _ (fun k hk => hq k (by simp [hk])) a ha k e
  exact this row _ h.2.2
theorem f_worths {gs : List Gd} {L : Nat} {row : List (Option Nat)} (h : Ok gs L row) (res : List (Wt × Wt)) (hres : ∀ b, b < L → ∃ r, dayS gs.length (seenS gs row) L b = some r ∧ res[b]? = some r) (hl : res.length = L) (m : List MO) :
    ∃ j, F_worths_let [gsD gs, .int (L : Nat), rowD row] m = .ok (.lst (res.map pairD)) (m ++ j) := by
  have hs := seen_okSeen h.r h.g4
  have hsl : (seenS gs row).length = row.length := by rw [seenS, seen_len]
  have fn := f_need h m
  have fd := f_days gs row h.r.2.1 m
  have hL := h.l1
  have hL6 := h.l6
  have e0 : rng1 [.d (.int (L : Int))] = fun s => .ok ⟨(List.range L).map fun i => D.int (i : Nat), [], []⟩ s := by
    funext s
    exact rng1_nat (n := L) (by omega) s
  obtain ⟨s', e, j, x5, x6, x7, x8, x9, x10, x11, x12, rfl⟩ := for_all (r := ⟨(List.range L).map fun i => D.int (i : Nat), [], []⟩) (u := U_worths_let_1) (body := L_worths_let_1) (fun i : Nat => D.int (i : Nat))
    (fun q s => ∃ j x5 x6 x7 x8 x9 x10 x11 x12, s = ⟨[.val (gsD gs), .val (.int (L : Nat)), .val (rowD row), .val (.lst ((seenS gs row).map seD)), .own (.lst ((res.take q.length).map pairD)), x5, x6, x7, x8, x9, x10, x11, x12], m ++ j, m.length⟩) (List.range L) (fun _ _ _ => ok_nil _ _)
    (s := ⟨[.val (gsD gs), .val (.int (L : Nat)), .val (rowD row), .val (.lst ((seenS gs row).map seD)), .own (.lst []), .no, .no, .no, .no, .no, .no, .no, .no], m, m.length⟩) (by
      rintro q b q' s hq ⟨j, x5, x6, x7, x8, x9, x10, x11, x12, rfl⟩
      have hqb : q.length = b ∧ b < L := by
        have h1 : (List.range L)[q.length]? = some b := by rw [hq]; simp
        rw [List.getElem?_range] at h1
        · simp at h1; refine ⟨h1, ?_⟩
          have := congrArg List.length hq
          simp at this
          omega
        · have := congrArg List.length hq
          simp at this
          omega
      obtain ⟨hqb, hbL⟩ := hqb
      obtain ⟨r, hr, hrb⟩ := hres b hbL
      unfold dayS at hr
      have hso := some_ok (b := b) hL hs
      obtain ⟨w, hw, rfl⟩ := Option.map_eq_some_iff.mp hr
      have e1 := ev_listRg3 (b := b) (R := row.length) (L := L) (by omega) h.r.2.1 hL hL6
      have e2 : compGo ⟨(daysS b row.length L).map fun d => D.int (d : Nat), [], []⟩ (wipeE (([.val (gsD gs), .val (.int (L : Nat)), .val (rowD row), .val (.lst ((seenS gs row).map seD)), .no, .val (.int (b : Nat)), .val (.lst ((daysS b row.length L).map fun d => D.int (d : Nat))), x7.pub, x8.pub, x9.pub, x10.pub, x11.pub, x12.pub] : List DL.Slot)) [12]) U_worths_let_2 tAll E_worths_let_2 ((daysS b row.length L).map fun d => D.int (d : Nat)) [] (m ++ j) = .ok ((someS (seenS gs row) b L).map seD) (blkS (wipeE (([.val (gsD gs), .val (.int (L : Nat)), .val (rowD row), .val (.lst ((seenS gs row).map seD)), .no, .val (.int (b : Nat)), .val (.lst ((daysS b row.length L).map fun d => D.int (d : Nat))), x7.pub, x8.pub, x9.pub, x10.pub, x11.pub, x12.pub] : List DL.Slot)) [12]) (m ++ j)) := by
        rw [comp_map (fun d : Nat => D.int (d : Nat)) (fun d => seD ((seenS gs row).getD d (none, []))) (by simp)]
        · unfold someS
          rw [List.map_map, hsl]; rfl
        · intro d hd
          have := (days_lt hL hd).1
          have hd' : d < (seenS gs row).length := by rw [hsl]; exact this
          simp -implicitDefEqProofs [elemB, U_worths_let_2, E_worths_let_2, atI_nat', hd']
      have fl := f_least hso (m ++ j)
      rw [hw] at fl
      have ft := f_tied hso (encT (m ++ j) (tiedS gs.length (someS (seenS gs row) b L)))
      have hm2 : encT (encT (m ++ j) (tiedS gs.length (someS (seenS gs row) b L))) (tiedS gs.length (someS (seenS gs row) b L)) = encT (m ++ j) (tiedS gs.length (someS (seenS gs row) b L)) ++ [.lst ((tiedS gs.length (someS (seenS gs row) b L)).low.map oD), .lst ((tiedS gs.length (someS (seenS gs row) b L)).high.map oD), .dT ((tiedS gs.length (someS (seenS gs row) b L)).gaps.map gapE)] := rfl
      have hgl : (tiedS gs.length (someS (seenS gs row) b L)).gaps.length ≤ sizeLine := by
        have := (tied_lens (someS (seenS gs row) b L) gs.length ⟨List.replicate gs.length none, List.replicate gs.length none, []⟩ hso.p).2.2
        have h1 := hso.len
        have h2 : gs.length * (someS (seenS gs row) b L).length ≤ 4 * 300 := Nat.mul_le_mul hso.n4 h1
        rw [sizeLine_eq]
        show ((someS (seenS gs row) b L).foldl tdDay _).gaps.length ≤ _
        simp at this
        omega
      have I := tied_inv hso.p
      have hH := tied_has hso.p hso.t
      have fw := f_lowered (n := gs.length) (a := (encT (m ++ j) (tiedS gs.length (someS (seenS gs row) b L))).length + 1) (b := (encT (m ++ j) (tiedS gs.length (someS (seenS gs row) b L))).length + 2) (gs := (tiedS gs.length (someS (seenS gs row) b L)).gaps) (high := (tiedS gs.length (someS (seenS gs row) b L)).high) (m := encT (encT (m ++ j) (tiedS gs.length (someS (seenS gs row) b L))) (tiedS gs.length (someS (seenS gs row) b L)))
        ⟨I.hl, fun x hx => ⟨(hH.2 x hx).1, (hH.2 x hx).2.1⟩⟩ hso.n4 (by rw [hm2, get_app]; rfl) (by rw [hm2, get_app]; rfl) hgl
      have et : res.take (q ++ [b]).length = res.take q.length ++ [(w, lowGo (tiedS gs.length (someS (seenS gs row) b L)).gaps gs.length (tiedS gs.length (someS (seenS gs row) b L)).high)] := by
        have h1 : res[q.length]? = some (w, lowGo (tiedS gs.length (someS (seenS gs row) b L)).gaps gs.length (tiedS gs.length (someS (seenS gs row) b L)).high) := by rw [hqb]; exact hrb
        rw [List.length_append, List.length_singleton, List.take_add_one, h1]; rfl
      have hz : (res.take q.length).length < sizeLine := by
        rw [List.length_take, sizeLine_eq]; omega
      have hmem : encT (encT (m ++ j) (tiedS gs.length (someS (seenS gs row) b L))) (tiedS gs.length (someS (seenS gs row) b L)) = m ++ (j ++ [.lst ((tiedS gs.length (someS (seenS gs row) b L)).low.map oD), .lst ((tiedS gs.length (someS (seenS gs row) b L)).high.map oD), .dT ((tiedS gs.length (someS (seenS gs row) b L)).gaps.map gapE), .lst ((tiedS gs.length (someS (seenS gs row) b L)).low.map oD), .lst ((tiedS gs.length (someS (seenS gs row) b L)).high.map oD), .dT ((tiedS gs.length (someS (seenS gs row) b L)).gaps.map gapE)]) := by simp [encT]
      refine ⟨⟨[.val (gsD gs), .val (.int (L : Nat)), .val (rowD row), .val (.lst ((seenS gs row).map seD)), .own (.lst ((res.take (q ++ [b]).length).map pairD)), .val (.int (b : Nat)), .val (.lst ((daysS b row.length L).map fun d => D.int (d : Nat))), .val (.lst ((someS (seenS gs row) b L).map seD)), .val (wD w), .val (.ref (encT (m ++ j) (tiedS gs.length (someS (seenS gs row) b L))).length), .val (.ref ((encT (m ++ j) (tiedS gs.length (someS (seenS gs row) b L))).length + 1)), .val (.ref ((encT (m ++ j) (tiedS gs.length (someS (seenS gs row) b L))).length + 2)), x12],
        m ++ (j ++ [.lst ((tiedS gs.length (someS (seenS gs row) b L)).low.map oD), .lst ((tiedS gs.length (someS (seenS gs row) b L)).high.map oD), .dT ((tiedS gs.length (someS (seenS gs row) b L)).gaps.map gapE), .lst ((tiedS gs.length (someS (seenS gs row) b L)).low.map oD), .lst ((tiedS gs.length (someS (seenS gs row) b L)).high.map oD), .dT ((tiedS gs.length (someS (seenS gs row) b L)).gaps.map gapE)]), m.length⟩, ?_, _, _, _, _, _, _, _, _, _, rfl⟩
      rw [← hmem, et]
      simp only [oW, wD] at fl
      simp only [wD] at fw
      clear hmem hm2 et hr hrb
      generalize encT (encT (m ++ j) (tiedS gs.length (someS (seenS gs row) b L))) (tiedS gs.length (someS (seenS gs row) b L)) = M2 at *
      generalize encT (m ++ j) (tiedS gs.length (someS (seenS gs row) b L)) = M1 at *
      generalize lowGo (tiedS gs.length (someS (seenS gs row) b L)).gaps gs.length (tiedS gs.length (someS (seenS gs row) b L)).high = lw at *
      simp -implicitDefEqProofs at e2
      rw [List.length_take] at hz
      simp -implicitDefEqProofs [turnB, U_worths_let_1, L_worths_let_1, e1, e2, fl, ft, fw, hz, pairD]) ⟨[], .no, .no, .no, .no, .no, .no, .no, .no, by simp⟩
  refine ⟨j, ?_⟩
  simp only [gsD, rowD] at fn fd
  simp -implicitDefEqProofs [F_worths_let, B_worths_let, fn, fd, e0]
  simp only [gsD, rowD] at e
  rw [e]
  simp [← hl]
end Lw

namespace Lw
open PySem PySem.Spec PyProof.Rows L2 DL
/-! ### the deck -/
structure Pool (B : Nat) (m : MO) : Prop where
  ex : ∃ a f c : Int, m = .lst [.int a, .int f, .int c] ∧ 0 ≤ c ∧ c ≤ B
def refs (N : Nat) : List D := (List.range N).map fun i => .ref i
structure IsDeck (N B : Nat) (dk : List MO) : Prop where
  len : dk.length = N + 1
  n1 : 1 ≤ N
  pool : ∀ i, i < N → ∃ m, dk[i]? = some m ∧ Pool B m
  top : ∃ idx : Nat, dk[N]? = some (.lst [.lst (refs N), .int (idx : Nat)])
theorem IsDeck.mono {N B B' : Nat} {dk : List MO} (h : IsDeck N B dk) (hb : B ≤ B') : IsDeck N B' dk :=
  ⟨h.len, h.n1, fun i hi => by obtain ⟨m, e, a, f, c, e2, h1, h2⟩ := h.pool i hi; exact ⟨m, e, a, f, c, e2, h1, by omega⟩, h.top⟩
theorem log_lt {i : Int} {k : Nat} (h0 : 0 ≤ i) (h : i < 2 ^ k) (hk : 0 < k) : i.natAbs.log2 < k := by
  have h1 : i.natAbs < 2 ^ k := by
    have e : ((i.natAbs : Nat) : Int) = i := by omega
    have : ((i.natAbs : Nat) : Int) < ((2 ^ k : Nat) : Int) := by rw [e]; simpa using h
    omega
  by_cases hz : i.natAbs = 0
  · rw [hz]; simp [Nat.log2]; exact hk
  · exact (Nat.log2_lt hz).mpr h1
theorem pow_ok {i : Int} {s : DL.S} (h0 : 0 ≤ i) (h : i < 2 ^ 250) : powH (.d (.int i)) (.d (.int 3)) s = .ok (.int (i ^ 3)) s := by
  have := log_lt h0 h (by decide)
  show R.of (if 0 ≤ (3 : Int) ∧ (3 : Int) ≤ 64 ∧ i.natAbs.log2 < 1000 then some (D.int (i ^ (3 : Int).toNat)) else none) s = _
  rw [if_pos ⟨by decide, by decide, by omega⟩]
  rfl
theorem mul_ok {i j : Int} {s : DL.S} (h0 : 0 ≤ i) (h : i < 2 ^ 250) (k0 : 0 ≤ j) (k : j < 2 ^ 250) : mulH (.d (.int i)) (.d (.int j)) s = .ok (.int (i * j)) s := by
  have := log_lt h0 h (by decide)
  have := log_lt k0 k (by decide)
  rw [ev_mulI, if_pos (by omega)]
theorem mod_ok {i j : Int} {s : DL.S} (h : 0 < j) : modH (.d (.int i)) (.d (.int j)) s = .ok (.int (i % j)) s := by
  show R.of (if 0 < j then some (D.int (i % j)) else none) s = _
  rw [if_pos h]; rfl
theorem fdiv_ok {i j : Int} {s : DL.S} (h : 0 < j) (k : j < 2 ^ 250) : fdivH (.d (.int i)) (.d (.int j)) s = .ok (.int (i / j)) s := by
  have := log_lt (Int.le_of_lt h) k (by decide)
  show R.of (if 0 < j ∧ j.natAbs.log2 < 9000 then some (D.int (i / j)) else none) s = _
  rw [if_pos ⟨h, by omega⟩]; rfl
theorem pool_upd {N B : Nat} {dk : List MO} (h : IsDeck N B dk) {i idx : Nat} (hi : i < N) {m : MO} {B' : Nat} (hB : B ≤ B') (hm : Pool B' m) : IsDeck N B' ((dk.set N (.lst [.lst (refs N), .int (idx : Nat)])).set i m) := by
  have hl := h.len
  refine ⟨by simp [hl], h.n1, fun k hk => ?_, ⟨idx, ?_⟩⟩
  · by_cases e : i = k
    · subst e
      exact ⟨m, by rw [List.getElem?_set_self (by simp [hl]; omega)], hm⟩
    · obtain ⟨m', e1, e2⟩ := (h.mono hB).pool k hk
      exact ⟨m', by rw [List.getElem?_set_ne e, List.getElem?_set_ne (by omega)]; exact e1, e2⟩
  · rw [List.getElem?_set_ne (by omega), List.getElem?_set_self (by omega)]
theorem f_draw {N B : Nat} {dk : List MO} (h : IsDeck N B dk) {many : Int} (h1 : 1 ≤ many) (h2 : many ≤ 1000000) (hB : B + 1 ≤ 2 ^ 200) :
    ∃ (r : Int) (dk' : List MO), IsDeck N (B + 1) dk' ∧ 0 ≤ r ∧ r < many ∧ ∀ rest, F__law_draw [.ref N, .int many] (dk ++ rest) = .ok (.int r) (dk' ++ rest) := by
  obtain ⟨idx, ht⟩ := h.top
  have hN := h.n1
  have hl := h.len
  have hi : idx % N < N := Nat.mod_lt _ (by omega)
  obtain ⟨m, hp, a, f, c, rfl, c1, c2⟩ := h.pool _ hi
  have hB' : ((B : Int) + 1) ≤ 2 ^ 200 := by have := Int.ofNat_le.mpr hB; simpa using this
  have q1 : (0 : Int) < 162259276829213363391578010288127 := by decide
  have q2 : (0 : Int) < 618970019642690137449562111 := by decide
  have q3 : (0 : Int) < 1048576 := by decide
  have big : (2 : Int) ^ 200 * 15485863 < 2 ^ 249 := by decide
  have big2 : (162259276829213363391578010288127 : Int) < 2 ^ 249 := by decide
  have big3 : (2 : Int) ^ 249 + 2 ^ 249 = 2 ^ 250 := by decide
  have big4 : (2 : Int) ^ 200 < 2 ^ 250 := by decide
  have big5 : (15485863 : Int) < 2 ^ 250 := by decide
  have big6 : (1299709 : Int) < 2 ^ 250 := by decide
  have big7 : (618970019642690137449562111 : Int) < 2 ^ 249 := by decide
  have big8 : (1048576 : Int) < 2 ^ 250 := by decide
  have big9 : (1000000 : Int) < 2 ^ 250 := by decide
  have m1 := Int.emod_nonneg a (show (162259276829213363391578010288127 : Int) ≠ 0 by decide)
  have m2 := Int.emod_lt_of_pos a q1
  have x1a : 0 ≤ a % 162259276829213363391578010288127 + 1299709 * (c + 1) := by omega
  have x1b : a % 162259276829213363391578010288127 + 1299709 * (c + 1) < 2 ^ 250 := by omega
  have n1 := Int.emod_nonneg ((a % 162259276829213363391578010288127 + 1299709 * (c + 1)) ^ 3) (show (618970019642690137449562111 : Int) ≠ 0 by decide)
  have n2 := Int.emod_lt_of_pos ((a % 162259276829213363391578010288127 + 1299709 * (c + 1)) ^ 3) q2
  generalize hX1 : a % 162259276829213363391578010288127 + 1299709 * (c + 1) = X1 at *
  generalize hX2 : X1 ^ 3 % 618970019642690137449562111 = X2 at *
  have x2a : 0 ≤ X2 + 15485863 * (c + 1) := by omega
  have x2b : X2 + 15485863 * (c + 1) < 2 ^ 250 := by omega
  generalize hX3 : X2 + 15485863 * (c + 1) = X3 at *
  have e1 : ∀ s : DL.S, mulH (.d (.int 1299709)) (.d (.int (c + 1))) s = .ok (.int (1299709 * (c + 1))) s := fun s => mul_ok (by decide) big6 (by omega) (by omega)
  have e2 : ∀ s : DL.S, mulH (.d (.int 15485863)) (.d (.int (c + 1))) s = .ok (.int (15485863 * (c + 1))) s := fun s => mul_ok (by decide) big5 (by omega) (by omega)
  have e3 : ∀ s : DL.S, powH (.d (.int X1)) (.d (.int 3)) s = .ok (.int (X1 ^ 3)) s := fun s => pow_ok x1a x1b
  have e4 : ∀ s : DL.S, powH (.d (.int X3)) (.d (.int 3)) s = .ok (.int (X3 ^ 3)) s := fun s => pow_ok x2a x2b
  have e5 : ∀ (i : Int) (s : DL.S), modH (.d (.int i)) (.d (.int 162259276829213363391578010288127)) s = .ok (.int (i % 162259276829213363391578010288127)) s := fun i s => mod_ok q1
  have e6 : ∀ (i : Int) (s : DL.S), modH (.d (.int i)) (.d (.int 618970019642690137449562111)) s = .ok (.int (i % 618970019642690137449562111)) s := fun i s => mod_ok q2
  have e7 : ∀ (i : Int) (s : DL.S), modH (.d (.int i)) (.d (.int many)) s = .ok (.int (i % many)) s := fun i s => mod_ok (by omega)
  have e8 : ∀ (i : Int) (s : DL.S), fdivH (.d (.int i)) (.d (.int 1048576)) s = .ok (.int (i / 1048576)) s := fun i s => fdiv_ok q3 big8
  have e9 : ∀ (i : Int) (s : DL.S), fdivH (.d (.int i)) (.d (.int many)) s = .ok (.int (i / many)) s := fun i s => fdiv_ok (by omega) (by omega)
  have e10 : ∀ (i j : Int) (s : DL.S), gtH (.d (.int i)) (.d (.int j)) s = .ok (.bl (decide (j < i))) s := fun i j s => rfl
  have e11 : ∀ s : DL.S, modH (.d (.int (idx : Int))) (.d (.int (N : Int))) s = .ok (.int ((idx : Int) % (N : Int))) s := fun s => mod_ok (by omega)
  have hpos : 0 < many := by omega
  have g0 : ∀ rest : List MO, (dk ++ rest)[N]? = some (.lst [.lst (refs N), .int (idx : Nat)]) := fun rest => by rw [List.getElem?_append_left (by omega)]; exact ht
  have g1 : ∀ rest : List MO, (dk ++ rest)[idx % N]? = some (.lst [.int a, .int f, .int c]) := fun rest => by rw [List.getElem?_append_left (by omega)]; exact hp
  have g2 : (refs N)[idx % N]? = some (.ref (idx % N)) := by unfold refs; simp [hi]
  have g3 : (refs N).length = N := by simp [refs]
  have ne : ¬ N = idx % N := by omega
  have ns : ∀ (rest : List MO) (x y : MO), ((dk ++ rest).set N x).set (idx % N) y = ((dk.set N x).set (idx % N) y) ++ rest := fun rest x y => by
    rw [List.set_append_left _ _ (by omega), List.set_append_left _ _ (by simp; omega)]
  have k1 : ∀ (rest : List MO) (x : MO), ((dk ++ rest).set N x)[idx % N]? = some (.lst [.int a, .int f, .int c]) := fun rest x => by
    rw [List.getElem?_set_ne ne]; exact g1 rest
  have k2 : ∀ (rest : List MO) (x y : MO), (((dk ++ rest).set N x).set (idx % N) y)[idx % N]? = some y := fun rest x y => by
    rw [List.getElem?_set_self (by rw [List.length_set, List.length_append]; omega)]
  have ci : ((idx : Int) + 1) = ((idx + 1 : Nat) : Int) := by omega
  have i21 : ixN 2 1 = some 1 := rfl
  have i30 : ixN 3 0 = some 0 := rfl
  have i32 : ixN 3 2 = some 2 := rfl
  by_cases hc : f = 1 ∧ 0 < a
  · obtain ⟨rfl, ha⟩ := hc
    refine ⟨a % many, _, pool_upd (idx := idx + 1) h hi (B' := B + 1) (by omega) (m := .lst [.int (a / many), .int 1, .int c]) ⟨_, _, c, rfl, c1, by omega⟩, Int.emod_nonneg _ (by omega), Int.emod_lt_of_pos _ hpos, fun rest => ?_⟩
    rw [← ns rest]
    have h0 := g0 rest
    have h1' := g1 rest
    have h2' := k1 rest
    have h3' := k2 rest
    generalize dk ++ rest = M at *
    simp -implicitDefEqProofs [-ev_ii, -ev_mulI, F__law_draw, B__law_draw, g2, g3, e7, e9, e10, e11, ne, ha, h0, h1', h2', h3', i21, i30, i32]
  · refine ⟨X3 ^ 3 % 162259276829213363391578010288127 / 1048576 % many, _, pool_upd (idx := idx + 1) h hi (B' := B + 1) (by omega) (m := .lst [.int a, .int f, .int (c + 1)]) ⟨_, _, c + 1, rfl, by omega, by omega⟩, Int.emod_nonneg _ (by omega), Int.emod_lt_of_pos _ hpos, fun rest => ?_⟩
    rw [← ns rest]
    have h0 := g0 rest
    have h1' := g1 rest
    have h2' := k1 rest
    have h3' := k2 rest
    generalize dk ++ rest = M at *
    by_cases hf : f = 1
    · have ha : ¬ 0 < a := fun z => hc ⟨hf, z⟩
      subst hf
      simp -implicitDefEqProofs [-ev_ii, -ev_mulI, F__law_draw, B__law_draw, g2, g3, e1, e2, e3, e4, e5, e6, e7, e8, e9, e10, e11, ne, ha, hX1, hX2, hX3, h0, h1', h2', h3', i21, i30, i32]
    · simp -implicitDefEqProofs [-ev_ii, -ev_mulI, F__law_draw, B__law_draw, g2, g3, e1, e2, e3, e4, e5, e6, e7, e8, e9, e10, e11, ne, hf, hX1, hX2, hX3, h0, h1', h2', h3', i21, i30, i32]
end Lw

namespace Lw
open PySem PySem.Spec PyProof.Rows L2 DL
theorem refs_succ (n : Nat) : refs (n + 1) = refs n ++ [.ref n] := by simp [refs, List.range_succ]
theorem f_deck (ns : List Int) (h : ns.length ≤ 63) : ∃ (N : Nat) (dk : List MO), IsDeck N 3000 dk ∧ F__law_deck [.loc (ns.map D.int)] [] = .ok (.ref N) dk := by
  obtain ⟨N, hN, hN1, hN63⟩ : ∃ N : Nat, (if (if (ns.length : Int) < 63 then (ns.length : Int) else 63) > 1 then (if (ns.length : Int) < 63 then (ns.length : Int) else 63) else 1) = (N : Int) ∧ 1 ≤ N ∧ N ≤ 63 := by
    refine ⟨max 1 (min 63 ns.length), ?_, by omega, by omega⟩
    split <;> split <;> omega
  have e0 : ∀ s : DL.S, rng1 [.d (.int (N : Int))] s = .ok ⟨(List.range N).map fun i => D.int (i : Nat), [], []⟩ s := fun s => rng1_nat (n := N) (by omega) s
  have p18 : ∀ s : DL.S, powH (.d (.int 10)) (.d (.int 18)) s = .ok (.int 1000000000000000000) s := fun s => by
    show R.of (if 0 ≤ (18 : Int) ∧ (18 : Int) ≤ 64 ∧ (10 : Int).natAbs.log2 < 1000 then some (D.int ((10 : Int) ^ (18 : Int).toNat)) else none) s = _
    rw [if_pos (by decide)]; rfl
  have c1 : ∀ (i j : Int) (s : DL.S), ltH (.d (.int i)) (.d (.int j)) s = .ok (.bl (decide (i < j))) s := fun _ _ _ => rfl
  have c2 : ∀ (i j : Int) (s : DL.S), geH (.d (.int i)) (.d (.int j)) s = .ok (.bl (decide (j ≤ i))) s := fun _ _ _ => rfl
  obtain ⟨s', e, k', cell', dk, hl, hp, rfl⟩ := for_all (r := ⟨(List.range N).map fun i => D.int (i : Nat), [], []⟩) (u := U__law_deck_1) (body := L__law_deck_1) (fun i : Nat => D.int (i : Nat))
    (fun q s => ∃ (k' cell' : DL.Slot) (dk : List MO), dk.length = q.length ∧ (∀ i, i < q.length → ∃ m, dk[i]? = some m ∧ Pool 3000 m) ∧ s = ⟨[.val (.loc (ns.map D.int)), .own (.lst (refs q.length)), k', cell'], dk, 0⟩) (List.range N) (fun _ _ _ => ok_nil _ _)
    (s := ⟨[.val (.loc (ns.map D.int)), .own (.lst []), .no, .no], [], 0⟩) (by
      rintro q k q' s hq ⟨k', cell', dk, hl, hp, rfl⟩
      have hqk : q.length = k ∧ k < N := by
        have hlen := congrArg List.length hq
        simp at hlen
        have h1 : (List.range N)[q.length]? = some k := by rw [hq]; simp
        rw [List.getElem?_range (by omega)] at h1
        simp at h1
        exact ⟨h1, by omega⟩
      obtain ⟨hqk, hkN⟩ := hqk
      have m41 : ∀ s : DL.S, mulH (.d (.int 41)) (.d (.int (k : Int))) s = .ok (.int (41 * (k : Int))) s := fun s => mul_ok (by decide) (by decide) (by omega) (Int.lt_trans (show (k : Int) < 100 by omega) (by decide))
      have rl : (refs q.length).length = q.length := by simp [refs]
      have hz : q.length < sizeLine := by rw [sizeLine_eq]; omega
      have fin : ∀ (cell : Int) (x : DL.Slot), ∃ (k' cell' : DL.Slot) (dk' : List MO), dk'.length = (q ++ [k]).length ∧ (∀ i, i < (q ++ [k]).length → ∃ m, dk'[i]? = some m ∧ Pool 3000 m) ∧ (⟨[.val (.loc (ns.map D.int)), .own (.lst (refs q.length ++ [.ref dk.length])), .val (.int (k : Nat)), .val (.int cell)], dk ++ [.lst [.int cell, .int (if 1000000000000000000 ≤ cell then 1 else 0), .int (41 * (k : Nat))]], 0⟩ : DL.S) = ⟨[.val (.loc (ns.map D.int)), .own (.lst (refs (q ++ [k]).length)), k', cell'], dk', 0⟩ := fun cell x => by
        refine ⟨_, _, _, ?_, fun i hi => ?_, by rw [List.length_append, List.length_singleton, refs_succ, hl]⟩
        · simp [hl]
        · by_cases hi2 : i < q.length
          · obtain ⟨m, e1, e2⟩ := hp i hi2
            exact ⟨m, by rw [List.getElem?_append_left (by omega)]; exact e1, e2⟩
          · simp at hi
            have : i = dk.length := by omega
            subst this
            exact ⟨.lst [.int cell, .int (if 1000000000000000000 ≤ cell then 1 else 0), .int (41 * (k : Nat))], by simp, cell, (if 1000000000000000000 ≤ cell then 1 else 0), 41 * (k : Nat), rfl, by omega, by omega⟩
      by_cases hk : k < ns.length
      · have hk' : (k : Int) < (ns.length : Int) := by omega
        obtain ⟨k2, c2', dk2, f1, f2, f3⟩ := fin ns[k] .no
        refine ⟨_, ?_, k2, c2', dk2, f1, f2, f3⟩
        simp -implicitDefEqProofs [-ev_ii, -ev_mulI, turnB, U__law_deck_1, L__law_deck_1, c1, c2, p18, m41, hk, atI_nat', rl, hz]
      · have hk' : ¬ (k : Int) < (ns.length : Int) := by omega
        obtain ⟨k2, c2', dk2, f1, f2, f3⟩ := fin 0 .no
        refine ⟨_, ?_, k2, c2', dk2, f1, f2, f3⟩
        simp -implicitDefEqProofs [-ev_ii, -ev_mulI, turnB, U__law_deck_1, L__law_deck_1, c1, c2, p18, m41, hk, atI_nat', rl, hz]) ⟨.no, .no, [], rfl, fun i hi => absurd hi (Nat.not_lt_zero _), rfl⟩
  have hl : dk.length = N := by simpa using hl
  refine ⟨N, dk ++ [.lst [.lst (refs N), .int 0]], ⟨by simp [hl], hN1, fun i hi => ?_, ⟨0, by rw [← hl]; simp⟩⟩, ?_⟩
  · obtain ⟨m, e1, e2⟩ := hp i (by simpa using hi)
    exact ⟨m, by rw [List.getElem?_append_left (by omega)]; exact e1, e2⟩
  · simp -implicitDefEqProofs [-ev_ii, -ev_mulI, F__law_deck, B__law_deck, hN, e0]
    rw [e]
    simp [hl]
end Lw

namespace Lw
open PySem PySem.Spec PyProof.Rows L2 DL
def askD : Option Wt → D
  | none => .non
  | some w => wD w
def roundW (n : Nat) : Option Wt → Wt
  | none => List.replicate n none
  | some w => w
def okAsk (n : Nat) (a : Option Wt) : Prop := ∀ w, a = some w → w.length = n
theorem zipIdx_range (w : Wt) : w.zipIdx = (List.range w.length).map fun k => (wa w k, k) := by
  apply List.ext_getElem?
  intro i
  rw [List.getElem?_zipIdx, List.getElem?_map]
  by_cases h : i < w.length
  · simp [h, wa]
  · simp [h]
theorem taken_none (n : Nat) (p : List Int) : takenS (List.replicate n none) p = none := taken_iff.mpr fun k v e => by rw [wa_rep] at e; cases e
theorem f_take {n : Nat} {a : Option Wt} (ha : okAsk n a) {p : List Int} (hp : p.length = n) (hn : n ≤ 4) (m : List MO) : F__law_take [askD a, psD p] m = .ok (kD (takenS (roundW n a) p)) m := by
  have mu : ∀ (b : Int) (s : DL.S), 0 ≤ b → b ≤ 1 → mulH (.d (.int (p.length : Int))) (.d (.int b)) s = .ok (.int ((p.length : Int) * b)) s := fun b s h0 h1 => mul_ok (by omega) (Int.lt_trans (show (p.length : Int) < 100 by omega) (by decide)) h0 (Int.lt_of_le_of_lt h1 (by decide))
  cases a with
  | none =>
    have e0 : ∀ s : DL.S, rng1 [.d (.int 0)] s = .ok ⟨[], [], []⟩ s := fun s => rng1_nat (n := 0) (by omega) s
    have m0 : ∀ s : DL.S, mulH (.d (.int (p.length : Int))) (.d (.int 0)) s = .ok (.int 0) s := fun s => by rw [mu 0 s (by omega) (by omega), Int.mul_zero]
    simp -implicitDefEqProofs [-ev_mulI, F__law_take, B__law_take, askD, roundW, taken_none, m0, e0, forGo_nil]
  | some w =>
    have hw : w.length = n := ha w rfl
    have m1 : ∀ s : DL.S, mulH (.d (.int (p.length : Int))) (.d (.int 1)) s = .ok (.int (p.length : Int)) s := fun s => by rw [mu 1 s (by omega) (by omega), Int.mul_one]
    have e0 : ∀ s : DL.S, rng1 [.d (.int (p.length : Int))] s = .ok ⟨(List.range p.length).map fun i => D.int (i : Nat), [], []⟩ s := fun s => rng1_nat (n := p.length) (by omega) s
    obtain ⟨s', e, k', rfl⟩ := for_all (r := ⟨(List.range p.length).map fun i => D.int (i : Nat), [], []⟩) (u := U__law_take_1) (body := L__law_take_1) (fun i : Nat => D.int (i : Nat))
      (fun q s => ∃ k' : DL.Slot, s = ⟨[.val (wD w), .val (psD p), .val (kD ((q.map fun k => (wa w k, k)).foldl (tkStep p) (none, -1)).1), .val (.int ((q.map fun k => (wa w k, k)).foldl (tkStep p) (none, -1)).2), k'], m, m.length⟩) (List.range p.length) (fun _ _ _ => ok_nil _ _)
      (s := ⟨[.val (wD w), .val (psD p), .val .non, .val (.int (-1)), .no], m, m.length⟩) (by
        rintro q k q' s hq ⟨k', rfl⟩
        have hk : k < p.length := by
          have : k ∈ List.range p.length := by rw [hq]; simp
          simpa using this
        have hkw : k < w.length := by omega
        simp only [List.map_append, List.map_cons, List.map_nil, List.foldl_append, List.foldl_cons, List.foldl_nil]
        generalize ((q.map fun k => (wa w k, k)).foldl (tkStep p) (none, -1)) = st
        have ew : wa w k = w[k] := by simp [wa, hkw]
        rw [ew]
        cases hv : w[k] with
        | none =>
          have ek : w[k]? = some none := by rw [List.getElem?_eq_getElem hkw, hv]
          simp -implicitDefEqProofs [turnB, U__law_take_1, L__law_take_1, tkStep, atI_nat', ek]
        | some v =>
          have ek : w[k]? = some (some v) := by rw [List.getElem?_eq_getElem hkw, hv]
          simp -implicitDefEqProofs [turnB, U__law_take_1, L__law_take_1, tkStep, atI_nat', ek, hk]
          by_cases hb : st.2 < v - p[k] <;> simp -implicitDefEqProofs [hb, ek, atI_nat', hk]) ⟨_, rfl⟩
    rw [show p.length = w.length by omega] at e0
    rw [hp, ← hw, ← zipIdx_range] at e
    simp only [wD, psD] at e
    simp -implicitDefEqProofs [-ev_mulI, F__law_take, B__law_take, askD, roundW, m1]
    rw [show p.length = w.length by omega]
    simp -implicitDefEqProofs [e0]
    rw [e]
    simp [takenS]
theorem moved_range (gs : List Gd) (p : List Int) (t : Option Nat) : movedS gs p t = (List.range gs.length).map fun k => if some k = t then p.getD k 0 + (gs.getD k (0, 0, 0)).1 else p.getD k 0 - (gs.getD k (0, 0, 0)).2.1 := by
  unfold movedS
  apply List.ext_getElem?
  intro i
  rw [List.getElem?_map, List.getElem?_map, List.getElem?_zipIdx]
  by_cases h : i < gs.length
  · simp [h]
  · simp [h]
theorem f_behind {gs : List Gd} {p : List Int} (t : Option Nat) (h : gs.length ≤ p.length) (h4 : gs.length ≤ 4) (m : List MO) : F__law_behind [gsD gs, psD p, kD t] m = .ok (psD (movedS gs p t)) m := by
  have e0 : ∀ s : DL.S, rng1 [.d (.int (gs.length : Int))] s = .ok ⟨(List.range gs.length).map fun i => D.int (i : Nat), [], []⟩ s := fun s => rng1_nat (n := gs.length) (by omega) s
  simp -implicitDefEqProofs [F__law_behind, B__law_behind, e0]
  rw [comp_map (fun i : Nat => D.int (i : Nat)) (fun k => .int (if some k = t then p.getD k 0 + (gs.getD k (0, 0, 0)).1 else p.getD k 0 - (gs.getD k (0, 0, 0)).2.1)) (by simp)]
  · rw [moved_range]
    simp
  · intro k hk
    have hk : k < gs.length := by simpa using hk
    have hkp : k < p.length := by omega
    by_cases hb : some k = t
    · simp -implicitDefEqProofs [elemB, U__law_behind_1, E__law_behind_1, hb, atI_nat', hk, hkp, gD]
    · simp -implicitDefEqProofs [elemB, U__law_behind_1, E__law_behind_1, hb, atI_nat', hk, hkp, gD]
/-! ### the run -/
def runL (gs : List Gd) (ws : List Wt) : Nat → List (Option Nat)
  | 0 => []
  | k + 1 => runL gs ws k ++ [takenS (ws.getD (k % ws.length) []) ((runL gs ws k).foldl (movedS gs) (gs.map (·.2.2)))]
theorem runL_len (gs : List Gd) (ws : List Wt) : ∀ k, (runL gs ws k).length = k
  | 0 => rfl
  | k + 1 => by simp [runL, runL_len gs ws k]
theorem taken_lt {w : Wt} {p : List Int} {k : Nat} (h : takenS w p = some k) : k < w.length := by
  have := taken_CC w p
  rw [h] at this
  obtain ⟨v, e, _⟩ := this
  exact wa_lt e
theorem runL_lt (gs : List Gd) (ws : List Wt) {n : Nat} (hw : ∀ w ∈ ws, w.length = n) (h1 : 1 ≤ ws.length) : ∀ k t, some t ∈ runL gs ws k → t < n
  | 0, t, h => by cases h
  | k + 1, t, h => by
    simp only [runL, List.mem_append, List.mem_singleton] at h
    rcases h with h | h
    · exact runL_lt gs ws hw h1 k t h
    · have := taken_lt h.symm
      have hk : k % ws.length < ws.length := Nat.mod_lt _ (by omega)
      have hm : ws.getD (k % ws.length) [] ∈ ws := by simp [List.getD, hk]
      rw [hw _ hm] at this
      exact this
theorem run_lets (gs : List Gd) (ws : List Wt) : ∀ k, letsS ws (seenS gs (runL gs ws k)) = true
  | 0 => rfl
  | k + 1 => by
    have ih := run_lets gs ws k
    unfold letsS seenS at ih ⊢
    rw [runL, seenGo_snoc, List.zipIdx_append, List.all_append, ih, seen_len, runL_len]
    simp [okDay]
theorem f_run {gs : List Gd} {asks : List (Option Wt)} {n : Nat} (hn : gs.length = n) (h4 : n ≤ 4) (ha : ∀ a ∈ asks, okAsk n a) (h1 : 1 ≤ asks.length) {many : Nat} (hm : many ≤ 300) (m : List MO) :
    F__law_run [gsD gs, .lst (asks.map askD), .int (many : Nat)] m = .ok (rowD (runL gs (asks.map (roundW n)) many)) m := by
  have e0 : ∀ s : DL.S, rng1 [.d (.int (many : Int))] s = .ok ⟨(List.range many).map fun i => D.int (i : Nat), [], []⟩ s := fun s => rng1_nat (n := many) (by omega) s
  obtain ⟨s', e, k', b', rfl⟩ := for_all (r := ⟨(List.range many).map fun i => D.int (i : Nat), [], []⟩) (u := U__law_run_2) (body := L__law_run_2) (fun i : Nat => D.int (i : Nat))
    (fun q s => ∃ k' b' : DL.Slot, s = ⟨[.val (gsD gs), .val (.lst (asks.map askD)), .val (.int (many : Nat)), .val (psD ((runL gs (asks.map (roundW n)) q.length).foldl (movedS gs) (gs.map (·.2.2)))), .own (.lst ((runL gs (asks.map (roundW n)) q.length).map kD)), k', b'], m, m.length⟩) (List.range many) (fun _ _ _ => ok_nil _ _)
    (s := ⟨[.val (gsD gs), .val (.lst (asks.map askD)), .val (.int (many : Nat)), .val (psD (gs.map (·.2.2))), .own (.lst []), .no, .no], m, m.length⟩) (by
      rintro q k q' s hq ⟨k', b', rfl⟩
      have hqk : q.length = k ∧ k < many := by
        have hlen := congrArg List.length hq
        simp at hlen
        have h1 : (List.range many)[q.length]? = some k := by rw [hq]; simp
        rw [List.getElem?_range (by omega)] at h1
        simp at h1
        exact ⟨h1, by omega⟩
      obtain ⟨rfl, hkm⟩ := hqk
      have hp : ((runL gs (asks.map (roundW n)) q.length).foldl (movedS gs) (gs.map (·.2.2))).length = gs.length := fold_len gs _ _ (by simp)
      have hk : q.length % asks.length < asks.length := Nat.mod_lt _ (by omega)
      have ea : asks[q.length % asks.length]? = some asks[q.length % asks.length] := List.getElem?_eq_getElem hk
      have ft := f_take (ha _ (List.getElem_mem hk)) (p := (runL gs (asks.map (roundW n)) q.length).foldl (movedS gs) (gs.map (·.2.2))) (by rw [hp, hn]) h4 m
      have er : runL gs (asks.map (roundW n)) (q.length + 1) = runL gs (asks.map (roundW n)) q.length ++ [takenS (roundW n asks[q.length % asks.length]) ((runL gs (asks.map (roundW n)) q.length).foldl (movedS gs) (gs.map (·.2.2)))] := by
        simp [runL, List.getD, hk]
      have hz : (runL gs (asks.map (roundW n)) q.length).length < sizeLine := by rw [runL_len, sizeLine_eq]; omega
      have fb := f_behind (gs := gs) (p := (runL gs (asks.map (roundW n)) q.length).foldl (movedS gs) (gs.map (·.2.2))) (takenS (roundW n asks[q.length % asks.length]) ((runL gs (asks.map (roundW n)) q.length).foldl (movedS gs) (gs.map (·.2.2)))) (by omega) (by omega) m
      have hp0 : 0 < asks.length := by omega
      rw [List.length_append, List.length_singleton, er]
      simp only [List.foldl_append, List.foldl_cons, List.foldl_nil, List.map_append, List.map_cons, List.map_nil]
      generalize runL gs (asks.map (roundW n)) q.length = R at *
      generalize (R.foldl (movedS gs) (gs.map (·.2.2))) = p at *
      generalize takenS (roundW n asks[q.length % asks.length]) p = t at *
      simp only [psD, gsD] at ft fb
      simp -implicitDefEqProofs [turnB, U__law_run_2, L__law_run_2, hp0, ea, ft, hz, atI_last, fb]) ⟨_, _, rfl⟩
  simp -implicitDefEqProofs [F__law_run, B__law_run, e0]
  rw [comp_map gD (fun g => .int g.2.2) (by simp) (by
    rintro ⟨u, d, s⟩ hg
    simp [elemB, U__law_run_1, E__law_run_1, gD])]
  simp [Function.comp_def] at e
  simp -implicitDefEqProofs [e0]
  rw [e]
  simp
/-! ### lists, lesser, greater, moved -/
theorem f_lists {asks : List (Option Wt)} {n : Nat} (h4 : n ≤ 4) (m : List MO) : F__law_lists [.lst (asks.map askD), .int (n : Nat)] m = .ok (.lst ((asks.map (roundW n)).map wD)) m := by
  have rp := fun s => rep_non (n := n) (by omega) s
  simp -implicitDefEqProofs [F__law_lists, B__law_lists]
  rw [comp_map askD (fun a => wD (roundW n a)) (by simp)]
  · simp
  · intro a _
    cases a with
    | none => simp -implicitDefEqProofs [elemB, U__law_lists_1, E__law_lists_1, askD, rp, roundW]
    | some w => simp -implicitDefEqProofs [elemB, U__law_lists_1, E__law_lists_1, askD, roundW]
theorem zip_map_lesser (a b : Wt) : (a.zip b).map (fun x => lessO x.1 x.2) = lessW a b := by
  unfold lessW
  rw [List.zip, List.map_zipWith]
theorem imin (a c : Int) : (if c < a then c else a) = min a c := by omega
theorem f_lesser2 {a b : Wt} {d : D} {m : List MO} (hd : asW m d b) : F__law_lesser [wD a, d] m = .ok (wD (lessW a b)) m := by
  have el : ∀ (x : Option Int × Option Int) (y z : DL.Slot), ∃ s', elemB [.val (wD a), .val d, .no, .no] U__law_lesser_1 tAll E__law_lesser_1 (.tup [oD x.1, oD x.2]) m = .ok (some (oD (lessO x.1 x.2))) s' ∧ s'.mem = m := by
    rintro ⟨x, y⟩ _ _
    cases x <;> cases y <;> simp -implicitDefEqProofs [elemB, U__law_lesser_1, E__law_lesser_1, lessO, imin]
  rcases hd with rfl | ⟨n, rfl, hm⟩
  · simp -implicitDefEqProofs [F__law_lesser, B__law_lesser, zipItems_map]
    rw [comp_map (fun x : Option Int × Option Int => D.tup [oD x.1, oD x.2]) (fun x => oD (lessO x.1 x.2)) (by simp) (fun x _ => el x .no .no)]
    simp [← zip_map_lesser]
  · simp -implicitDefEqProofs [F__law_lesser, B__law_lesser, zipItems_map, hm]
    rw [comp_map (fun x : Option Int × Option Int => D.tup [oD x.1, oD x.2]) (fun x => oD (lessO x.1 x.2)) (by rw [ok_one]; exact hm) (fun x _ => el x .no .no)]
    simp [← zip_map_lesser]
theorem zip_map_greater (a b : Wt) : (a.zip b).map (fun x => greatO x.1 x.2) = greatW a b := by
  unfold greatW
  rw [List.zip, List.map_zipWith]
theorem f_greater2 {a b : Wt} {d : D} {m : List MO} (hd : asW m d b) (hl : a.length ≤ 4) : F__law_greater [wD a, d] m = .ok (wD (greatW a b)) m := by
  have el : ∀ (r : Src) (hr : ∀ s : DL.S, s.mem = m → r.ok s), ∃ x y, forGo r U__law_greater_1 L__law_greater_1 ((a.zip b).map fun x => D.tup [oD x.1, oD x.2]) ⟨[.val (wD a), .val d, .own (.lst []), .no, .no], m, m.length⟩ = .nx ⟨[.val (wD a), .val d, .own (.lst ((greatW a b).map oD)), x, y], m, m.length⟩ := fun r hr => by
    obtain ⟨s', e, x, y, rfl⟩ := for_all (r := r) (u := U__law_greater_1) (body := L__law_greater_1) (fun x : Option Int × Option Int => D.tup [oD x.1, oD x.2])
      (fun q s => ∃ x y : DL.Slot, s = ⟨[.val (wD a), .val d, .own (.lst ((q.map fun x => greatO x.1 x.2).map oD)), x, y], m, m.length⟩) (a.zip b) (fun _ s h => hr s (by obtain ⟨_, _, rfl⟩ := h; rfl))
      (s := ⟨[.val (wD a), .val d, .own (.lst []), .no, .no], m, m.length⟩) (by
        rintro q ⟨x, y⟩ q' s hq ⟨x', y', rfl⟩
        have hz : q.length < sizeLine := by
          have := congrArg List.length hq
          simp at this
          rw [sizeLine_eq]; omega
        cases x <;> cases y <;> simp -implicitDefEqProofs [turnB, U__law_greater_1, L__law_greater_1, greatO, hz, imax]) ⟨_, _, rfl⟩
    rw [zip_map_greater] at e
    exact ⟨x, y, e⟩
  rcases hd with rfl | ⟨n, rfl, hm⟩
  · obtain ⟨x, y, e⟩ := el ⟨(a.zip b).map (fun x => D.tup [oD x.1, oD x.2]), [], []⟩ (fun _ _ => ok_nil _ _)
    simp -implicitDefEqProofs [F__law_greater, B__law_greater, zipItems_map]
    simp only [wD] at e
    rw [e]
    simp
  · obtain ⟨x, y, e⟩ := el ⟨(a.zip b).map (fun x => D.tup [oD x.1, oD x.2]), [n], [b.map oD]⟩ (fun s hs => by rw [ok_one, hs]; exact hm)
    simp -implicitDefEqProofs [F__law_greater, B__law_greater, zipItems_map, hm]
    simp only [wD] at e
    rw [e]
    simp
theorem f_moved2 {w : Wt} {d : D} {m : List MO} (hd : asW m d w) (b : Int) : F__law_moved [d, .int b] m = .ok (wD (shW b w)) m := by
  have el : ∀ x : Option Int, ∃ s', elemB [.val d, .val (.int b), .no] U__law_moved_1 tAll E__law_moved_1 (oD x) m = .ok (some (oD (x.map (· + b)))) s' ∧ s'.mem = m := by
    intro x
    cases x <;> simp -implicitDefEqProofs [elemB, U__law_moved_1, E__law_moved_1]
  rcases hd with rfl | ⟨n, rfl, hm⟩
  · simp -implicitDefEqProofs [F__law_moved, B__law_moved]
    rw [comp_map oD (fun x => oD (x.map (· + b))) (by simp) (fun x _ => el x)]
    simp [shW]
  · simp -implicitDefEqProofs [F__law_moved, B__law_moved, hm]
    rw [comp_map oD (fun x => oD (x.map (· + b))) (by rw [ok_one]; exact hm) (fun x _ => el x)]
    simp [shW]
end Lw

namespace Lw
open PySem PySem.Spec PyProof.Rows L2 DL
theorem f_draw' {N B : Nat} {dk : List MO} (h : IsDeck N B dk) {many : Int} (h1 : 1 ≤ many) (h2 : many ≤ 1000000) (hB : B ≤ 1000000) (rest : List MO) :
    ∃ (r : Int) (dk' : List MO), IsDeck N (B + 1) dk' ∧ 0 ≤ r ∧ r < many ∧ F__law_draw [.ref N, .int many] (dk ++ rest) = .ok (.int r) (dk' ++ rest) := by
  obtain ⟨r, dk', a, b, c, d⟩ := f_draw h h1 h2 (Nat.le_trans (show B + 1 ≤ 2000000 by omega) (by decide))
  exact ⟨r, dk', a, b, c, d rest⟩
theorem far_ok {far : Int} (h0 : 0 ≤ far) (h : far ≤ 1000) (s : DL.S) : mulH (.d (.int 2)) (.d (.int far)) s = .ok (.int (2 * far)) s :=
  mul_ok (by decide) (by decide) h0 (Int.lt_of_le_of_lt h (by decide))
def okGf (far : Int) (g : Gd) : Prop := 1 ≤ g.1 ∧ g.1 ≤ 4 ∧ 1 ≤ g.2.1 ∧ g.2.1 ≤ 4 ∧ -far ≤ g.2.2 ∧ g.2.2 ≤ far
theorem f_wares {N B : Nat} {dk : List MO} (h : IsDeck N B dk) (hB : B ≤ 900000) {far : Int} (f0 : 0 ≤ far) (f1 : far ≤ 1000) (rest : List MO) :
    ∃ (gs : List Gd) (dk' : List MO), IsDeck N (B + 13) dk' ∧ 1 ≤ gs.length ∧ gs.length ≤ 4 ∧ (∀ g ∈ gs, okGf far g) ∧ F__law_wares [.ref N, .int far] (dk ++ rest) = .ok (gsD gs) (dk' ++ rest) := by
  obtain ⟨r0, dk0, i0, a0, b0, d0⟩ := f_draw' h (many := 4) (by decide) (by decide) (by omega) rest
  obtain ⟨n, hn, n1, n4⟩ : ∃ n : Nat, 1 + r0 = (n : Int) ∧ 1 ≤ n ∧ n ≤ 4 := ⟨(1 + r0).toNat, by omega, by omega, by omega⟩
  have e0 : ∀ s : DL.S, rng1 [.d (.int (n : Int))] s = .ok ⟨(List.range n).map fun i => D.int (i : Nat), [], []⟩ s := fun s => rng1_nat (n := n) (by omega) s
  have mf := far_ok f0 f1
  obtain ⟨s', e, gs, dk', k', g1, g2, g3, rfl⟩ := for_all (r := ⟨(List.range n).map fun i => D.int (i : Nat), [], []⟩) (u := U__law_wares_1) (body := L__law_wares_1) (fun i : Nat => D.int (i : Nat))
    (fun q s => ∃ (gs : List Gd) (dk' : List MO) (k' : DL.Slot), IsDeck N (B + 1 + 3 * q.length) dk' ∧ gs.length = q.length ∧ (∀ g ∈ gs, okGf far g) ∧ s = ⟨[.val (.ref N), .val (.int far), .own (.lst (gs.map gD)), k'], dk' ++ rest, (dk ++ rest).length⟩) (List.range n) (fun _ _ _ => ok_nil _ _)
    (s := ⟨[.val (.ref N), .val (.int far), .own (.lst []), .no], dk0 ++ rest, (dk ++ rest).length⟩) (by
      rintro q k q' s hq ⟨gs, dk', k', g1, g2, g3, rfl⟩
      have hqn : q.length < n := by
        have := congrArg List.length hq
        simp at this
        omega
      obtain ⟨r1, dk1, i1, a1, b1, d1⟩ := f_draw' g1 (many := 4) (by decide) (by decide) (by omega) rest
      obtain ⟨r2, dk2, i2, a2, b2, d2⟩ := f_draw' i1 (many := 4) (by decide) (by decide) (by omega) rest
      obtain ⟨r3, dk3, i3, a3, b3, d3⟩ := f_draw' i2 (many := 2 * far + 1) (by omega) (by omega) (by omega) rest
      have hz : gs.length < sizeLine := by rw [sizeLine_eq]; omega
      refine ⟨⟨[.val (.ref N), .val (.int far), .own (.lst ((gs ++ [(1 + r1, 1 + r2, r3 - far)]).map gD)), .val (.int (k : Nat))], dk3 ++ rest, (dk ++ rest).length⟩, ?_, gs ++ [(1 + r1, 1 + r2, r3 - far)], dk3, _, i3.mono (by simp; omega), by simp [g2], fun g hg => ?_, rfl⟩
      · simp -implicitDefEqProofs [-ev_mulI, turnB, U__law_wares_1, L__law_wares_1, d1, d2, mf, d3, hz, gD]
      · rcases List.mem_append.mp hg with hg | hg
        · exact g3 g hg
        · rw [List.mem_singleton] at hg
          subst hg
          exact ⟨by show 1 ≤ 1 + r1; omega, by show 1 + r1 ≤ 4; omega, by show 1 ≤ 1 + r2; omega, by show 1 + r2 ≤ 4; omega, by show -far ≤ r3 - far; omega, by show r3 - far ≤ far; omega⟩)
    ⟨[], dk0, .no, i0, rfl, fun g hg => (by cases hg), rfl⟩
  have hl : gs.length = n := by simpa using g2
  refine ⟨gs, dk', g1.mono (by simp; omega), by omega, by omega, g3, ?_⟩
  simp only [List.length_append] at e
  simp -implicitDefEqProofs [F__law_wares, B__law_wares, d0, hn, e0]
  rw [e]
  simp
theorem f_buyer {N B : Nat} {dk : List MO} (h : IsDeck N B dk) (hB : B ≤ 900000) {far : Int} (f0 : 0 ≤ far) (f1 : far ≤ 1000) {n : Nat} (hn : n ≤ 4) (rest : List MO) :
    ∃ (w : Wt) (dk' : List MO), IsDeck N (B + 8) dk' ∧ w.length = n ∧ F__law_buyer [.ref N, .int (n : Nat), .int far] (dk ++ rest) = .ok (wD w) (dk' ++ rest) := by
  have e0 : ∀ s : DL.S, rng1 [.d (.int (n : Int))] s = .ok ⟨(List.range n).map fun i => D.int (i : Nat), [], []⟩ s := fun s => rng1_nat (n := n) (by omega) s
  have mf := far_ok f0 f1
  obtain ⟨y, m', e, w, dk', w1, w2, rfl, rfl⟩ := comp_pre (r := ⟨(List.range n).map fun i => D.int (i : Nat), [], []⟩) (env := [.val (.ref N), .val (.int (n : Nat)), .val (.int far), .no]) (u := U__law_buyer_1) (tt := tAll) (te := E__law_buyer_1) (fun i : Nat => D.int (i : Nat))
    (fun p y m => ∃ (w : Wt) (dk' : List MO), IsDeck N (B + 2 * p.length) dk' ∧ w.length = p.length ∧ y = w.map oD ∧ m = dk' ++ rest) (fun _ _ _ _ => ok_nil _ _) (List.range n) [] [] (dk ++ rest) (by
      rintro p k q' y m hq ⟨w, dk', w1, w2, rfl, rfl⟩
      have hp : p.length < n := by
        have := congrArg List.length hq
        simp at this
        omega
      obtain ⟨r1, dk1, i1, a1, b1, d1⟩ := f_draw' w1 (many := 4) (by decide) (by decide) (by omega) rest
      by_cases hr : r1 = 0
      · refine ⟨some .non, ⟨[.val (.ref N), .val (.int (n : Nat)), .val (.int far), .val (.int (k : Nat))], dk1 ++ rest, (dk' ++ rest).length⟩, ?_, w ++ [none], dk1, i1.mono (by simp; omega), by simp [w2], by simp, rfl⟩
        simp -implicitDefEqProofs [-ev_mulI, elemB, U__law_buyer_1, E__law_buyer_1, d1, hr]
      · obtain ⟨r3, dk3, i3, a3, b3, d3⟩ := f_draw' i1 (many := 2 * far + 1) (by omega) (by omega) (by omega) rest
        refine ⟨some (.int (r3 - far)), ⟨[.val (.ref N), .val (.int (n : Nat)), .val (.int far), .val (.int (k : Nat))], dk3 ++ rest, (dk' ++ rest).length⟩, ?_, w ++ [some (r3 - far)], dk3, i3.mono (by simp; omega), by simp [w2], by simp, rfl⟩
        simp -implicitDefEqProofs [-ev_mulI, elemB, U__law_buyer_1, E__law_buyer_1, d1, hr, mf, d3]) ⟨[], dk, h, rfl, rfl, rfl⟩
  refine ⟨w, dk', w1.mono (by simp; omega), by simpa using w2, ?_⟩
  simp -implicitDefEqProofs [F__law_buyer, B__law_buyer, e0]
  rw [e]
  simp
theorem f_asks {N B : Nat} {dk : List MO} (h : IsDeck N B dk) (hB : B ≤ 800000) {far : Int} (f0 : 0 ≤ far) (f1 : far ≤ 1000) {n : Nat} (hn : n ≤ 4) (rest : List MO) :
    ∃ (asks : List (Option Wt)) (dk' : List MO), IsDeck N (B + 60) dk' ∧ 1 ≤ asks.length ∧ asks.length ≤ 6 ∧ (∀ a ∈ asks, okAsk n a) ∧ F__law_asks [.ref N, .int (n : Nat), .int far] (dk ++ rest) = .ok (.lst (asks.map askD)) (dk' ++ rest) := by
  obtain ⟨r0, dk0, i0, a0, b0, d0⟩ := f_draw' h (many := 6) (by decide) (by decide) (by omega) rest
  obtain ⟨c, hc, c1, c6⟩ : ∃ c : Nat, 1 + r0 = (c : Int) ∧ 1 ≤ c ∧ c ≤ 6 := ⟨(1 + r0).toNat, by omega, by omega, by omega⟩
  have e0 : ∀ s : DL.S, rng1 [.d (.int (c : Int))] s = .ok ⟨(List.range c).map fun i => D.int (i : Nat), [], []⟩ s := fun s => rng1_nat (n := c) (by omega) s
  obtain ⟨s', e, asks, dk', k', g1, g2, g3, rfl⟩ := for_all (r := ⟨(List.range c).map fun i => D.int (i : Nat), [], []⟩) (u := U__law_asks_1) (body := L__law_asks_1) (fun i : Nat => D.int (i : Nat))
    (fun q s => ∃ (asks : List (Option Wt)) (dk' : List MO) (k' : DL.Slot), IsDeck N (B + 1 + 9 * q.length) dk' ∧ asks.length = q.length ∧ (∀ a ∈ asks, okAsk n a) ∧ s = ⟨[.val (.ref N), .val (.int (n : Nat)), .val (.int far), .own (.lst (asks.map askD)), k'], dk' ++ rest, (dk ++ rest).length⟩) (List.range c) (fun _ _ _ => ok_nil _ _)
    (s := ⟨[.val (.ref N), .val (.int (n : Nat)), .val (.int far), .own (.lst []), .no], dk0 ++ rest, (dk ++ rest).length⟩) (by
      rintro q k q' s hq ⟨asks, dk', k', g1, g2, g3, rfl⟩
      have hqn : q.length < c := by
        have := congrArg List.length hq
        simp at this
        omega
      obtain ⟨r1, dk1, i1, a1, b1, d1⟩ := f_draw' g1 (many := 6) (by decide) (by decide) (by omega) rest
      have hz : asks.length < sizeLine := by rw [sizeLine_eq]; omega
      by_cases hr : r1 = 0
      · refine ⟨⟨[.val (.ref N), .val (.int (n : Nat)), .val (.int far), .own (.lst ((asks ++ [none]).map askD)), .val (.int (k : Nat))], dk1 ++ rest, (dk ++ rest).length⟩, ?_, asks ++ [none], dk1, _, i1.mono (by simp; omega), by simp [g2], fun a ha => ?_, rfl⟩
        · simp -implicitDefEqProofs [turnB, U__law_asks_1, L__law_asks_1, d1, hr, hz, askD]
        · rcases List.mem_append.mp ha with ha | ha
          · exact g3 a ha
          · rw [List.mem_singleton] at ha; subst ha; exact fun w hw => by cases hw
      · obtain ⟨w, dk3, i3, w3, d3⟩ := f_buyer i1 (by omega) f0 f1 hn rest
        refine ⟨⟨[.val (.ref N), .val (.int (n : Nat)), .val (.int far), .own (.lst ((asks ++ [some w]).map askD)), .val (.int (k : Nat))], dk3 ++ rest, (dk ++ rest).length⟩, ?_, asks ++ [some w], dk3, _, i3.mono (by simp; omega), by simp [g2], fun a ha => ?_, rfl⟩
        · simp only [wD] at d3
          simp -implicitDefEqProofs [turnB, U__law_asks_1, L__law_asks_1, d1, hr, hz, askD, d3]
        · rcases List.mem_append.mp ha with ha | ha
          · exact g3 a ha
          · rw [List.mem_singleton] at ha; subst ha; exact fun w' hw => by cases hw; exact w3)
    ⟨[], dk0, .no, i0, rfl, fun g hg => (by cases hg), rfl⟩
  have hl : asks.length = c := by simpa using g2
  refine ⟨asks, dk', g1.mono (by simp; omega), by omega, by omega, g3, ?_⟩
  simp only [List.length_append] at e
  simp -implicitDefEqProofs [F__law_asks, B__law_asks, d0, hc, e0]
  rw [e]
  simp
theorem f_many {N B : Nat} {dk : List MO} (h : IsDeck N B dk) (hB : B ≤ 900000) (rest : List MO) :
    ∃ (many : Nat) (dk' : List MO), IsDeck N (B + 4) dk' ∧ 1 ≤ many ∧ many ≤ 300 ∧ F__law_many [.ref N] (dk ++ rest) = .ok (.int (many : Nat)) (dk' ++ rest) := by
  obtain ⟨r1, dk1, i1, a1, b1, d1⟩ := f_draw' h (many := 4) (by decide) (by decide) (by omega) rest
  obtain ⟨r2, dk2, i2, a2, b2, d2⟩ := f_draw' i1 (many := 16) (by decide) (by decide) (by omega) rest
  obtain ⟨r3, dk3, i3, a3, b3, d3⟩ := f_draw' i2 (many := 60) (by decide) (by decide) (by omega) rest
  obtain ⟨r4, dk4, i4, a4, b4, d4⟩ := f_draw' i3 (many := 4) (by decide) (by decide) (by omega) rest
  have key : ∃ many : Nat, 1 ≤ many ∧ many ≤ 300 ∧ atI [D.int (1 + r1), D.int (1 + r2), D.int (1 + r3), D.int 300] r4 = some (.int (many : Nat)) := by
    have : r4 = 0 ∨ r4 = 1 ∨ r4 = 2 ∨ r4 = 3 := by omega
    rcases this with rfl | rfl | rfl | rfl
    · exact ⟨(1 + r1).toNat, by omega, by omega, by rw [show (((1 + r1).toNat : Nat) : Int) = 1 + r1 by omega]; rfl⟩
    · exact ⟨(1 + r2).toNat, by omega, by omega, by rw [show (((1 + r2).toNat : Nat) : Int) = 1 + r2 by omega]; rfl⟩
    · exact ⟨(1 + r3).toNat, by omega, by omega, by rw [show (((1 + r3).toNat : Nat) : Int) = 1 + r3 by omega]; rfl⟩
    · exact ⟨300, by omega, by omega, rfl⟩
  obtain ⟨many, h1, h2, h3⟩ := key
  refine ⟨many, dk4, i4, h1, h2, ?_⟩
  simp -implicitDefEqProofs [F__law_many, B__law_many, d1, d2, d3, d4, h3]
end Lw

namespace Lw
open PySem PySem.Spec PyProof.Rows L2 DL
theorem lets_iff {ws : List Wt} {seen : List (Option Nat × List Int)} : letsS ws seen = true ↔ ∀ d a, seen[d]? = some a → CC (ws.getD (d % ws.length) []) a.2 a.1 := by
  unfold letsS
  rw [List.all_eq_true]
  constructor
  · intro h d a e
    have := h (a, d) (List.mem_iff_getElem?.mpr ⟨d, by rw [List.getElem?_zipIdx, e]; simp⟩)
    simp only [okDay, decide_eq_true_eq] at this
    exact taken_iff.mp this
  · rintro h ⟨a, d⟩ hm
    obtain ⟨i, hi⟩ := List.mem_iff_getElem?.mp hm
    rw [List.getElem?_zipIdx] at hi
    obtain ⟨x, h1, h2⟩ := Option.map_eq_some_iff.mp hi
    simp only [Nat.zero_add, Prod.mk.injEq] at h2
    obtain ⟨rfl, rfl⟩ := h2
    simp only [okDay, decide_eq_true_eq]
    exact taken_iff.mpr (h i x h1)
theorem lets_some {ws : List Wt} {seen : List (Option Nat × List Int)} (h : letsS ws seen = true) {b : Nat} (hb : b < ws.length) : Sat (ws.getD b []) (someS seen b ws.length) := by
  intro a ha
  unfold someS at ha
  obtain ⟨d, hd, rfl⟩ := List.mem_map.mp ha
  obtain ⟨h1, h2⟩ := days_lt (by omega) hd
  have e : seen[d]? = some (seen.getD d (none, [])) := by simp [List.getD, h1]
  have := lets_iff.mp h d _ e
  rw [h2, Nat.mod_eq_of_lt hb] at this
  exact this
theorem some_lets {ws : List Wt} {seen : List (Option Nat × List Int)} (h1 : 0 < ws.length) (h : ∀ b, b < ws.length → Sat (ws.getD b []) (someS seen b ws.length)) : letsS ws seen = true := by
  refine lets_iff.mpr fun d a e => ?_
  have hd : d < seen.length := (List.getElem?_eq_some_iff.mp e).1
  refine h (d % ws.length) (Nat.mod_lt _ h1) a ?_
  unfold someS
  refine List.mem_map.mpr ⟨d, days_all h1 hd, ?_⟩
  simp [List.getD, e]
/-- what worths_let tells -/
def resS (n : Nat) (seen : List (Option Nat × List Int)) (L : Nat) : List (Wt × Wt) := (List.range L).map fun b => (dayS n seen L b).getD ([], [])
theorem res_ok {n : Nat} {seen : List (Option Nat × List Int)} {ws : List Wt} (hs : okSeen n seen) (h1 : 0 < ws.length) (h : letsS ws seen = true) :
    (∀ b, b < ws.length → ∃ r, dayS n seen ws.length b = some r ∧ (resS n seen ws.length)[b]? = some r ∧ r.1.length = n) ∧ letsS ((resS n seen ws.length).map (·.1)) seen = true ∧ (resS n seen ws.length).length = ws.length := by
  have key : ∀ b, b < ws.length → ∃ r, dayS n seen ws.length b = some r ∧ (resS n seen ws.length)[b]? = some r ∧ r.1.length = n ∧ Sat r.1 (someS seen b ws.length) := fun b hb => by
    have hso := some_ok (b := b) h1 hs
    obtain ⟨L, e, hl, hS⟩ := least_ok hso.p hso.t (lets_some h hb)
    refine ⟨(L, lowGo (tiedS n (someS seen b ws.length)).gaps n (tiedS n (someS seen b ws.length)).high), by unfold dayS; rw [e]; rfl, ?_, hl, hS⟩
    unfold resS
    rw [List.getElem?_map, List.getElem?_range hb]
    show some ((dayS n seen ws.length b).getD ([], [])) = _
    unfold dayS
    rw [e]; rfl
  have hlen : (resS n seen ws.length).length = ws.length := by simp [resS]
  refine ⟨fun b hb => by obtain ⟨r, a, c, d, _⟩ := key b hb; exact ⟨r, a, c, d⟩, some_lets (by rw [List.length_map, hlen]; exact h1) fun b hb => ?_, hlen⟩
  rw [List.length_map, hlen] at hb ⊢
  obtain ⟨r, a, c, d, e⟩ := key b hb
  have : ((resS n seen ws.length).map (·.1)).getD b [] = r.1 := by simp [List.getD, c]
  rw [this]; exact e
/-! ### worths in the store, behind the deck -/
def asX (N : Nat) (m : List MO) (d : D) (w : Wt) : Prop := d = wD w ∨ ∃ n, N < n ∧ d = .ref n ∧ m[n]? = some (.lst (w.map oD))
structure asXs (N : Nat) (m : List MO) (ds : List D) (ws : List Wt) : Prop where
  len : ds.length = ws.length
  at_ : ∀ (i : Nat) (d : D), ds[i]? = some d → ∃ w, ws[i]? = some w ∧ asX N m d w
def Ext (N : Nat) (m m' : List MO) : Prop := ∀ n x, N < n → m[n]? = some x → m'[n]? = some x
theorem asX.ext {N : Nat} {m m' : List MO} {d : D} {w : Wt} (h : asX N m d w) (e : Ext N m m') : asX N m' d w := by
  rcases h with h | ⟨n, h1, h2, h3⟩
  · exact .inl h
  · exact .inr ⟨n, h1, h2, e n _ h1 h3⟩
theorem asXs.ext {N : Nat} {m m' : List MO} {ds : List D} {ws : List Wt} (h : asXs N m ds ws) (e : Ext N m m') : asXs N m' ds ws :=
  ⟨h.len, fun i d hi => by obtain ⟨w, h1, h2⟩ := h.at_ i d hi; exact ⟨w, h1, h2.ext e⟩⟩
theorem asX.to {N : Nat} {m : List MO} {d : D} {w : Wt} (h : asX N m d w) : asW m d w := by
  rcases h with h | ⟨n, h1, h2, h3⟩
  · exact .inl h
  · exact .inr ⟨n, h2, h3⟩
theorem asXs.to {N : Nat} {m : List MO} {ds : List D} {ws : List Wt} (h : asXs N m ds ws) : asWs m ds ws :=
  ⟨h.len, fun i d hi => by obtain ⟨w, h1, h2⟩ := h.at_ i d hi; exact ⟨w, h1, h2.to⟩⟩
theorem ext_deck {N : Nat} {dk dk' rest j : List MO} (h : dk.length = N + 1) (h' : dk'.length = N + 1) : Ext N (dk ++ rest) (dk' ++ (rest ++ j)) := fun n x hn e => by
  rw [List.getElem?_append_right (by omega)] at e ⊢
  rw [h'] 
  rw [h] at e
  rw [List.getElem?_append_left (List.getElem?_eq_some_iff.mp e).1]
  exact e
theorem ext_deck0 {N : Nat} {dk dk' rest : List MO} (h : dk.length = N + 1) (h' : dk'.length = N + 1) : Ext N (dk ++ rest) (dk' ++ rest) := by
  have := ext_deck (rest := rest) (j := []) h h'
  simpa using this
theorem asXs_data (N : Nat) (m : List MO) (ws : List Wt) : asXs N m (ws.map wD) ws := ⟨by simp, fun i d hi => by
  rw [List.getElem?_map] at hi
  obtain ⟨w, e, rfl⟩ := Option.map_eq_some_iff.mp hi
  exact ⟨w, e, .inl rfl⟩⟩
theorem seq_asW {m : List MO} {d : D} {w : Wt} (h : asW m d w) (env : List DL.Slot) (lo : Nat) : seqOf (.d d) ⟨env, m, lo⟩ = some (w.map oD) := by
  rcases h with rfl | ⟨n, rfl, h⟩
  · simp
  · simp [h]
/-- [list(buyer) for buyer in found] -/
theorem f_copies {N : Nat} {m : List MO} {ds : List D} {ws : List Wt} (h : asXs N m ds ws) (hN : N < m.length) (env : List DL.Slot) (h9 : 9 < env.length) (he : env[9]? = some .no) :
    compGo ⟨ds, [], []⟩ env U__law_second_2 tAll E__law_second_2 ds [] m = .ok ((List.range ws.length).map fun i => D.ref (m.length + i)) (blkS env (m ++ ws.map fun w => MO.lst (w.map oD))) := by
  obtain ⟨y, m', e, rfl, rfl⟩ := comp_pre (r := ⟨ds, [], []⟩) (env := env) (u := U__law_second_2) (tt := tAll) (te := E__law_second_2) (fun d : D => d)
    (fun p y m' => y = ((List.range p.length).map fun i => D.ref (m.length + i)) ∧ m' = m ++ (ws.take p.length).map fun w => MO.lst (w.map oD)) (fun _ _ _ _ => ok_nil _ _) ds [] [] m (by
      rintro p d q' y m' hq ⟨rfl, rfl⟩
      have hd : ds[p.length]? = some d := by simp at hq; rw [hq]; simp
      obtain ⟨w, hw, hx⟩ := h.at_ _ _ hd
      have hx2 : asX N (m ++ (ws.take p.length).map fun w => MO.lst (w.map oD)) d w := hx.ext fun n x _ e => by rw [List.getElem?_append_left (List.getElem?_eq_some_iff.mp e).1]; exact e
      have hl : ∀ (env : List DL.Slot) (lo : Nat), seqOf (.d d) ⟨env, m ++ List.take p.length (ws.map fun w => MO.lst (w.map oD)), lo⟩ = some (w.map oD) := fun env lo => by rw [← List.map_take]; exact seq_asW hx2.to env lo
      have lp : p.length ≤ ws.length := Nat.le_of_lt (List.getElem?_eq_some_iff.mp hw).1
      refine ⟨some (.ref (m.length + p.length)), ⟨env.set 9 (.val d), (m ++ (ws.take p.length).map fun w => MO.lst (w.map oD)) ++ [.lst (w.map oD)], (m ++ (ws.take p.length).map fun w => MO.lst (w.map oD)).length⟩, ?_, ?_, ?_⟩
      · simp -implicitDefEqProofs [elemB, U__law_second_2, E__law_second_2, h9, hl, Nat.min_eq_left lp]
      · simp [List.range_succ]
      · simp [List.take_add_one, hw]) ⟨by simp, by simp⟩
  simp only [List.nil_append, List.map_id'] at e
  rw [e, h.len, List.take_length]
end Lw

namespace Lw
open PySem PySem.Spec PyProof.Rows L2 DL
def lstO (w : Wt) : MO := .lst (w.map oD)
def layR (base L : Nat) : List D := (List.range L).map fun i => .ref (base + i)
theorem layR_get {base L i : Nat} (h : i < L) : (layR base L)[i]? = some (.ref (base + i)) := by simp [layR, h]
theorem layR_len (base L : Nat) : (layR base L).length = L := by simp [layR]
theorem lay_asX {N : Nat} {A : List MO} (hN : N < A.length) (ws : List Wt) : asXs N (A ++ ws.map lstO) (layR A.length ws.length) ws := ⟨layR_len _ _, fun i d hi => by
  have hil : i < ws.length := by have := (List.getElem?_eq_some_iff.mp hi).1; rw [layR_len] at this; exact this
  rw [layR_get hil] at hi
  cases hi
  refine ⟨ws[i], List.getElem?_eq_getElem hil, .inr ⟨A.length + i, by omega, rfl, ?_⟩⟩
  rw [get_app]
  simp [hil, lstO]⟩
theorem f_second_turn {gs : List Gd} {asks : List (Option Wt)} {row : List (Option Nat)} {N B : Nat} {dk R : List MO} {ds : List D} {ws : List Wt} (hI : IsDeck N B dk) (hB : B ≤ 900000) (hok : Ok gs ws.length row)
    (hw : ∀ w ∈ ws, w.length = gs.length) (hx : asXs N (dk ++ R) ds ws) (hl : letsS ws (seenS gs row) = true) (k lo : Nat) (x5 x6 x7 x8 x9 x10 : DL.Slot) :
    ∃ (ds' : List D) (ws' : List Wt) (dk' j : List MO) (y5 y6 y7 y8 y9 y10 : DL.Slot), IsDeck N (B + 5) dk' ∧ asXs N (dk' ++ (R ++ j)) ds' ws' ∧ ws'.length = ws.length ∧ (∀ w ∈ ws', w.length = gs.length) ∧ letsS ws' (seenS gs row) = true ∧
      turnB U__law_second_1 L__law_second_1 (.int (k : Nat)) ⟨[.val (.ref N), .val (gsD gs), .val (.lst (asks.map askD)), .val (rowD row), .val (.lst ds), x5, x6, x7, x8, x9, x10], dk ++ R, lo⟩ =
        .nx ⟨[.val (.ref N), .val (gsD gs), .val (.lst (asks.map askD)), .val (rowD row), .val (.lst ds'), y5, y6, y7, y8, y9, y10], dk' ++ (R ++ j), lo⟩ := by
  have hL1 := hok.l1
  have hL6 := hok.l6
  have hg1 := hok.g1
  have hg4 := hok.g4
  obtain ⟨r1, dk1, i1, a1, b1, d1⟩ := f_draw' hI (many := (ws.length : Nat)) (by omega) (by omega) (by omega) R
  obtain ⟨r2, dk2, i2, a2, b2, d2⟩ := f_draw' i1 (many := (gs.length : Nat)) (by omega) (by omega) (by omega) R
  obtain ⟨at_, rfl⟩ := Int.eq_ofNat_of_zero_le a1
  obtain ⟨spot, rfl⟩ := Int.eq_ofNat_of_zero_le a2
  have hat : at_ < ws.length := by omega
  have hspot : spot < gs.length := by omega
  have hx2 : asXs N (dk2 ++ R) ds ws := hx.ext (ext_deck0 hI.len i2.len)
  have hN2 : N < (dk2 ++ R).length := by rw [List.length_append, i2.len]; omega
  have cp := f_copies hx2 hN2 [.val (.ref N), .val (gsD gs), .val (.lst (asks.map askD)), .val (rowD row), .val (.lst ds), .val (.int (k : Nat)), .val (.int (at_ : Nat)), .val (.int (spot : Nat)), x8.pub, .no, x10.pub] (by simp) rfl
  have eL : ((List.range ws.length).map fun i => D.ref ((dk2 ++ R).length + i)) = layR (dk2 ++ R).length ws.length := rfl
  have eL2 : (ws.map fun w => MO.lst (w.map oD)) = ws.map lstO := rfl
  rw [eL, eL2] at cp
  obtain ⟨r3, dk3, i3, a3, b3, d3⟩ := f_draw' i2 (many := 61) (by decide) (by decide) (by omega) (R ++ ws.map lstO)
  obtain ⟨r4, dk4, i4, a4, b4, d4⟩ := f_draw' i3 (many := 7) (by decide) (by decide) (by omega) (R ++ ws.map lstO)
  obtain ⟨r5, dk5, i5, a5, b5, d5⟩ := f_draw' i4 (many := 3) (by decide) (by decide) (by omega) (R ++ ws.map lstO)
  obtain ⟨v, hv⟩ : ∃ v : Option Int, atI [D.non, D.int (r3 - 30), D.int (r4 - 3)] r5 = some (oD v) := by
    have : r5 = 0 ∨ r5 = 1 ∨ r5 = 2 := by omega
    rcases this with rfl | rfl | rfl
    · exact ⟨none, rfl⟩
    · exact ⟨some (r3 - 30), rfl⟩
    · exact ⟨some (r4 - 3), rfl⟩
  have elen : (dk2 ++ R).length = (dk5 ++ R).length := by rw [List.length_append, List.length_append, i2.len, i5.len]
  have hwl : (ws[at_]).length = gs.length := hw _ (List.getElem_mem hat)
  have em : (dk5 ++ (R ++ ws.map lstO))[(dk2 ++ R).length + at_]? = some (.lst ((ws[at_]).map oD)) := by
    rw [elen, ← List.append_assoc, get_app, List.getElem?_map, List.getElem?_eq_getElem hat]; rfl
  have es : (dk5 ++ (R ++ ws.map lstO)).set ((dk2 ++ R).length + at_) (.lst (((ws[at_]).map oD).set spot (oD v))) = dk5 ++ (R ++ (ws.set at_ ((ws[at_]).set spot v)).map lstO) := by
    rw [elen, ← List.append_assoc, set_app, List.map_set, ← List.append_assoc, ← List.map_set]; rfl
  have hx6 : asXs N (dk5 ++ (R ++ (ws.set at_ ((ws[at_]).set spot v)).map lstO)) (layR (dk2 ++ R).length ws.length) (ws.set at_ ((ws[at_]).set spot v)) := by
    have h1 : N < (dk5 ++ R).length := by rw [← elen]; exact hN2
    have := lay_asX h1 (ws.set at_ ((ws[at_]).set spot v))
    rw [List.length_set, List.append_assoc, ← elen] at this
    exact this
  have hw6 : ∀ w ∈ ws.set at_ ((ws[at_]).set spot v), w.length = gs.length := fun w hm => by
    rcases List.mem_or_eq_of_mem_set hm with hm | rfl
    · exact hw w hm
    · rw [List.length_set]; exact hwl
  have fl := f_lets (row := row) (gs := gs) (by rw [List.length_set]; exact hok) hx6.to (fun w hm => Nat.le_of_eq (hw6 w hm))
  have hlr : (layR (dk2 ++ R).length ws.length)[at_]? = some (.ref ((dk2 ++ R).length + at_)) := layR_get hat
  have hsp : ixN gs.length (spot : Int) = some spot := ixN_nat hspot
  have hdl : ds.length = ws.length := hx.len
  have hWS : (ws.set at_ ((ws[at_]).set spot v)).length = ws.length := List.length_set
  have hxe : Ext N (dk ++ R) (dk5 ++ (R ++ (ws.set at_ ((ws[at_]).set spot v)).map lstO)) := ext_deck hI.len i5.len
  generalize layR (dk2 ++ R).length ws.length = DS at *
  generalize (dk2 ++ R).length + at_ = PA at *
  generalize (ws.set at_ ((ws[at_]).set spot v)) = WS at *
  generalize hA5 : dk5 ++ (R ++ ws.map lstO) = A5 at *
  have e2 : dk2 ++ (R ++ ws.map lstO) = dk2 ++ R ++ ws.map lstO := by simp
  rw [e2] at d3
  generalize dk2 ++ R ++ ws.map lstO = A2 at *
  generalize dk2 ++ R = M2 at *
  generalize dk1 ++ R = M1 at *
  generalize dk ++ R = M0 at *
  generalize dk3 ++ (R ++ ws.map lstO) = A3 at *
  generalize dk4 ++ (R ++ ws.map lstO) = A4 at *
  generalize hA6 : dk5 ++ (R ++ WS.map lstO) = A6 at *
  simp only [gsD, rowD] at cp fl
  by_cases hb : letsS WS (seenS gs row) = true
  · rw [hb] at fl
    refine ⟨DS, WS, dk5, WS.map lstO, .val (.int (k : Nat)), .val (.int (at_ : Nat)), .val (.int (spot : Nat)), .val (.lst DS), x9, x10, i5.mono (by omega), by rw [hA6]; exact hx6, hWS, hw6, hb, ?_⟩
    rw [hA6]
    simp -implicitDefEqProofs [turnB, U__law_second_1, L__law_second_1, hdl, d1, d2, cp, d3, d4, d5, hv, atI_nat', hlr, em, hsp, hwl, es, fl]
  · have hb' : letsS WS (seenS gs row) = false := by simpa using hb
    rw [hb'] at fl
    refine ⟨ds, ws, dk5, WS.map lstO, .val (.int (k : Nat)), .val (.int (at_ : Nat)), .val (.int (spot : Nat)), .val (.lst DS), x9, x10, i5.mono (by omega), by rw [hA6]; exact hx.ext hxe, rfl, hw, hl, ?_⟩
    rw [hA6]
    simp -implicitDefEqProofs [turnB, U__law_second_1, L__law_second_1, hdl, d1, d2, cp, d3, d4, d5, hv, atI_nat', hlr, em, hsp, hwl, es, fl]
end Lw

namespace Lw
open PySem PySem.Spec PyProof.Rows L2 DL
theorem f_second {gs : List Gd} {asks : List (Option Wt)} {row : List (Option Nat)} {N B : Nat} {dk : List MO} (hI : IsDeck N B dk) (hB : B ≤ 800000) (hok : Ok gs asks.length row) (ha : ∀ a ∈ asks, okAsk gs.length a)
    (hl : letsS (asks.map (roundW gs.length)) (seenS gs row) = true) (rest : List MO) :
    ∃ (ds : List D) (ws : List Wt) (dk' j : List MO), IsDeck N (B + 61) dk' ∧ asXs N (dk' ++ (rest ++ j)) ds ws ∧ ws.length = asks.length ∧ (∀ w ∈ ws, w.length = gs.length) ∧ letsS ws (seenS gs row) = true ∧
      F__law_second [.ref N, gsD gs, .lst (asks.map askD), rowD row] (dk ++ rest) = .ok (.lst ds) (dk' ++ (rest ++ j)) := by
  have hw0 : ∀ w ∈ asks.map (roundW gs.length), w.length = gs.length := fun w hw => by
    obtain ⟨a, h1, rfl⟩ := List.mem_map.mp hw
    cases a with
    | none => simp [roundW]
    | some w => exact ha _ h1 w rfl
  have e0 : ∀ s : DL.S, rng1 [.d (.int 12)] s = .ok ⟨(List.range 12).map fun i => D.int (i : Nat), [], []⟩ s := fun s => rng1_nat (n := 12) (by omega) s
  have fl := fun m => f_lists (asks := asks) (n := gs.length) hok.g4 m
  obtain ⟨s', e, ds, ws, dk1, j, x5, x6, x7, x8, x9, x10, i1, hx, hwl, hw, hl1, rfl⟩ := for_all (r := ⟨(List.range 12).map fun i => D.int (i : Nat), [], []⟩) (u := U__law_second_1) (body := L__law_second_1) (fun i : Nat => D.int (i : Nat))
    (fun q s => ∃ (ds : List D) (ws : List Wt) (dk1 j : List MO) (x5 x6 x7 x8 x9 x10 : DL.Slot), IsDeck N (B + 5 * q.length) dk1 ∧ asXs N (dk1 ++ (rest ++ j)) ds ws ∧ ws.length = asks.length ∧ (∀ w ∈ ws, w.length = gs.length) ∧ letsS ws (seenS gs row) = true ∧
      s = ⟨[.val (.ref N), .val (gsD gs), .val (.lst (asks.map askD)), .val (rowD row), .val (.lst ds), x5, x6, x7, x8, x9, x10], dk1 ++ (rest ++ j), (dk ++ rest).length⟩) (List.range 12) (fun _ _ _ => ok_nil _ _)
    (s := ⟨[.val (.ref N), .val (gsD gs), .val (.lst (asks.map askD)), .val (rowD row), .val (.lst ((asks.map (roundW gs.length)).map wD)), .no, .no, .no, .no, .no, .no], dk ++ rest, (dk ++ rest).length⟩) (by
      rintro q k q' s hq ⟨ds, ws, dk1, j, x5, x6, x7, x8, x9, x10, i1, hx, hwl, hw, hl1, rfl⟩
      have hq12 : q.length < 12 := by
        have := congrArg List.length hq
        simp at this
        omega
      obtain ⟨ds2, ws2, dk2, j2, y5, y6, y7, y8, y9, y10, i2, hx2, hwl2, hw2, hl2, e⟩ := f_second_turn (asks := asks) i1 (by omega) (by rw [hwl]; exact hok) hw hx hl1 k (dk ++ rest).length x5 x6 x7 x8 x9 x10
      refine ⟨_, e, ds2, ws2, dk2, j ++ j2, y5, y6, y7, y8, y9, y10, i2.mono (by simp; omega), ?_, hwl2.trans hwl, hw2, hl2, ?_⟩
      · rw [← List.append_assoc rest]; exact hx2
      · rw [← List.append_assoc rest])
    ⟨(asks.map (roundW gs.length)).map wD, asks.map (roundW gs.length), dk, [], .no, .no, .no, .no, .no, .no, hI, by rw [List.append_nil]; exact asXs_data _ _ _, by simp, hw0, hl, by rw [List.append_nil]⟩
  have i1 : IsDeck N (B + 60) dk1 := i1.mono (by simp)
  obtain ⟨r, dk2, i2, a2, b2, d2⟩ := f_draw' i1 (many := 4) (by decide) (by decide) (by omega) (rest ++ j)
  simp only [gsD, rowD, List.map_map] at e
  have fl' := fl (dk ++ rest)
  simp only [List.map_map] at fl'
  by_cases hr : r = 0
  · have hs := seen_okSeen hok.r hok.g4
    have hL1 : 0 < ws.length := by rw [hwl]; exact hok.l1
    obtain ⟨k1, k2, k3⟩ := res_ok hs hL1 hl1
    rw [hwl] at k1 k2 k3
    obtain ⟨j2, fw⟩ := f_worths hok (resS gs.length (seenS gs row) asks.length) (fun b hb => by obtain ⟨r, h1, h2, _⟩ := k1 b hb; exact ⟨r, h1, h2⟩) k3 (dk2 ++ (rest ++ j))
    have kl : ∀ w ∈ (resS gs.length (seenS gs row) asks.length).map (·.1), w.length = gs.length := fun w hw => by
      obtain ⟨x, hx, rfl⟩ := List.mem_map.mp hw
      obtain ⟨b, hb⟩ := List.mem_iff_getElem?.mp hx
      have hbl : b < asks.length := by have := (List.getElem?_eq_some_iff.mp hb).1; rw [k3] at this; exact this
      obtain ⟨r, h1, h2, h3⟩ := k1 b hbl
      rw [hb] at h2; cases h2
      exact h3
    refine ⟨((resS gs.length (seenS gs row) asks.length).map (·.1)).map wD, (resS gs.length (seenS gs row) asks.length).map (·.1), dk2, j ++ j2, i2, asXs_data _ _ _, by rw [List.length_map, k3], kl, k2, ?_⟩
    simp only [gsD, rowD] at fw
    generalize resS gs.length (seenS gs row) asks.length = RS at *
    have ec : ∀ (env : List DL.Slot) (m : List MO), 10 < env.length → env[10]? = some .no → compGo ⟨RS.map pairD, [], []⟩ env U__law_second_3 tAll E__law_second_3 (RS.map pairD) [] m = .ok ((RS.map (·.1)).map wD) (blkS env m) := fun env m h1 h2 => by
      rw [comp_map pairD (fun x => wD x.1) (by simp)]
      · rw [List.map_map]; rfl
      · rintro ⟨a, b⟩ _
        simp -implicitDefEqProofs [elemB, U__law_second_3, E__law_second_3, pairD, h1]
    have e3 : dk2 ++ (rest ++ j) ++ j2 = dk2 ++ (rest ++ (j ++ j2)) := by simp
    rw [e3] at fw
    generalize dk2 ++ (rest ++ (j ++ j2)) = M3 at *
    generalize dk2 ++ (rest ++ j) = M2 at *
    generalize dk1 ++ (rest ++ j) = M1 at *
    generalize hM0 : dk ++ rest = M0 at *
    simp -implicitDefEqProofs [F__law_second, B__law_second, fl', e0]
    rw [e]
    simp -implicitDefEqProofs [d2, hr, fw]
    rw [ec _ _ (by simp) (by simp)]
    simp
  · refine ⟨ds, ws, dk2, j, i2, hx.ext (ext_deck0 i1.len i2.len), hwl, hw, hl1, ?_⟩
    generalize dk2 ++ (rest ++ j) = M2 at *
    generalize dk1 ++ (rest ++ j) = M1 at *
    generalize dk ++ rest = M0 at *
    simp -implicitDefEqProofs [F__law_second, B__law_second, fl', e0]
    rw [e]
    simp -implicitDefEqProofs [d2, hr]
end Lw

namespace Lw
open PySem PySem.Spec PyProof.Rows L2 DL
/-! ### moved by one number, the whole round -/
theorem lets_sh (b : Int) {ws : List Wt} {seen : List (Option Nat × List Int)} {n : Nat} (hp : ∀ a ∈ seen, a.2.length = n) (hw : ∀ w ∈ ws, w.length = n) (h1 : 0 < ws.length) (h : letsS ws seen = true) : letsS (ws.map (shW b)) (seen.map (shS b)) = true := by
  refine lets_iff.mpr fun d a e => ?_
  rw [List.getElem?_map] at e
  obtain ⟨x, e1, rfl⟩ := Option.map_eq_some_iff.mp e
  have c := lets_iff.mp h d x e1
  have hd : d % ws.length < ws.length := Nat.mod_lt _ h1
  have e2 : (ws.map (shW b)).getD (d % (ws.map (shW b)).length) [] = shW b (ws.getD (d % ws.length) []) := by simp [List.getD, hd]
  rw [e2]
  have hm : ws.getD (d % ws.length) [] ∈ ws := by simp [List.getD, hd]
  exact CC_sh (by rw [hw _ hm, hp _ (List.mem_of_getElem? e1)]; exact Nat.le_refl _) c
theorem some_sh (b : Int) (seen : List (Option Nat × List Int)) (c L : Nat) (hL : 0 < L) : someS (seen.map (shS b)) c L = (someS seen c L).map (shS b) := by
  unfold someS
  rw [List.map_map, List.length_map]
  apply List.map_congr_left
  intro d hd
  have := (days_lt hL hd).1
  simp [List.getD, this]
def shR (b : Int) (x : Wt × Wt) : Wt × Wt := (shW b x.1, shW b x.2)
theorem day_sh (b : Int) {n : Nat} {seen : List (Option Nat × List Int)} (hs : okSeen n seen) {L : Nat} (hL : 0 < L) (c : Nat) : dayS n (seen.map (shS b)) L c = (dayS n seen L c).map (shR b) := by
  have hso := some_ok (b := c) hL hs
  have ht : ∀ a ∈ someS seen c L, ∀ k, a.1 = some k → k < a.2.length := fun a ha k e => by rw [hso.p a ha]; exact hso.t a ha k e
  unfold dayS
  rw [some_sh b seen c L hL, least_sh b n _ ht, tied_sh b n _ ht]
  show ((leastS n (someS seen c L)).map (shW b)).map (fun w => (w, lowGo (tiedS n (someS seen c L)).gaps n (shW b (tiedS n (someS seen c L)).high))) = _
  rw [low_sh]
  cases leastS n (someS seen c L) <;> rfl
theorem res_sh (b : Int) {n : Nat} {seen : List (Option Nat × List Int)} (hs : okSeen n seen) {L : Nat} (hL : 0 < L) (hall : ∀ c, c < L → (dayS n seen L c).isSome = true) : resS n (seen.map (shS b)) L = (resS n seen L).map (shR b) := by
  unfold resS
  rw [List.map_map]
  apply List.map_congr_left
  intro c hc
  have hc : c < L := by simpa using hc
  show (dayS n (seen.map (shS b)) L c).getD ([], []) = shR b ((dayS n seen L c).getD ([], []))
  rw [day_sh b hs hL]
  obtain ⟨r, e⟩ := Option.isSome_iff_exists.mp (hall c hc)
  rw [e]; rfl
/-! ### == of like data -/
theorem eq_same {x y : Hd} {s : DL.S} {p : PyData} (neg : Bool) (hx : hdat x s = some p) (hy : hdat y s = some p) (hp : SeqAt.shaped p = true) : eqH neg x y s = .ok (.bl (!neg)) s := by
  have e : eqO x y s = some true := by
    unfold eqO
    rw [hx, hy]
    simp only [hp, Bool.and_self, if_true]
    rw [SeqAt.eqv_refl p (SeqAt.canLay_of_shaped hp)]
  unfold eqH
  rw [e]
  cases neg <;> rfl
theorem eq_nil (neg : Bool) (s : DL.S) : eqH neg (.d (.lst [])) (.d (.lst [])) s = .ok (.bl (!neg)) s := by
  have e : hdat (.d (.lst [])) s = some (.list []) := by
    show ((([] : List D).mapM (pd s.mem 11)).map PyData.list) = _
    simp
  exact eq_same neg e e (by simp [SeqAt.shaped, PyData.canLay0, PyData.canLayAll0, PyData.depth, PyData.depthAll])
def pP (x : Wt × Wt) : PyData := .tuple [.list (x.1.map pO), .list (x.2.map pO)]
theorem pd_pair (m : List MO) (x : Wt × Wt) : pd m 11 (pairD x) = some (pP x) := by
  show ((([wD x.1, wD x.2] : List D).mapM (pd m 10)).map PyData.tuple) = _
  have h : ∀ w : Wt, pd m 10 (wD w) = some (.list (w.map pO)) := fun w => by
    show ((w.map oD).mapM (pd m 9)).map PyData.list = _
    rw [mapM_oD m 8 w]; rfl
  rw [DL.mapM_cons, h, DL.mapM_cons, h]
  simp [pP]
theorem mapM_pair (m : List MO) : ∀ A : List (Wt × Wt), (A.map pairD).mapM (pd m 11) = some (A.map pP)
  | [] => by simp
  | x :: A => by rw [List.map_cons, DL.mapM_cons, pd_pair, mapM_pair m A]; rfl
theorem lay_pP : ∀ A : List (Wt × Wt), PyData.canLayAll0 (A.map pP) = true
  | [] => by simp [PyData.canLayAll0]
  | x :: A => by simp [PyData.canLayAll0, pP, PyData.canLay0, lay_pO, lay_pP A]
theorem depth_pP : ∀ A : List (Wt × Wt), PyData.depthAll (A.map pP) ≤ 2
  | [] => by simp [PyData.depthAll]
  | x :: A => by
    have := depth_pP A
    simp [PyData.depthAll, pP, PyData.depth, depth_pO]
    omega
theorem eq_pairs (neg : Bool) (A : List (Wt × Wt)) (s : DL.S) : eqH neg (.d (.lst (A.map pairD))) (.d (.lst (A.map pairD))) s = .ok (.bl (!neg)) s := by
  have e : hdat (.d (.lst (A.map pairD))) s = some (.list (A.map pP)) := by
    show ((A.map pairD).mapM (pd s.mem 11)).map PyData.list = _
    rw [mapM_pair]; rfl
  have h := depth_pP A
  refine eq_same neg e e ?_
  have h2 : PyData.depthAll (A.map pP) + 1 ≤ 64 := by omega
  simp only [SeqAt.shaped, PyData.canLay0, lay_pP, PyData.depth, Bool.true_and, decide_eq_true_eq]
  exact decide_eq_true h2
/-! ### two rounds, day by day -/
theorem zip_rounds {as : List Wt} {ds : List D} {L : Nat} (h1 : as.length = L) (h2 : ds.length = L) : zipItems (as.map wD) ds = (List.range L).map fun i => D.tup [wD (as.getD i []), ds.getD i .non] := by
  unfold zipItems
  apply List.ext_getElem?
  intro i
  rw [List.getElem?_zipWith, List.getElem?_map, List.getElem?_map]
  by_cases h : i < L
  · have ha : i < as.length := by omega
    have hd : i < ds.length := by omega
    simp [h, ha, hd]
  · have ha : as[i]? = none := List.getElem?_eq_none (by omega)
    have hd : ds[i]? = none := List.getElem?_eq_none (by omega)
    have hr : (List.range L)[i]? = none := List.getElem?_eq_none (by simp; omega)
    simp [ha, hd, hr]
theorem zipWith_range (f : Wt → Wt → Wt) {as ws : List Wt} {L : Nat} (h1 : as.length = L) (h2 : ws.length = L) : ((List.range L).map fun i => wD (f (as.getD i []) (ws.getD i []))) = (List.zipWith f as ws).map wD := by
  apply List.ext_getElem?
  intro i
  rw [List.getElem?_map, List.getElem?_map, List.getElem?_zipWith]
  by_cases h : i < L
  · have ha : i < as.length := by omega
    have hd : i < ws.length := by omega
    simp [h, ha, hd]
  · have ha : as[i]? = none := List.getElem?_eq_none (by omega)
    have hr : (List.range L)[i]? = none := List.getElem?_eq_none (by simp; omega)
    simp [ha, hr]
theorem lets_zip (f : Wt → Wt → Wt) {as ws : List Wt} {seen : List (Option Nat × List Int)} {n : Nat} (hl : as.length = ws.length) (h1 : 0 < ws.length) (ha : ∀ w ∈ as, w.length = n) (hw : ∀ w ∈ ws, w.length = n)
    (hf : ∀ a b p t, a.length = b.length → CC a p t → CC b p t → CC (f a b) p t) (h : letsS as seen = true) (k : letsS ws seen = true) : letsS (List.zipWith f as ws) seen = true := by
  refine lets_iff.mpr fun d a e => ?_
  have c1 := lets_iff.mp h d a e
  have c2 := lets_iff.mp k d a e
  have hlz : (List.zipWith f as ws).length = ws.length := by rw [List.length_zipWith]; omega
  rw [hlz]
  rw [hl] at c1
  have hd : d % ws.length < ws.length := Nat.mod_lt _ h1
  have hd2 : d % ws.length < as.length := by omega
  have m1 : as.getD (d % ws.length) [] ∈ as := by simp [List.getD, hd2]
  have m2 : ws.getD (d % ws.length) [] ∈ ws := by simp [List.getD, hd]
  have e2 : (List.zipWith f as ws).getD (d % ws.length) [] = f (as.getD (d % ws.length) []) (ws.getD (d % ws.length) []) := by
    simp [List.getD, List.getElem?_zipWith, hd, hd2]
  rw [e2]
  exact hf _ _ _ _ ((ha _ m1).trans (hw _ m2).symm) c1 c2
theorem zip_lens {f : Wt → Wt → Wt} {as ws : List Wt} {n : Nat} (hf : ∀ a b : Wt, a.length = n → b.length = n → (f a b).length = n) (ha : ∀ w ∈ as, w.length = n) (hw : ∀ w ∈ ws, w.length = n) : ∀ w ∈ List.zipWith f as ws, w.length = n := by
  intro w hm
  obtain ⟨i, hi⟩ := List.mem_iff_getElem?.mp hm
  rw [List.getElem?_zipWith] at hi
  cases e1 : as[i]? with
  | none => rw [e1] at hi; simp at hi
  | some a => cases e2 : ws[i]? with
    | none => rw [e1, e2] at hi; simp at hi
    | some b =>
      rw [e1, e2] at hi
      cases hi
      exact hf _ _ (ha _ (List.mem_of_getElem? e1)) (hw _ (List.mem_of_getElem? e2))
theorem asX_getD {N : Nat} {m : List MO} {ds : List D} {ws : List Wt} (h : asXs N m ds ws) {i : Nat} (hi : i < ws.length) : asX N m (ds.getD i .non) (ws.getD i []) := by
  have hd : i < ds.length := by rw [h.len]; exact hi
  obtain ⟨w, e, hx⟩ := h.at_ i ds[i] (List.getElem?_eq_getElem hd)
  have e1 : ds.getD i .non = ds[i] := by simp [List.getD, hd]
  have e2 : ws.getD i [] = w := by simp [List.getD, e]
  rw [e1, e2]; exact hx
/-- [lesser(some, others) for some, others in zip(rounds, second)] -/
theorem c_low {N : Nat} {m : List MO} {as : List Wt} {ds : List D} {ws : List Wt} {L : Nat} (h : asXs N m ds ws) (h1 : as.length = L) (h2 : ws.length = L) (env : List DL.Slot) (h14 : env.length = 19) :
    compGo ⟨zipItems (as.map wD) ds, [], []⟩ env U_law_2 tAll E_law_2 (zipItems (as.map wD) ds) [] m = .ok ((List.zipWith lessW as ws).map wD) (blkS env m) := by
  rw [zip_rounds h1 (h.len.trans h2)]
  rw [comp_map (fun i : Nat => D.tup [wD (as.getD i []), ds.getD i .non]) (fun i => wD (lessW (as.getD i []) (ws.getD i []))) (by simp)]
  · rw [zipWith_range lessW h1 h2]
  · intro i hi
    have hi : i < ws.length := by rw [h2]; simpa using hi
    have fl := f_lesser2 (a := as.getD i []) (asX_getD h hi).to
    generalize ds.getD i .non = d at *
    generalize as.getD i [] = a at *
    simp only [wD] at fl
    simp -implicitDefEqProofs [elemB, U_law_2, E_law_2, h14, fl]
theorem c_high {N : Nat} {m : List MO} {as : List Wt} {ds : List D} {ws : List Wt} {L : Nat} (h : asXs N m ds ws) (h1 : as.length = L) (h2 : ws.length = L) (h4 : ∀ w ∈ as, w.length ≤ 4) (env : List DL.Slot) (h14 : env.length = 19) :
    compGo ⟨zipItems (as.map wD) ds, [], []⟩ env U_law_3 tAll E_law_3 (zipItems (as.map wD) ds) [] m = .ok ((List.zipWith greatW as ws).map wD) (blkS env m) := by
  rw [zip_rounds h1 (h.len.trans h2)]
  rw [comp_map (fun i : Nat => D.tup [wD (as.getD i []), ds.getD i .non]) (fun i => wD (greatW (as.getD i []) (ws.getD i []))) (by simp)]
  · rw [zipWith_range greatW h1 h2]
  · intro i hi
    have hi2 : i < as.length := by rw [h1]; simpa using hi
    have hi : i < ws.length := by rw [h2]; simpa using hi
    have hm : as.getD i [] ∈ as := by simp [List.getD, hi2]
    have fl := f_greater2 (a := as.getD i []) (asX_getD h hi).to (h4 _ hm)
    generalize ds.getD i .non = d at *
    generalize as.getD i [] = a at *
    simp only [wD] at fl
    simp -implicitDefEqProofs [elemB, U_law_3, E_law_3, h14, fl]
end Lw

namespace Lw
open PySem PySem.Spec PyProof.Rows L2 DL
theorem fm_none : ∀ l : List D, l.filterMap (fun _ => (none : Option D)) = []
  | [] => rfl
  | x :: l => by rw [List.filterMap_cons, fm_none l]
theorem c_check {gs : List Gd} {row : List (Option Nat)} {m : List MO} (items : List D) (hall : ∀ d ∈ items, F_lets_be [gsD gs, d, rowD row] m = .ok (.bl true) m) (env : List DL.Slot) (h10 : env.length = 19) (h3 : env[3]? = some (.val (gsD gs))) (h5 : env[5]? = some (.val (rowD row))) :
    compGo ⟨items, [], []⟩ env U_law_4 T_law_4 E_law_4 items [] m = .ok [] (blkS env m) := by
  have := comp_filter (r := ⟨items, [], []⟩) (env := env) (u := U_law_4) (tt := T_law_4) (te := E_law_4) (fun d : D => d) (fun _ => none) (l := items) (m := m) (by simp) (fun d hd => by
    have fl := hall d hd
    have g3 : (env.set 10 (.val d))[3]? = some (.val (gsD gs)) := by rw [List.getElem?_set_ne (by decide)]; exact h3
    have g5 : (env.set 10 (.val d))[5]? = some (.val (rowD row)) := by rw [List.getElem?_set_ne (by decide)]; exact h5
    have g10 : (env.set 10 (.val d))[10]? = some (.val d) := by rw [List.getElem?_set_self (by omega)]
    simp only [gsD, rowD] at fl g3 g5
    simp -implicitDefEqProofs [elemB, U_law_4, T_law_4, E_law_4, g3, g5, g10, fl])
  rw [fm_none] at this
  simpa using this
theorem c_raised {gs : List Gd} {m : List MO} (b : Int) (env : List DL.Slot) (h10 : env.length = 19) (h11 : env[11]? = some (.val (.int b))) :
    compGo ⟨gs.map gD, [], []⟩ env U_law_5 tAll E_law_5 (gs.map gD) [] m = .ok ((gs.map (shG b)).map gD) (blkS env m) := by
  rw [comp_map gD (fun g => gD (shG b g)) (by simp)]
  · rw [List.map_map]; rfl
  · rintro ⟨u, d, s⟩ _
    have g11 : ∀ x, (env.set 16 x)[11]? = some (.val (.int b)) := fun x => by rw [List.getElem?_set_ne (by decide)]; exact h11
    have g16 : ∀ x, (env.set 16 x)[16]? = some x := fun x => by rw [List.getElem?_set_self (by omega)]
    simp -implicitDefEqProofs [elemB, U_law_5, E_law_5, g11, g16, gD, shG]
theorem c_due {RS : List (Wt × Wt)} {m : List MO} (b : Int) (env : List DL.Slot) (h10 : env.length = 19) (h11 : env[11]? = some (.val (.int b))) :
    compGo ⟨RS.map pairD, [], []⟩ env U_law_6 tAll E_law_6 (RS.map pairD) [] m = .ok ((RS.map (shR b)).map pairD) (blkS env m) := by
  rw [comp_map pairD (fun x => pairD (shR b x)) (by simp)]
  · rw [List.map_map]; rfl
  · rintro ⟨x, y⟩ _
    have g11 : ∀ p q, ((env.set 17 p).set 18 q)[11]? = some (.val (.int b)) := fun p q => by rw [List.getElem?_set_ne (by decide), List.getElem?_set_ne (by decide)]; exact h11
    have g17 : ∀ p q, ((env.set 17 p).set 18 q)[17]? = some p := fun p q => by rw [List.getElem?_set_ne (by decide), List.getElem?_set_self (by omega)]
    have g18 : ∀ p q, ((env.set 17 p).set 18 q)[18]? = some q := fun p q => by rw [List.getElem?_set_self (by rw [List.length_set]; omega)]
    have f1 := f_moved2 (m := m) (w := x) (d := wD x) (.inl rfl) b
    have f2 := f_moved2 (m := m) (w := y) (d := wD y) (.inl rfl) b
    simp only [wD] at f1 f2
    simp -implicitDefEqProofs [elemB, U_law_6, E_law_6, g11, g17, g18, pairD, shR, f1, f2]
theorem c_moved {N : Nat} {ds : List D} {ws : List Wt} {m : List MO} (h : asXs N m ds ws) (b : Int) (env : List DL.Slot) (h10 : env.length = 19) (h11 : env[11]? = some (.val (.int b))) :
    compGo ⟨ds, [], []⟩ env U_law_8 tAll E_law_8 ds [] m = .ok ((ws.map (shW b)).map wD) (blkS env m) := by
  have e : ds = (List.range ws.length).map fun i => ds.getD i .non := by
    apply List.ext_getElem?
    intro i
    rw [List.getElem?_map]
    by_cases hi : i < ws.length
    · have hd : i < ds.length := by rw [h.len]; exact hi
      simp [hi, hd]
    · have hd : ds[i]? = none := List.getElem?_eq_none (by rw [h.len]; omega)
      have hr : (List.range ws.length)[i]? = none := List.getElem?_eq_none (by simp; omega)
      simp [hd, hr]
  have := comp_map (r := ⟨ds, [], []⟩) (env := env) (u := U_law_8) (tt := tAll) (te := E_law_8) (fun i : Nat => ds.getD i .non) (fun i => wD (shW b (ws.getD i []))) (l := List.range ws.length) (m := m) (by simp) (fun i hi => by
    have hi : i < ws.length := by simpa using hi
    have fm := f_moved2 (asX_getD h hi).to b
    generalize ds.getD i .non = d at *
    have g11 : ∀ x, (env.set 14 x)[11]? = some (.val (.int b)) := fun x => by rw [List.getElem?_set_ne (by decide)]; exact h11
    have g14 : ∀ x, (env.set 14 x)[14]? = some x := fun x => by rw [List.getElem?_set_self (by omega)]
    simp only [wD] at fm
    simp -implicitDefEqProofs [elemB, U_law_8, E_law_8, g11, g14, fm])
  rw [← e] at this
  rw [this]
  congr 1
  apply List.ext_getElem?
  intro i
  rw [List.getElem?_map, List.getElem?_map, List.getElem?_map]
  by_cases hi : i < ws.length
  · simp [hi]
  · have hd : ws[i]? = none := List.getElem?_eq_none (by omega)
    have hr : (List.range ws.length)[i]? = none := List.getElem?_eq_none (by simp; omega)
    simp [hd, hr]
/-- the last walk: both rounds, moved, let the row be -/
theorem l_law7 {m : List MO} (items : List D) {gs' : List Gd} {row : List (Option Nat)} {b : Int} (x0 x1 x2 x3 x4 x6 x7 x8 x9 x10 x13 : DL.Slot) (lo : Nat)
    (hall : ∀ d ∈ items, ∃ (ds : List D), (d = .lst ds) ∧ ∃ ds', (∀ env : List DL.Slot, env.length = 19 → env[11]? = some (.val (.int b)) → compGo ⟨ds, [], []⟩ env U_law_8 tAll E_law_8 ds [] m = .ok ds' (blkS env m)) ∧ F_lets_be [gsD gs', .lst ds', rowD row] m = .ok (.bl true) m) :
    ∃ y10, forGo ⟨items, [], []⟩ U_law_7 L_law_7 items ⟨[x0, x1, x2, x3, x4, .val (rowD row), x6, x7, x8, x9, x10, .val (.int b), .val (gsD gs'), x13, .no, .no, .no, .no, .no], m, lo⟩ =
      .nx ⟨[x0, x1, x2, x3, x4, .val (rowD row), x6, x7, x8, x9, y10, .val (.int b), .val (gsD gs'), x13, .no, .no, .no, .no, .no], m, lo⟩ := by
  obtain ⟨s', e, y10, rfl⟩ := for_all (r := ⟨items, [], []⟩) (u := U_law_7) (body := L_law_7) (fun d : D => d)
    (fun q s => ∃ y10 : DL.Slot, s = ⟨[x0, x1, x2, x3, x4, .val (rowD row), x6, x7, x8, x9, y10, .val (.int b), .val (gsD gs'), x13, .no, .no, .no, .no, .no], m, lo⟩) items (fun _ _ _ => ok_nil _ _)
    (s := ⟨[x0, x1, x2, x3, x4, .val (rowD row), x6, x7, x8, x9, x10, .val (.int b), .val (gsD gs'), x13, .no, .no, .no, .no, .no], m, lo⟩) (by
      rintro q d q' s hq ⟨y10, rfl⟩
      obtain ⟨ds, rfl, ds', hc, hl⟩ := hall d (by rw [hq]; simp)
      refine ⟨⟨[x0, x1, x2, x3, x4, .val (rowD row), x6, x7, x8, x9, .val (.lst ds), .val (.int b), .val (gsD gs'), x13, .no, .no, .no, .no, .no], m, lo⟩, ?_, _, rfl⟩
      simp only [gsD, rowD] at hl
      simp -implicitDefEqProofs [turnB, U_law_7, L_law_7]
      rw [hc _ (by simp) (by simp)]
      simp -implicitDefEqProofs [hl]) ⟨_, rfl⟩
  simp only [List.map_id'] at e
  exact ⟨y10, e⟩
end Lw

namespace Lw
open PySem PySem.Spec PyProof.Rows L2 DL
theorem f_far {r : Int} (h0 : 0 ≤ r) (h : r < 2) : ∃ far : Int, atI [D.int 3, D.int 20] r = some (.int far) ∧ 0 ≤ far ∧ far ≤ 20 := by
  have : r = 0 ∨ r = 1 := by omega
  rcases this with rfl | rfl
  · exact ⟨3, rfl, by decide, by decide⟩
  · exact ⟨20, rfl, by decide, by decide⟩
theorem f_turn {ns : List Int} {N B : Nat} {dk rest : List MO} (hI : IsDeck N B dk) (hB : B ≤ 500000) (k lo : Nat) (x2 x3 x4 x5 x6 x7 x8 x9 x10 x11 x12 x13 : DL.Slot) :
    ∃ (dk' rest' : List MO) (y2 y3 y4 y5 y6 y7 y8 y9 y10 y11 y12 y13 : DL.Slot), IsDeck N (B + 200) dk' ∧
      turnB U_law_1 L_law_1 (.int (k : Nat)) ⟨[.val (.loc (ns.map D.int)), .val (.ref N), x2, x3, x4, x5, x6, x7, x8, x9, x10, x11, x12, x13, .no, .no, .no, .no, .no], dk ++ rest, lo⟩ =
        .nx ⟨[.val (.loc (ns.map D.int)), .val (.ref N), y2, y3, y4, y5, y6, y7, y8, y9, y10, y11, y12, y13, .no, .no, .no, .no, .no], dk' ++ rest', lo⟩ := by
  obtain ⟨r1, dk1, i1, a1, b1, d1⟩ := f_draw' hI (many := 2) (by decide) (by decide) (by omega) rest
  obtain ⟨far1, hf1, f10, f11⟩ := f_far a1 b1
  obtain ⟨gs, dk2, i2, g1, g4, hg, d2⟩ := f_wares i1 (by omega) f10 (by omega) rest
  obtain ⟨r3, dk3, i3, a3, b3, d3⟩ := f_draw' i2 (many := 2) (by decide) (by decide) (by omega) rest
  obtain ⟨far2, hf2, f20, f21⟩ := f_far a3 b3
  obtain ⟨asks, dk4, i4, l1, l6, ha, d4⟩ := f_asks i3 (by omega) f20 (by omega) g4 rest
  obtain ⟨many, dk5, i5, m1, m300, d5⟩ := f_many i4 (by omega) rest
  have drun := f_run (gs := gs) (asks := asks) rfl g4 ha l1 m300 (dk5 ++ rest)
  have dlists := f_lists (asks := asks) (n := gs.length) g4 (dk5 ++ rest)
  have hw0 : ∀ w ∈ asks.map (roundW gs.length), w.length = gs.length := fun w hw => by
    obtain ⟨a, h1, rfl⟩ := List.mem_map.mp hw
    cases a with
    | none => simp [roundW]
    | some w => exact ha _ h1 w rfl
  have hrow : okRow gs.length (runL gs (asks.map (roundW gs.length)) many) := ⟨by rw [runL_len]; exact m1, by rw [runL_len]; exact m300, fun t ht => runL_lt gs _ hw0 (by rw [List.length_map]; exact l1) many t ht⟩
  have hlets := run_lets gs (asks.map (roundW gs.length)) many
  generalize runL gs (asks.map (roundW gs.length)) many = row at *
  have hok : Ok gs asks.length row := ⟨fun g h => by obtain ⟨h1, h2, h3, h4, h5, h6⟩ := hg g h; exact ⟨h1, h2, h3, h4, by omega, by omega⟩, g1, g4, l1, l6, hrow⟩
  obtain ⟨ds, ws, dk6, j, i6, hx, hwl, hw, hl, d6⟩ := f_second i5 (by omega) hok ha hlets rest
  have hcl : (asks.map (roundW gs.length)).length = asks.length := List.length_map _
  generalize hrs : asks.map (roundW gs.length) = rs at *
  have hseen := seen_okSeen hok.r hok.g4
  have hL0 : 0 < ws.length := by rw [hwl]; exact l1
  -- low and high
  have cl := fun (m : List MO) (h : asXs N m ds ws) (env : List DL.Slot) => c_low h hcl hwl env
  have ch := fun (m : List MO) (h : asXs N m ds ws) (env : List DL.Slot) => c_high h hcl hwl (fun w hm => by rw [hw0 w hm]; exact g4) env
  have l_low := lets_zip lessW (hcl.trans hwl.symm) hL0 hw0 hw (fun a b p t h => CC_less h) hlets hl
  have l_high := lets_zip greatW (hcl.trans hwl.symm) hL0 hw0 hw (fun a b p t h => CC_great h) hlets hl
  have z_low : ∀ w ∈ List.zipWith lessW rs ws, w.length = gs.length := zip_lens (fun a b h1 h2 => by unfold lessW; rw [List.length_zipWith]; omega) hw0 hw
  have z_high : ∀ w ∈ List.zipWith greatW rs ws, w.length = gs.length := zip_lens (fun a b h1 h2 => by unfold greatW; rw [List.length_zipWith]; omega) hw0 hw
  have n_low : (List.zipWith lessW rs ws).length = asks.length := by rw [List.length_zipWith]; omega
  have n_high : (List.zipWith greatW rs ws).length = asks.length := by rw [List.length_zipWith]; omega
  generalize List.zipWith lessW rs ws = LW at *
  generalize List.zipWith greatW rs ws = HW at *
  have flet : ∀ (m : List MO) (ds' : List D) (ws' : List Wt), asXs N m ds' ws' → ws'.length = asks.length → (∀ w ∈ ws', w.length = gs.length) → letsS ws' (seenS gs row) = true → F_lets_be [gsD gs, .lst ds', rowD row] m = .ok (.bl true) m := fun m ds' ws' h1 h2 h3 h4 => by
    have := f_lets (row := row) (gs := gs) (by rw [h2]; exact hok) h1.to (fun w hm => Nat.le_of_eq (h3 w hm))
    rw [h4] at this
    exact this
  have hcheck : ∀ m, asXs N m ds ws → ∀ d ∈ ([.lst (rs.map wD), .lst ds, .lst (LW.map wD), .lst (HW.map wD)] : List D), F_lets_be [gsD gs, d, rowD row] m = .ok (.bl true) m := fun m h d hd => by
    simp only [List.mem_cons, List.not_mem_nil, or_false] at hd
    rcases hd with rfl | rfl | rfl | rfl
    · exact flet m _ rs (asXs_data _ _ _) hcl hw0 hlets
    · exact flet m _ ws h hwl hw hl
    · exact flet m _ LW (asXs_data _ _ _) n_low z_low l_low
    · exact flet m _ HW (asXs_data _ _ _) n_high z_high l_high
  obtain ⟨r7, dk7, i7, a7, b7, d7⟩ := f_draw' i6 (many := 101) (by decide) (by decide) (by omega) (rest ++ j)
  have hx7 : asXs N (dk7 ++ (rest ++ j)) ds ws := hx.ext (ext_deck0 i6.len i7.len)
  -- worths_let
  have res1 := res_ok hseen hL0 hl
  rw [hwl] at res1
  obtain ⟨k1, k2, k3⟩ := res1
  obtain ⟨j8, d8⟩ := f_worths hok (resS gs.length (seenS gs row) asks.length) (fun b hb => by obtain ⟨r, h1, h2, _⟩ := k1 b hb; exact ⟨r, h1, h2⟩) k3 (dk7 ++ (rest ++ j))
  -- the same, moved
  have hok' : Ok (gs.map (shG (r7 - 50))) asks.length row := ⟨fun g h => by
      obtain ⟨g0, h0, rfl⟩ := List.mem_map.mp h
      obtain ⟨h1, h2, h3, h4, h5, h6⟩ := hg g0 h0
      exact ⟨h1, h2, h3, h4, by show -99 ≤ g0.2.2 + (r7 - 50); omega, by show g0.2.2 + (r7 - 50) ≤ 99; omega⟩, by rw [List.length_map]; exact g1, by rw [List.length_map]; exact g4, l1, l6, by rw [List.length_map]; exact hrow⟩
  have hseen' : seenS (gs.map (shG (r7 - 50))) row = (seenS gs row).map (shS (r7 - 50)) := seenS_sh _ _ _
  have rsh := res_sh (r7 - 50) hseen (L := asks.length) (by omega) (fun c hc => by obtain ⟨r, h1, _⟩ := k1 c hc; rw [h1]; rfl)
  obtain ⟨j9, d9⟩ := f_worths hok' ((resS gs.length (seenS gs row) asks.length).map (shR (r7 - 50))) (fun b hb => by
    obtain ⟨r, h1, h2, _⟩ := k1 b hb
    refine ⟨shR (r7 - 50) r, ?_, by rw [List.getElem?_map, h2]; rfl⟩
    rw [List.length_map, hseen', day_sh _ hseen (by omega), h1]; rfl) (by rw [List.length_map, k3]) (dk7 ++ (rest ++ j) ++ j8)
  have hx9 : asXs N (dk7 ++ (rest ++ j) ++ j8 ++ j9) ds ws := hx7.ext fun n x hn e => by
    rw [List.append_assoc, List.getElem?_append_left (List.getElem?_eq_some_iff.mp e).1]; exact e
  have flet' : ∀ (m : List MO) (ws' : List Wt), ws'.length = asks.length → (∀ w ∈ ws', w.length = gs.length) → letsS ws' (seenS gs row) = true → F_lets_be [gsD (gs.map (shG (r7 - 50))), .lst ((ws'.map (shW (r7 - 50))).map wD), rowD row] m = .ok (.bl true) m := fun m ws' h2 h3 h4 => by
    have := f_lets (row := row) (gs := gs.map (shG (r7 - 50))) (m := m) (ds := (ws'.map (shW (r7 - 50))).map wD) (ws := ws'.map (shW (r7 - 50))) (by rw [List.length_map, h2]; exact hok') (asXs_data N m _).to (fun w hm => by
      obtain ⟨w0, hm0, rfl⟩ := List.mem_map.mp hm
      unfold shW
      rw [List.length_map, List.length_map, h3 w0 hm0]; exact Nat.le_refl _)
    rw [hseen', lets_sh _ hseen.p h3 (by omega) h4] at this
    exact this
  have hlast : ∀ d ∈ ([.lst (LW.map wD), .lst ds] : List D), ∃ (ds1 : List D), (d = .lst ds1) ∧ ∃ ds', (∀ env : List DL.Slot, env.length = 19 → env[11]? = some (.val (.int (r7 - 50))) → compGo ⟨ds1, [], []⟩ env U_law_8 tAll E_law_8 ds1 [] (dk7 ++ (rest ++ j) ++ j8 ++ j9) = .ok ds' (blkS env (dk7 ++ (rest ++ j) ++ j8 ++ j9))) ∧ F_lets_be [gsD (gs.map (shG (r7 - 50))), .lst ds', rowD row] (dk7 ++ (rest ++ j) ++ j8 ++ j9) = .ok (.bl true) (dk7 ++ (rest ++ j) ++ j8 ++ j9) := fun d hd => by
    simp only [List.mem_cons, List.not_mem_nil, or_false] at hd
    rcases hd with rfl | rfl
    · exact ⟨_, rfl, _, fun env h1 h2 => c_moved (asXs_data N _ LW) (r7 - 50) env h1 h2, flet' _ LW n_low z_low l_low⟩
    · exact ⟨_, rfl, _, fun env h1 h2 => c_moved hx9 (r7 - 50) env h1 h2, flet' _ ws hwl hw hl⟩
  generalize resS gs.length (seenS gs row) asks.length = RS at *
  obtain ⟨y10, last⟩ := l_law7 (m := dk7 ++ (rest ++ j) ++ j8 ++ j9) [.lst (LW.map wD), .lst ds] (.val (.loc (ns.map D.int))) (.val (.ref N)) (.val (.int (k : Nat))) (.val (gsD gs)) (.val (.lst (asks.map askD))) (.val (.lst (rs.map wD))) (.val (.lst ds)) (.val (.lst (LW.map wD))) (.val (.lst (HW.map wD))) x10 (.val (.lst ((RS.map (shR (r7 - 50))).map pairD))) lo hlast
  refine ⟨dk7, rest ++ j ++ j8 ++ j9, .val (.int (k : Nat)), .val (gsD gs), .val (.lst (asks.map askD)), .val (rowD row), .val (.lst (rs.map wD)), .val (.lst ds), .val (.lst (LW.map wD)), .val (.lst (HW.map wD)), y10, .val (.int (r7 - 50)), .val (gsD (gs.map (shG (r7 - 50)))), .val (.lst ((RS.map (shR (r7 - 50))).map pairD)), i7.mono (by omega), ?_⟩
  have cl' := cl _ hx
  have ch' := ch _ hx
  have ck := fun env => c_check (gs := gs) (row := row) [.lst (rs.map wD), .lst ds, .lst (LW.map wD), .lst (HW.map wD)] (hcheck _ hx) env
  have cr := fun env => c_raised (gs := gs) (m := dk7 ++ (rest ++ j)) (r7 - 50) env
  have cd := fun env => c_due (RS := RS) (m := dk7 ++ (rest ++ j) ++ j8) (r7 - 50) env
  have ep := fun s => eq_pairs true (RS.map (shR (r7 - 50))) s
  have en := fun s => eq_nil true s
  rw [show dk7 ++ (rest ++ j ++ j8 ++ j9) = dk7 ++ (rest ++ j) ++ j8 ++ j9 by simp]
  generalize dk7 ++ (rest ++ j) ++ j8 ++ j9 = M9 at *
  generalize dk7 ++ (rest ++ j) ++ j8 = M8 at *
  generalize dk7 ++ (rest ++ j) = M7 at *
  generalize dk6 ++ (rest ++ j) = M6 at *
  generalize dk5 ++ rest = M5 at *
  generalize dk4 ++ rest = M4 at *
  generalize dk3 ++ rest = M3 at *
  generalize dk2 ++ rest = M2 at *
  generalize dk1 ++ rest = M1 at *
  generalize dk ++ rest = M0 at *
  generalize hb : r7 - 50 = b at *
  clear hlast flet' hx9 hok' hseen' rsh k1 k2 k3 hcheck flet l_low l_high z_low z_high cl ch hseen hok hrow
  simp only [gsD, rowD] at d2 d6 d8 d9 drun ck last
  simp -implicitDefEqProofs [turnB, U_law_1, L_law_1, d1, hf1, d2, d3, hf2, d4, d5, drun, dlists, d6]
  rw [cl' _ (by simp)]
  simp -implicitDefEqProofs
  rw [ch' _ (by simp)]
  simp -implicitDefEqProofs
  rw [ck _ (by simp) (by simp) (by simp)]
  simp -implicitDefEqProofs [en, d7, hb]
  rw [cr _ (by simp) (by simp)]
  simp -implicitDefEqProofs [d8]
  rw [cd _ (by simp) (by simp)]
  simp only [List.map_map] at d9 ep last
  simp -implicitDefEqProofs [d9, ep]
  rw [last]
theorem law_true (ns : List Int) (h : ns.length ≤ 63) : ∃ m, F_law [.loc (ns.map D.int)] [] = .ok (.bl true) m := by
  obtain ⟨N, dk, hI, hd⟩ := f_deck ns h
  have e0 : ∀ s : DL.S, rng1 [.d (.int 4)] s = .ok ⟨(List.range 4).map fun i => D.int (i : Nat), [], []⟩ s := fun s => rng1_nat (n := 4) (by omega) s
  obtain ⟨s', e, dk', rest', y2, y3, y4, y5, y6, y7, y8, y9, y10, y11, y12, y13, hI', rfl⟩ := for_all (r := ⟨(List.range 4).map fun i => D.int (i : Nat), [], []⟩) (u := U_law_1) (body := L_law_1) (fun i : Nat => D.int (i : Nat))
    (fun q s => ∃ (dk' rest' : List MO) (y2 y3 y4 y5 y6 y7 y8 y9 y10 y11 y12 y13 : DL.Slot), IsDeck N (3000 + 200 * q.length) dk' ∧
      s = ⟨[.val (.loc (ns.map D.int)), .val (.ref N), y2, y3, y4, y5, y6, y7, y8, y9, y10, y11, y12, y13, .no, .no, .no, .no, .no], dk' ++ rest', 0⟩) (List.range 4) (fun _ _ _ => ok_nil _ _)
    (s := ⟨[.val (.loc (ns.map D.int)), .val (.ref N), .no, .no, .no, .no, .no, .no, .no, .no, .no, .no, .no, .no, .no, .no, .no, .no, .no], dk, 0⟩) (by
      rintro q k q' s hq ⟨dk', rest', y2, y3, y4, y5, y6, y7, y8, y9, y10, y11, y12, y13, hI', rfl⟩
      have hq4 : q.length < 4 := by
        have := congrArg List.length hq
        simp at this
        omega
      obtain ⟨dk2, rest2, z2, z3, z4, z5, z6, z7, z8, z9, z10, z11, z12, z13, hI2, e⟩ := f_turn (ns := ns) (rest := rest') hI' (by omega) k 0 y2 y3 y4 y5 y6 y7 y8 y9 y10 y11 y12 y13
      exact ⟨_, e, dk2, rest2, z2, z3, z4, z5, z6, z7, z8, z9, z10, z11, z12, z13, hI2.mono (by simp; omega), rfl⟩)
    ⟨dk, [], .no, .no, .no, .no, .no, .no, .no, .no, .no, .no, .no, .no, hI, by simp⟩
  refine ⟨dk' ++ rest', ?_⟩
  simp -implicitDefEqProofs [F_law, B_law, hd, e0]
  rw [e]
  simp
end Lw

open PySem PySem.W PyProof.Rows
set_option maxHeartbeats 0 in
theorem PySem.Challenge.cw_soldrises_k59_whole_two_rounds_one_row_holds : PySem.Challenge.rw_soldrises_k59_whole_two_rounds_one_row.Holds := by
  w_on; o_law; k_head; (case hw => w_witness2)
  k_fill
  refine L2.walk_of (l := PySem.Challenge.rw_soldrises_k59_whole_two_rounds_one_row) (n := 63) (k := 7) (x := "script") (CX := fun w => L2.CX (PySem.Challenge.rw_soldrises_k59_whole_two_rounds_one_row).prog w) (sp := fun w => DL.spLaw _) rfl (by decide) rfl ⟨rfl, by decide, by decide⟩ (fun w h Y => PySem.W.kIn_of Y) ?F (fun _ _ a ns hl ho hS => ⟨a, ns, rfl, hS, hl, ho, fun _ => rfl⟩) (fun _ _ _ _ _ h => DL.cx_no h)
  case F =>
    intro w mg fa h KX G hmg
    refine' Lw.all_mk KX G hmg ?a1 ?l1 ?c1 ?k1 ?a2 ?l2 ?c2 ?k2 ?a3 ?l3 ?c3 ?k3 ?a4 ?l4 ?c4 ?k4 ?a5 ?l5 ?c5 ?k5 ?a6 ?l6 ?c6 ?k6 ?a7 ?l7 ?c7 ?k7 ?a8 ?l8 ?c8 ?k8 ?a9 ?l9 ?c9 ?k9 ?a10 ?l10 ?c10 ?k10 ?a11 ?l11 ?c11 ?k11 ?a12 ?l12 ?c12 ?k12 ?a13 ?l13 ?c13 ?k13 ?a14 ?l14 ?c14 ?k14 ?a15 ?l15 ?c15 ?k15 ?t15 ?a16 ?l16 ?c16 ?k16 ?a17 ?l17 ?c17 ?k17 ?a18 ?l18 ?c18 ?k18 ?a19 ?l19 ?c19 ?k19 ?a20 ?l20 ?c20 ?k20 ?a21 ?l21 ?c21 ?k21 ?a22 ?l22 ?c22 ?k22 ?a23 ?l23 ?c23 ?k23 ?a24 ?l24 ?c24 ?k24 ?a25 ?l25 ?c25 ?k25 ?a26 ?l26 ?c26 ?k26 ?a27 ?l27 ?c27 ?k27 ?a28 ?l28 ?c28 ?k28 ?a29 ?l29 ?c29 ?k29 ?a30 ?l30 ?c30 ?k30 ?a31 ?l31 ?c31 ?k31 ?a32 ?l32 ?c32 ?k32 ?z_all ?z_bool ?z_enumerate ?z_int ?z_isinstance ?z_len ?z_list ?z_max ?z_min ?z_range ?z_tuple ?z_zip ?z_MOST_GOODS ?z_MOST_LENGTH ?z_MOST_STEP ?z_MOST_TAKES ?z_MOST_WORTH Lw.law_true
    (case a1 => k_is); (case l1 => k_is); (case c1 => k_is); (case k1 => k_is); (case a2 => k_is); (case l2 => k_is); (case c2 => k_is); (case k2 => k_is); (case a3 => k_is); (case l3 => k_is); (case c3 => k_is); (case k3 => k_is); (case a4 => k_is); (case l4 => k_is); (case c4 => k_is); (case k4 => k_is); (case a5 => k_is); (case l5 => k_is); (case c5 => k_is); (case k5 => k_is); (case a6 => k_is); (case l6 => k_is); (case c6 => k_is); (case k6 => k_is); (case a7 => k_is); (case l7 => k_is); (case c7 => k_is); (case k7 => k_is); (case a8 => k_is); (case l8 => k_is); (case c8 => k_is); (case k8 => k_is); (case a9 => k_is); (case l9 => k_is); (case c9 => k_is); (case k9 => k_is); (case a10 => k_is); (case l10 => k_is); (case c10 => k_is); (case k10 => k_is); (case a11 => k_is); (case l11 => k_is); (case c11 => k_is); (case k11 => k_is); (case a12 => k_is); (case l12 => k_is); (case c12 => k_is); (case k12 => k_is); (case a13 => k_is); (case l13 => k_is); (case c13 => k_is); (case k13 => k_is); (case a14 => k_is); (case l14 => k_is); (case c14 => k_is); (case k14 => k_is); (case a15 => k_is); (case l15 => k_is); (case c15 => k_is); (case k15 => k_is); (case t15 => k_is); (case a16 => k_is); (case l16 => k_is); (case c16 => k_is); (case k16 => k_is); (case a17 => k_is); (case l17 => k_is); (case c17 => k_is); (case k17 => k_is); (case a18 => k_is); (case l18 => k_is); (case c18 => k_is); (case k18 => k_is); (case a19 => k_is); (case l19 => k_is); (case c19 => k_is); (case k19 => k_is); (case a20 => k_is); (case l20 => k_is); (case c20 => k_is); (case k20 => k_is); (case a21 => k_is); (case l21 => k_is); (case c21 => k_is); (case k21 => k_is); (case a22 => k_is); (case l22 => k_is); (case c22 => k_is); (case k22 => k_is); (case a23 => k_is); (case l23 => k_is); (case c23 => k_is); (case k23 => k_is); (case a24 => k_is); (case l24 => k_is); (case c24 => k_is); (case k24 => k_is); (case a25 => k_is); (case l25 => k_is); (case c25 => k_is); (case k25 => k_is); (case a26 => k_is); (case l26 => k_is); (case c26 => k_is); (case k26 => k_is); (case a27 => k_is); (case l27 => k_is); (case c27 => k_is); (case k27 => k_is); (case a28 => k_is); (case l28 => k_is); (case c28 => k_is); (case k28 => k_is); (case a29 => k_is); (case l29 => k_is); (case c29 => k_is); (case k29 => k_is); (case a30 => k_is); (case l30 => k_is); (case c30 => k_is); (case k30 => k_is); (case a31 => k_is); (case l31 => k_is); (case c31 => k_is); (case k31 => k_is); (case a32 => k_is); (case l32 => k_is); (case c32 => k_is); (case k32 => k_is); (case z_all => k_is); (case z_bool => k_is); (case z_enumerate => k_is); (case z_int => k_is); (case z_isinstance => k_is); (case z_len => k_is); (case z_list => k_is); (case z_max => k_is); (case z_min => k_is); (case z_range => k_is); (case z_tuple => k_is); (case z_zip => k_is); (case z_MOST_GOODS => k_is); (case z_MOST_LENGTH => k_is); (case z_MOST_STEP => k_is); (case z_MOST_TAKES => k_is); (case z_MOST_WORTH => k_is)
