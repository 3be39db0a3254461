import PyProof.Rows.All
import Wide.All
import OpenK.AllK
import Wide.FinOn
import HandS.ForMost
import HandS.Wide
import KE.SortData
import HandS.IsInst
import HandS.Style
import HandS.Deep
import HandS.Zip
import KE.GoesEnum
import KE.GoesNew
import PySem.Challenge.RW_neverturns_k86_sayings_and_their_truths
set_option Elab.async false
set_option linter.all false
set_option maxRecDepth 100000
set_option maxHeartbeats 1000000
set_option autoImplicit false
/-! Data: what a value is, without addresses; an abstract world bears it. -/
namespace NT
open PySem PySem.Spec PyProof.Rows L2

/-- data. mut i: the i-th thing that may change; scr: the law's script -/
inductive D where
  | non | bl (b : Bool) | int (i : Int) | str (x : Str) | tup (l : List D) | lst (l : List D) | dct (l : List (D × D)) | mut (i : Nat) | scr (ns : List Int)
  deriving Inhabited

/-- a world: what is frozen, the tracked heap, where the things that may change stand -/
structure Wr where
  F : Addr → Prop
  H : Hp
  ι : List Addr

def AtT (K : PySem.W.Frag) (W : Wr) (a : Addr) (vs : List V) : Prop := (W.F a ∧ W.H a = some (.tup vs)) ∨ SqT K (fun _ => none) a vs

/-- the script: tracked, or a list of the module -/
def AtS (K : PySem.W.Frag) (W : Wr) (a : Addr) (ns : List Int) : Prop := (W.F a ∧ Rd W.H a (.lst (ns.map V.int))) ∨ SqL K (fun _ => none) a (ns.map V.int)

mutual
inductive Rep (K : PySem.W.Frag) (W : Wr) : D → V → Prop
  | non : Rep K W .non .non
  | bl (b : Bool) : Rep K W (.bl b) (.bl b)
  | int (i : Int) : Rep K W (.int i) (.int i)
  | str (x : Str) : x.length ≤ 16777216 → Rep K W (.str x) (.str x)
  | tup {a : Addr} {vs : List V} {ds : List D} : AtT K W a vs → RepL K W ds vs → Rep K W (.tup ds) (.ref a)
  | lst {a : Addr} {vs : List V} {ds : List D} : W.F a → W.H a = some (.lst vs) → RepL K W ds vs → Rep K W (.lst ds) (.ref a)
  | dct0 {a : Addr} : W.F a → W.H a = some (.dK []) → Rep K W (.dct []) (.ref a)
  | mut {a : Addr} {i : Nat} : W.ι[i]? = some a → Rep K W (.mut i) (.ref a)
  | scr {a : Addr} {ns : List Int} : AtS K W a ns → Rep K W (.scr ns) (.ref a)
inductive RepL (K : PySem.W.Frag) (W : Wr) : List D → List V → Prop
  | nil : RepL K W [] []
  | cons {d : D} {v : V} {ds : List D} {vs : List V} : Rep K W d v → RepL K W ds vs → RepL K W (d :: ds) (v :: vs)
end

structure Wok (W : Wr) : Prop where
  f : ∀ a, W.F a → ∃ o, W.H a = some o
  i : ∀ a, a ∈ W.ι → ¬ W.F a ∧ ∃ xs, W.H a = some (.lst xs)
  nd : W.ι.Nodup
  z : ∀ (a : Addr) (vs : List V), W.H a = some (.lst vs) ∨ W.H a = some (.tup vs) → vs.length ≤ 16777216
/-- a step: what was tracked stays but for what may change; only new things are frozen or made changeable -/
structure Stp (W W' : Wr) : Prop where
  f : ∀ a, W.F a → W'.F a
  h : ∀ a o, W.H a = some o → a ∉ W.ι → W'.H a = some o
  g : ∀ a, W'.F a → W.F a ∨ W.H a = none
  p : ∃ r, W'.ι = W.ι ++ r ∧ ∀ a ∈ r, W.H a = none

section
variable {K : PySem.W.Frag} {W W' W'' : Wr}
theorem Stp.refl : Stp W W := ⟨fun _ h => h, fun _ _ h _ => h, fun _ h => .inl h, [], by simp, fun _ h => by cases h⟩
theorem Stp.track (s : Stp W W') (ok' : Wok W') {a : Addr} {o : HO} (h : W.H a = some o) : ∃ o', W'.H a = some o' := by
  by_cases hi : a ∈ W.ι
  · obtain ⟨r, e, _⟩ := s.p
    obtain ⟨_, xs, hx⟩ := ok'.i a (by rw [e]; exact List.mem_append_left _ hi)
    exact ⟨_, hx⟩
  · exact ⟨o, s.h a o h hi⟩
theorem Stp.free (s : Stp W W') (ok' : Wok W') {a : Addr} (h : W'.H a = none) : W.H a = none := by
  cases e : W.H a with
  | none => rfl
  | some o =>
    obtain ⟨o', h'⟩ := s.track ok' e
    rw [h'] at h; cases h
theorem Stp.trans (s : Stp W W') (ok' : Wok W') (t : Stp W' W'') : Stp W W'' where
  f := fun a h => t.f a (s.f a h)
  h := fun a o h hi => by
    refine t.h a o (s.h a o h hi) fun hi' => ?_
    obtain ⟨r, e, hr⟩ := s.p
    rw [e] at hi'
    rcases List.mem_append.mp hi' with z | z
    · exact hi z
    · rw [hr a z] at h; cases h
  g := fun a h => by
    rcases t.g a h with z | z
    · exact s.g a z
    · exact .inr (s.free ok' z)
  p := by
    obtain ⟨r, e, hr⟩ := s.p
    obtain ⟨r', e', hr'⟩ := t.p
    refine ⟨r ++ r', by rw [e', e, List.append_assoc], fun a ha => ?_⟩
    rcases List.mem_append.mp ha with z | z
    · exact hr a z
    · exact s.free ok' (hr' a z)
theorem Wok.nofi (ok : Wok W) {a : Addr} (h : W.F a) : a ∉ W.ι := fun hi => (ok.i a hi).1 h
theorem Stp.keepF (s : Stp W W') (ok : Wok W) {a : Addr} {o : HO} (hf : W.F a) (h : W.H a = some o) : W'.H a = some o := s.h a o h (ok.nofi hf)
theorem Stp.iget (s : Stp W W') {i : Nat} {a : Addr} (h : W.ι[i]? = some a) : W'.ι[i]? = some a := by
  obtain ⟨r, e, _⟩ := s.p
  rw [e, List.getElem?_append_left (List.getElem?_eq_some_iff.mp h).1]
  exact h
theorem AtT.mono (s : Stp W W') (ok : Wok W) {a : Addr} {vs : List V} (h : AtT K W a vs) : AtT K W' a vs := by
  rcases h with ⟨h1, h2⟩ | h
  · exact .inl ⟨s.f a h1, s.keepF ok h1 h2⟩
  · exact .inr h
theorem Rd.monoF (s : Stp W W') (ok : Wok W) {a : Addr} {o : HO} (hf : W.F a) (h : Rd W.H a o) : Rd W'.H a o := by
  rcases h with h | ⟨ob, h⟩
  · exact .inl (s.keepF ok hf h)
  · exact .inr ⟨ob, s.keepF ok hf h⟩
mutual
theorem Rep.mono (s : Stp W W') (ok : Wok W) : ∀ (d : D) (v : V), Rep K W d v → Rep K W' d v
  | _, _, .non => .non
  | _, _, .bl b => .bl b
  | _, _, .int i => .int i
  | _, _, .str x hx => .str x hx
  | _, _, .tup h r => .tup (h.mono s ok) (RepL.mono s ok _ _ r)
  | _, _, .lst h1 h2 r => .lst (s.f _ h1) (s.keepF ok h1 h2) (RepL.mono s ok _ _ r)
  | _, _, .dct0 h1 h2 => .dct0 (s.f _ h1) (s.keepF ok h1 h2)
  | _, _, .mut h => .mut (s.iget h)
  | _, _, .scr h => .scr (h.elim (fun z => .inl ⟨s.f _ z.1, Rd.monoF s ok z.1 z.2⟩) .inr)
theorem RepL.mono (s : Stp W W') (ok : Wok W) : ∀ (ds : List D) (vs : List V), RepL K W ds vs → RepL K W' ds vs
  | _, _, .nil => .nil
  | _, _, .cons h r => .cons (Rep.mono s ok _ _ h) (RepL.mono s ok _ _ r)
end
theorem RepL.length : ∀ {ds : List D} {vs : List V}, RepL K W ds vs → ds.length = vs.length
  | _, _, .nil => rfl
  | _, _, .cons _ r => by simp [RepL.length r]
theorem RepL.get : ∀ {ds : List D} {vs : List V} {i : Nat} {d : D}, RepL K W ds vs → ds[i]? = some d → ∃ v, vs[i]? = some v ∧ Rep K W d v
  | _, _, _, _, .nil, e => by simp at e
  | _, _, 0, _, .cons h _, e => by simp at e; subst e; exact ⟨_, rfl, h⟩
  | _, _, i + 1, d, .cons _ r, e => by
    obtain ⟨v, h1, h2⟩ := RepL.get (i := i) (d := d) r (by simpa using e)
    exact ⟨v, by simpa using h1, h2⟩
theorem RepL.append : ∀ {ds es : List D} {vs us : List V}, RepL K W ds vs → RepL K W es us → RepL K W (ds ++ es) (vs ++ us)
  | _, _, _, _, .nil, q => q
  | _, _, _, _, .cons h r, q => .cons h (RepL.append r q)
theorem RepL.take : ∀ {ds : List D} {vs : List V} (n : Nat), RepL K W ds vs → RepL K W (ds.take n) (vs.take n)
  | _, _, 0, _ => .nil
  | _, _, _ + 1, .nil => .nil
  | _, _, n + 1, .cons h r => .cons h (RepL.take n r)
theorem RepL.drop : ∀ {ds : List D} {vs : List V} (n : Nat), RepL K W ds vs → RepL K W (ds.drop n) (vs.drop n)
  | _, _, 0, r => r
  | _, _, _ + 1, .nil => .nil
  | _, _, n + 1, .cons _ r => RepL.drop n r
theorem RepL.set : ∀ {ds : List D} {vs : List V} {d : D} {v : V} (i : Nat), Rep K W d v → RepL K W ds vs → RepL K W (ds.set i d) (vs.set i v)
  | _, _, _, _, _, _, .nil => .nil
  | _, _, _, _, 0, h, .cons _ r => .cons h r
  | _, _, _, _, i + 1, h, .cons q r => .cons q (RepL.set i h r)
theorem RepL.eraseIdx : ∀ {ds : List D} {vs : List V} (i : Nat), RepL K W ds vs → RepL K W (ds.eraseIdx i) (vs.eraseIdx i)
  | _, _, _, .nil => .nil
  | _, _, 0, .cons _ r => r
  | _, _, i + 1, .cons h r => .cons h (RepL.eraseIdx i r)

/-- what may change: its items are data -/
abbrev Mu := List (List D)
structure MuOk (K : PySem.W.Frag) (W : Wr) (μ : Mu) : Prop where
  len : μ.length = W.ι.length
  at_ : ∀ (i : Nat) (l : List D), μ[i]? = some l → ∃ a vs, W.ι[i]? = some a ∧ W.H a = some (.lst vs) ∧ RepL K W l vs

/-- a slot: nothing, data, a list of one's own -/
inductive Slot where
  | no | ok (d : D) | own (l : List D)
  deriving Inhabited
abbrev Slots := List Slot
def SlOk (K : PySem.W.Frag) (W : Wr) : Slot → Option V → Prop
  | .no, _ => True
  | .ok d, o => ∃ v, o = some v ∧ Rep K W d v
  | .own l, o => ∃ p vs, o = some (.ref p) ∧ ¬ W.F p ∧ p ∉ W.ι ∧ W.H p = some (.lst vs) ∧ RepL K W l vs
structure GOk (K : PySem.W.Frag) (W : Wr) (g : Slots) (σ : L2.St) : Prop where
  len : g.length = σ.length
  at_ : ∀ (i : Nat) (s : Slot) (o : Option V), g[i]? = some s → σ[i]? = some o → SlOk K W s o
  apart : ∀ (i j : Nat) (l l' : List D) (p : Addr), g[i]? = some (.own l) → g[j]? = some (.own l') → σ[i]? = some (some (.ref p)) → σ[j]? = some (some (.ref p)) → i = j
theorem SlOk.mono (s : Stp W W') (ok : Wok W) : ∀ {x : Slot} {o : Option V}, SlOk K W x o → SlOk K W' x o
  | .no, _, _ => trivial
  | .ok d, _, ⟨v, e, h⟩ => ⟨v, e, Rep.mono s ok _ _ h⟩
  | .own l, _, ⟨p, vs, e, nf, ni, h, r⟩ => by
    refine ⟨p, vs, e, fun z => ?_, fun z => ?_, s.h p _ h ni, RepL.mono s ok _ _ r⟩
    · rcases s.g p z with z | z
      · exact nf z
      · rw [z] at h; cases h
    · obtain ⟨r', e', hr⟩ := s.p
      rw [e'] at z
      rcases List.mem_append.mp z with z | z
      · exact ni z
      · rw [hr p z] at h; cases h
theorem GOk.mono (s : Stp W W') (ok : Wok W) {g : Slots} {σ : L2.St} (h : GOk K W g σ) : GOk K W' g σ :=
  ⟨h.len, fun i x o e1 e2 => (h.at_ i x o e1 e2).mono s ok, h.apart⟩

/-- how a value is held: as data, as a new list, as the list of one's own in a slot -/
inductive Kd where
  | pl | fr | bo (i : Nat)
  deriving DecidableEq, Inhabited
def VR (K : PySem.W.Frag) (W W' : Wr) (g : Slots) (σ : L2.St) (d : D) : Kd → V → Prop
  | .pl, v => Rep K W' d v
  | .fr, v => ∃ p vs l, d = .lst l ∧ v = .ref p ∧ W.H p = none ∧ ¬ W'.F p ∧ p ∉ W'.ι ∧ W'.H p = some (.lst vs) ∧ RepL K W' l vs
  | .bo i, v => ∃ l, d = .lst l ∧ g[i]? = some (.own l) ∧ σ[i]? = some (some v)
theorem VR.mono {g : Slots} {σ : L2.St} {d : D} {v : V} (t : Stp W' W'') (ok' : Wok W') : ∀ {k : Kd}, VR K W W' g σ d k v → VR K W W'' g σ d k v
  | .pl, h => Rep.mono t ok' _ _ h
  | .fr, ⟨p, vs, l, e, ev, n, nf, ni, h, r⟩ => by
    refine ⟨p, vs, l, e, ev, n, fun z => ?_, fun z => ?_, t.h p _ h ni, RepL.mono t ok' _ _ r⟩
    · rcases t.g p z with z | z
      · exact nf z
      · rw [z] at h; cases h
    · obtain ⟨r', e', hr⟩ := t.p
      rw [e'] at z
      rcases List.mem_append.mp z with z | z
      · exact ni z
      · rw [hr p z] at h; cases h
  | .bo i, h => h

/-- freezing one more address -/
def Wr.frz (W : Wr) (p : Addr) : Wr := { W with F := fun a => W.F a ∨ a = p }
theorem stp_frz (s : Stp W W') {p : Addr} (hn : W.H p = none) : Stp W (W'.frz p) :=
  ⟨fun a h => .inl (s.f a h), s.h, fun a h => by
    rcases h with h | h
    · exact s.g a h
    · subst h; exact .inr hn, s.p⟩
theorem wok_frz (ok : Wok W) {p : Addr} {o : HO} (h : W.H p = some o) (ni : p ∉ W.ι) : Wok (W.frz p) :=
  ⟨fun a z => by
    rcases z with z | z
    · exact ok.f a z
    · subst z; exact ⟨o, h⟩, fun a z => ⟨fun q => by
      rcases q with q | q
      · exact (ok.i a z).1 q
      · subst q; exact ni z, (ok.i a z).2⟩, ok.nd, ok.z⟩
mutual
theorem Rep.frz (p : Addr) : ∀ (d : D) (v : V), Rep K W d v → Rep K (W.frz p) d v
  | _, _, .non => .non
  | _, _, .bl b => .bl b
  | _, _, .int i => .int i
  | _, _, .str x hx => .str x hx
  | _, _, .tup h r => .tup (h.elim (fun z => .inl ⟨.inl z.1, z.2⟩) .inr) (RepL.frz p _ _ r)
  | _, _, .lst h1 h2 r => .lst (.inl h1) h2 (RepL.frz p _ _ r)
  | _, _, .dct0 h1 h2 => .dct0 (.inl h1) h2
  | _, _, .mut h => .mut h
  | _, _, .scr h => .scr (h.elim (fun z => .inl ⟨.inl z.1, z.2⟩) .inr)
theorem RepL.frz (p : Addr) : ∀ (ds : List D) (vs : List V), RepL K W ds vs → RepL K (W.frz p) ds vs
  | _, _, .nil => .nil
  | _, _, .cons h r => .cons (Rep.frz p _ _ h) (RepL.frz p _ _ r)
end
theorem MuOk.frz {μ : Mu} (h : MuOk K W μ) (p : Addr) : MuOk K (W.frz p) μ :=
  ⟨h.len, fun i l e => let ⟨a, vs, h1, h2, h3⟩ := h.at_ i l e; ⟨a, vs, h1, h2, RepL.frz p _ _ h3⟩⟩
/-- what a fresh value's world looks like once it is frozen -/
structure PlW (K : PySem.W.Frag) (W W' W2 : Wr) (g : Slots) (σ : L2.St) (μ : Mu) (d : D) (v : V) : Prop where
  h : W2.H = W'.H
  i : W2.ι = W'.ι
  s : Stp W W2
  ok : Wok W2
  mu : MuOk K W2 μ
  g : GOk K W2 g σ
  r : Rep K W2 d v
theorem VR.plain {g : Slots} {σ : L2.St} {d : D} {v : V} {μ : Mu} (s : Stp W W') (ok : Wok W) (ok' : Wok W') (mu : MuOk K W' μ) (gok : GOk K W g σ) : ∀ {k : Kd}, (∀ i, k ≠ .bo i) → VR K W W' g σ d k v → ∃ W2, PlW K W W' W2 g σ μ d v
  | .pl, _, h => ⟨W', rfl, rfl, s, ok', mu, gok.mono s ok, h⟩
  | .fr, _, ⟨p, vs, l, e, ev, n, nf, ni, h, r⟩ => by
    subst e ev
    refine ⟨W'.frz p, rfl, rfl, stp_frz s n, wok_frz ok' h ni, mu.frz p, ?_, .lst (.inr rfl) h (RepL.frz p _ _ r)⟩
    exact gok.mono (stp_frz s n) ok
  | .bo i, hb, _ => absurd rfl (hb i)
end
end NT

set_option Elab.async false
set_option linter.all false
set_option maxRecDepth 100000
set_option maxHeartbeats 1000000
set_option autoImplicit false
/-! A small language of its own over data, and what it computes. -/
namespace NT
open PySem PySem.Spec PyProof.Rows L2

/-- an end: a value, an error (its class, what it keeps), or no word -/
inductive RE (α : Type) where
  | ok (a : α) (μ : Mu)
  | ex (c : Nat) (fs : List D) (μ : Mu)
  | no
def RE.bind {α β : Type} : RE α → (α → Mu → RE β) → RE β
  | .ok a μ, f => f a μ
  | .ex c fs μ, _ => .ex c fs μ
  | .no, _ => .no
@[simp] theorem RE.ok_bind {α β : Type} (a : α) (μ : Mu) (f : α → Mu → RE β) : (RE.ok a μ).bind f = f a μ := rfl
@[simp] theorem RE.ex_bind {α β : Type} (c : Nat) (fs : List D) (μ : Mu) (f : α → Mu → RE β) : (RE.ex c fs μ).bind f = .ex c fs μ := rfl
@[simp] theorem RE.no_bind {α β : Type} (f : α → Mu → RE β) : (RE.no : RE α).bind f = .no := rfl
def RE.of {α : Type} (o : Option α) (μ : Mu) : RE α := match o with | some a => .ok a μ | none => .no
@[simp] theorem RE.of_some {α : Type} (a : α) (μ : Mu) : RE.of (some a) μ = .ok a μ := rfl
@[simp] theorem RE.of_none {α : Type} (μ : Mu) : RE.of (none : Option α) μ = .no := rfl

abbrev SZ : Nat := 16777216
abbrev DK := D × Kd

def D.isStr : D → Bool | .str _ => true | _ => false
def D.isInt : D → Bool | .int _ => true | _ => false
/-- without an address but those of things that may change -/
def D.flat : D → Bool | .non => true | .bl _ => true | .int _ => true | .str _ => true | .mut _ => true | _ => false
/-- a text's signs, each a text -/
def signs (x : Str) : List D := x.cps.toList.map fun c => .str ⟨#[c]⟩

mutual
/-- as the library's data -/
def D.py : D → PyData
  | .non => .none
  | .bl b => .bool b
  | .int i => .int i
  | .str x => .str x
  | .tup l => .tuple (D.pyL l)
  | .lst l => .list (D.pyL l)
  | .dct _ => .dict []
  | .mut _ => .dict []
  | .scr ns => .list (ns.map PyData.int)
def D.pyL : List D → List PyData
  | [] => []
  | d :: r => D.py d :: D.pyL r
end
mutual
/-- plain data of a depth -/
def D.dp : Nat → D → Bool
  | _, .non => true
  | _, .bl _ => true
  | _, .int _ => true
  | _, .str x => PyData.strOk x
  | n, .tup l => match n with | 0 => false | n + 1 => D.dpL n l
  | n, .lst l => match n with | 0 => false | n + 1 => D.dpL n l
  | _, .dct _ => false
  | _, .mut _ => false
  | _, .scr _ => false
def D.dpL : Nat → List D → Bool
  | _, [] => true
  | n, d :: r => D.dp n d && D.dpL n r
end
def eqD (x y : D) : Option Bool :=
  match x, y with
  | .str a, .str b => some (a == b)
  | x, y => if D.dp 8 x && D.dp 8 y then some (PyData.eqv x.py y.py) else none

/-- a binary operator; the bool: the value is a new list -/
def binD (op : Operator) (x y : D) : Option (D × Kd) :=
  match op, x, y with
  | .Add, .int i, .int j => some (.int (i + j), .pl)
  | .Sub, .int i, .int j => some (.int (i - j), .pl)
  | .Mult, .int i, .int j => if i.natAbs.log2 + j.natAbs.log2 < 1000000 then some (.int (i * j), .pl) else none
  | .FloorDiv, .int i, .int j => if 0 < j ∧ j.natAbs.log2 < 9000 then some (.int (i / j), .pl) else none
  | .Mod, .int i, .int j => if 0 < j then some (.int (i % j), .pl) else none
  | .Pow, .int i, .int j => if 0 ≤ j ∧ (i.natAbs.log2 + 1) * j.toNat ≤ 100000 then some (.int (i ^ j.toNat), .pl) else none
  | .Add, .str a, .str b => if a.length + b.length ≤ SZ then some (.str (a ++ b), .pl) else none
  | .Add, .lst a, .lst b => if a.length + b.length ≤ SZ then some (.lst (a ++ b), .fr) else none
  | .Add, .tup a, .tup b => if a ≠ [] ∧ a.length + b.length ≤ SZ then some (.tup (a ++ b), .pl) else none
  | _, _, _ => none

def cmpI (op : CmpOp) (i j : Int) : Option Bool :=
  match op with
  | .Lt => some (decide (i < j)) | .LtE => some (decide (i ≤ j)) | .Gt => some (decide (j < i)) | .GtE => some (decide (j ≤ i))
  | _ => none
def cmpS (op : CmpOp) (a b : Str) : Option Bool :=
  match op with
  | .Lt => some (decide (a.cps.toList < b.cps.toList)) | .LtE => some (!decide (b.cps.toList < a.cps.toList))
  | .Gt => some (decide (b.cps.toList < a.cps.toList)) | .GtE => some (!decide (a.cps.toList < b.cps.toList))
  | _ => none
/-- whether x is in a row of data -/
def memD (x : D) (l : List D) : Option Bool := if D.dp 8 x && D.dpL 7 l then some (l.any fun z => PyData.eqv z.py x.py) else none
def inD (x y : D) : Option Bool :=
  match y with
  | .lst l => memD x l
  | .tup l => memD x l
  | .str b => match x with | .str a => some (!(Builtin.Str.occurrences b a 0 b.length 1).isEmpty) | _ => none
  | _ => none
def D.isNon : D → Bool | .non => true | _ => false
def isD (x y : D) : Option Bool :=
  match y with
  | .non => some x.isNon
  | .bl b => match x with | .bl a => some (a == b) | _ => none
  | _ => none
def ordD (op : CmpOp) (x y : D) : Option Bool :=
  match x, y with
  | .int i, .int j => cmpI op i j
  | .str a, .str b => cmpS op a b
  | _, _ => none
def cmpD (op : CmpOp) (x y : D) : Option Bool :=
  match op with
  | .Eq => eqD x y
  | .NotEq => (eqD x y).map (!·)
  | .In => inD x y
  | .NotIn => (inD x y).map (!·)
  | .Is => isD x y
  | .IsNot => (isD x y).map (!·)
  | op => ordD op x y

def truD (x : D) : Option Bool :=
  match x with
  | .bl b => some b
  | _ => none

def idxD (μ : Mu) (x i : D) : Option D :=
  match i with
  | .int k => match x with
    | .lst l => atI l k
    | .tup l => atI l k
    | .str z => (atI z.cps.toList k).map fun c => .str ⟨#[c]⟩
    | .mut j => μ[j]?.bind fun l => atI l k
    | .scr ns => (atI ns k).map .int
    | _ => none
  | _ => none
def cutL {α : Type} (l : List α) (lo hi : Option Int) : List α := (l.drop (HT.sIx l.length 0 lo)).take (HT.sIx l.length l.length hi - HT.sIx l.length 0 lo)
def ioD : Option D → Option (Option Int)
  | none => some none
  | some (.int i) => some (some i)
  | _ => none
def cutD (x : D) (lo hi : Option Int) : Option (D × Kd) :=
  match x with
  | .lst l => some (.lst (cutL l lo hi), .fr)
  | .tup l => if HT.sIx l.length 0 lo = 0 ∧ HT.sIx l.length l.length hi = l.length then none else some (.tup (cutL l lo hi), .pl)
  | .str z => some (.str (cutS z lo hi), .pl)
  | _ => none

/-- built-in types that are asked for -/
inductive Ty where
  | int | bool | str | tuple | list | dict
  deriving DecidableEq
/-- built-in functions -/
inductive BI where
  | len | int | abs | max | min | list | tuple | sorted | all | any | repr
  | isi (t : Ty)
  deriving DecidableEq
def typD (x : D) (t : Ty) : Option Bool :=
  match x with
  | .non => some false
  | .bl _ => some (match t with | .bool => true | .int => true | _ => false)
  | .int _ => some (match t with | .int => true | _ => false)
  | .str _ => some (match t with | .str => true | _ => false)
  | .tup _ => some (match t with | .tuple => true | _ => false)
  | .lst _ => some (match t with | .list => true | _ => false)
  | .dct _ => some (match t with | .dict => true | _ => false)
  | _ => none
def D.isTupNE : D → Bool | .tup (_ :: _) => true | _ => false
def D.noTup : D → Bool | .tup _ => false | .non => false | _ => true
def sortOk (l : List D) : Bool := D.dpL 7 l && (l.all fun d => l.all fun e => PySem.W.alike d.py e.py) && (l.all D.isTupNE || l.all D.noTup)
def sortD (l : List D) : Option (List D) := if sortOk l then some (l.mergeSort (PySem.W.dataLe false D.py)) else none
def blsD : List D → Option (List Bool)
  | [] => some []
  | .bl b :: r => (blsD r).map (b :: ·)
  | _ => none
/-- what is read as a row of things -/
def rowD : D → Option (List D)
  | .lst l => some l
  | .tup l => some l
  | .str z => some (signs z)
  | _ => none
def biD (f : BI) (xs : List D) : Option (D × Kd) :=
  match f, xs with
  | .len, [.lst l] => some (.int l.length, .pl)
  | .len, [.tup l] => some (.int l.length, .pl)
  | .len, [.str z] => some (.int z.length, .pl)
  | .len, [.scr ns] => some (.int ns.length, .pl)
  | .int, [.int i] => some (.int i, .pl)
  | .int, [.bl b] => some (.int (if b then 1 else 0), .pl)
  | .abs, [.int i] => some (.int (if i < 0 then -i else i), .pl)
  | .max, [.int i, .int j] => some (.int (if j > i then j else i), .pl)
  | .min, [.int i, .int j] => some (.int (if j < i then j else i), .pl)
  | .list, [x] => (rowD x).map fun l => (.lst l, .fr)
  | .tuple, [.lst l] => some (.tup l, .pl)
  | .tuple, [.tup l] => some (.tup l, .pl)
  | .sorted, [.lst l] => (sortD l).map fun l => (.lst l, .fr)
  | .all, [.lst l] => (blsD l).map fun bs => (.bl (bs.all id), .pl)
  | .any, [.lst l] => (blsD l).map fun bs => (.bl (bs.any id), .pl)
  | .repr, [.bl b] => some (.str (if b then "True" else "False"), .pl)
  | .isi t, [x] => (typD x t).map fun b => (.bl b, .pl)
  | _, _ => none

/-- methods of built-in types that change nothing -/
inductive MI where
  | join | index
  deriving DecidableEq
def strsD : List D → Option (List Str)
  | [] => some []
  | .str b :: r => (strsD r).map (b :: ·)
  | _ => none
def idxOf (x : D) : List D → Nat → Option Nat
  | [], _ => none
  | z :: r, n => if PyData.eqv z.py x.py then some n else idxOf x r (n + 1)
def miD (m : MI) (o : D) (xs : List D) : Option (D × Kd) :=
  match m, o, xs with
  | .join, .str a, [x] => match x with
    | .lst l => (strsD l).bind fun ys => if (ys.map (·.length)).sum + ys.length * a.length ≤ SZ then some (.str (Txt.join a ys), .pl) else none
    | .tup l => (strsD l).bind fun ys => if (ys.map (·.length)).sum + ys.length * a.length ≤ SZ then some (.str (Txt.join a ys), .pl) else none
    | _ => none
  | _, _, _ => none

/-- what a for walks -/
inductive IK where
  | seq | range | enum | zip
  deriving DecidableEq
def intL (lo : Int) (n : Nat) : List D := (List.range n).map fun (i : Nat) => D.int (lo + (i : Int))
def zipD : List D → List D → List D
  | x :: xs, y :: ys => .tup [x, y] :: zipD xs ys
  | _, _ => []
def enumD : Nat → List D → List D
  | _, [] => []
  | i, x :: xs => .tup [.int i, x] :: enumD (i + 1) xs
def iterD (k : IK) (xs : List D) : Option (List D) :=
  match k, xs with
  | .seq, [x] => rowD x
  | .range, [.int j] => if j ≤ 16777216 ∧ -16777216 ≤ j then some (intL 0 j.toNat) else none
  | .range, [.int i, .int j] => if (-16777216 ≤ j ∧ -16777216 ≤ i) ∧ (j ≤ 8388608 ∧ i ≤ 8388608) ∧ j - i ≤ 16777216 then some (intL i (j - i).toNat) else none
  | .enum, [x] => (rowD x).map (enumD 0)
  | .zip, [x, y] => (rowD x).bind fun l => (rowD y).map fun r => zipD l r
  | _, _ => none

/-- targets: a name, or names for a tuple's items -/
inductive TgT where
  | name (i : Nat) | tup (is : List Nat)
  deriving DecidableEq
def setG (g : Slots) (i : Nat) (s : Slot) : Slots := g.set i s
def setAll (g : Slots) : List Nat → List D → Slots
  | i :: is, d :: ds => setAll (g.set i (.ok d)) is ds
  | _, _ => g
def asgD (t : TgT) (g : Slots) (d : D) : Option Slots :=
  match t with
  | .name i => some (g.set i (.ok d))
  | .tup is => match d with
    | .tup ds => if ds.length = is.length then some (setAll g is ds) else none
    | _ => none
def wipeG (g : Slots) : List Nat → Slots
  | [] => g
  | v :: vs => (wipeG g vs).set v .no

/-! ### expressions -/
inductive E where
  | var (i : Nat)
  | c (d : D)
  | bin (op : Operator) (a b : E)
  | neg (a : E)
  | not (a : E)
  | and (a b : E)
  | or (a b : E)
  | cmp (op : CmpOp) (a b : E)
  | cmp2 (o1 o2 : CmpOp) (a b c : E)
  | ite (t a b : E)
  | tup (l : List E)
  | lst (l : List E)
  | idx (a i : E)
  | cut (a : E) (lo hi : Option E)
  | bi (f : BI) (l : List E)
  | mi (m : MI) (o : E) (l : List E)
  | call (f : Nat) (l : List E)
  | lc (own : List Nat) (k : IK) (src : List E) (t : TgT) (cond : Option E) (el : E)
  | newMut (a : E)
  deriving Inhabited

/-- a def's calls: its number, the arguments -/
abbrev Cs := Nat → List D → Mu → RE (D × Bool)

def lcGo (t : TgT) (cond : Slots → Mu → RE Bool) (el : Slots → Mu → RE DK) (g : Slots) : List D → List D → Mu → RE (List D)
  | [], acc, μ => .ok acc μ
  | x :: xs, acc, μ => match asgD t g x with
    | none => .no
    | some g1 => (cond g1 μ).bind fun b μ1 => if b then (el g1 μ1).bind fun y μ2 => match y.2 with
        | .bo _ => .no
        | _ => lcGo t cond el g xs (acc ++ [y.1]) μ2
      else lcGo t cond el g xs acc μ1

def isBo : Kd → Bool | .bo _ => true | _ => false
def noBo (l : List DK) : Bool := l.all fun x => !isBo x.2

mutual
def ev (C : Cs) : E → Slots → Mu → RE DK
  | .var i, g, μ => match g[i]? with
    | some (.ok d) => .ok (d, .pl) μ
    | some (.own l) => .ok (.lst l, .bo i) μ
    | _ => .no
  | .c d, _, μ => .ok (d, .pl) μ
  | .bin op a b, g, μ => (ev C a g μ).bind fun x μ1 => (ev C b g μ1).bind fun y μ2 => .of (binD op x.1 y.1) μ2
  | .neg a, g, μ => (ev C a g μ).bind fun x μ1 => match x.1 with | .int i => .ok (.int (-i), .pl) μ1 | _ => .no
  | .not a, g, μ => (ev C a g μ).bind fun x μ1 => match truD x.1 with | some b => .ok (.bl (!b), .pl) μ1 | none => .no
  | .and a b, g, μ => (ev C a g μ).bind fun x μ1 => match x.1 with | .bl true => ev C b g μ1 | .bl false => .ok (.bl false, .pl) μ1 | _ => .no
  | .or a b, g, μ => (ev C a g μ).bind fun x μ1 => match x.1 with | .bl true => .ok (.bl true, .pl) μ1 | .bl false => ev C b g μ1 | _ => .no
  | .cmp op a b, g, μ => (ev C a g μ).bind fun x μ1 => (ev C b g μ1).bind fun y μ2 => .of ((cmpD op x.1 y.1).map fun b => (.bl b, .pl)) μ2
  | .cmp2 o1 o2 a b c, g, μ => (ev C a g μ).bind fun x μ1 => (ev C b g μ1).bind fun y μ2 => match cmpD o1 x.1 y.1 with
    | some true => (ev C c g μ2).bind fun z μ3 => .of ((cmpD o2 y.1 z.1).map fun b => (.bl b, .pl)) μ3
    | some false => .ok (.bl false, .pl) μ2
    | none => .no
  | .ite t a b, g, μ => (ev C t g μ).bind fun x μ1 => match truD x.1 with | some true => ev C a g μ1 | some false => ev C b g μ1 | none => .no
  | .tup l, g, μ => (evs C l g μ).bind fun xs μ1 => if noBo xs && decide (xs.length ≤ SZ) then .ok (.tup (xs.map (·.1)), .pl) μ1 else .no
  | .lst l, g, μ => (evs C l g μ).bind fun xs μ1 => if noBo xs && decide (xs.length ≤ SZ) then .ok (.lst (xs.map (·.1)), .fr) μ1 else .no
  | .idx a i, g, μ => (ev C a g μ).bind fun x μ1 => (ev C i g μ1).bind fun y μ2 => .of ((idxD μ2 x.1 y.1).map fun d => (d, .pl)) μ2
  | .cut a lo hi, g, μ => (ev C a g μ).bind fun x μ1 => (evo C lo g μ1).bind fun l μ2 => (evo C hi g μ2).bind fun h μ3 => .of (cutD x.1 l h) μ3
  | .bi f l, g, μ => (evs C l g μ).bind fun xs μ1 => .of (biD f (xs.map (·.1))) μ1
  | .mi m o l, g, μ => (ev C o g μ).bind fun x μ1 => (evs C l g μ1).bind fun xs μ2 => .of (miD m x.1 (xs.map (·.1))) μ2
  | .call f l, g, μ => (evs C l g μ).bind fun xs μ1 => (C f (xs.map (·.1)) μ1).bind fun r μ2 =>
      if noBo xs then .ok (r.1, if r.2 then .fr else .pl) μ2 else if r.1.flat && !r.2 && μ2.all (·.all D.flat) then .ok (r.1, .pl) μ2 else .no
  | .lc own k src t cond el, g, μ => (evs C src g μ).bind fun xs μ1 => match iterD k (xs.map (·.1)) with
    | none => .no
    | some items => (lcGo t (fun g μ => evc C cond g μ) (fun g μ => ev C el g μ) (wipeG g own) items [] μ1).bind fun r μ2 => .ok (.lst r, .fr) μ2
  | .newMut a, g, μ => (ev C a g μ).bind fun x μ1 => match x with | (.lst l, .fr) => .ok (.mut μ1.length, .pl) (μ1 ++ [l]) | _ => .no
def evs (C : Cs) : List E → Slots → Mu → RE (List DK)
  | [], _, μ => .ok [] μ
  | e :: es, g, μ => (ev C e g μ).bind fun x μ1 => (evs C es g μ1).bind fun xs μ2 => .ok (x :: xs) μ2
def evo (C : Cs) : Option E → Slots → Mu → RE (Option Int)
  | none, _, μ => .ok none μ
  | some e, g, μ => (ev C e g μ).bind fun x μ1 => match x.1 with | .int i => .ok (some i) μ1 | _ => .no
def evc (C : Cs) : Option E → Slots → Mu → RE Bool
  | none, _, μ => .ok true μ
  | some e, g, μ => (ev C e g μ).bind fun x μ1 => .of (truD x.1) μ1
end

/-! ### statements -/
inductive S where
  | asg (i : Nat) (e : E)
  | asgT (t : TgT) (e : E)
  | par (is : List Nat) (es : List E)
  | setI (o i v : E)
  | app (i : Nat) (e : E)
  | ext (i : Nat) (e : E)
  | popTo (j i : Nat) (e : E)
  | appPop (j i : Nat) (e : E)
  | expr (e : E)
  | ret (e : E)
  | retN
  | ifs (t : E) (a b : List S)
  | whl (t : E) (b : List S)
  | for_ (k : IK) (src : List E) (t : TgT) (b : List S)
  | mtch (e : E) (cases : List (List Str × List S))
  | frz (i : Nat)
  | pass
  | never
  deriving Inhabited
inductive Fl where
  | nx (g : Slots) | rt (d : D) (fresh : Bool) | bk (g : Slots) | ct (g : Slots)

/-- while, by a number of turns -/
def whlGo (c : Slots → Mu → RE Bool) (b : Slots → Mu → RE Fl) : Nat → Slots → Mu → RE Fl
  | 0, _, _ => .no
  | n + 1, g, μ => (c g μ).bind fun t μ1 => if t then (b g μ1).bind fun f μ2 => match f with
      | .nx g' => whlGo c b n g' μ2
      | .ct g' => whlGo c b n g' μ2
      | .bk g' => .ok (.nx g') μ2
      | .rt d k => .ok (.rt d k) μ2
    else .ok (.nx g) μ1
def forGo (t : TgT) (b : Slots → Mu → RE Fl) : List D → Slots → Mu → RE Fl
  | [], g, μ => .ok (.nx g) μ
  | x :: xs, g, μ => match asgD t g x with
    | none => .no
    | some g1 => (b g1 μ).bind fun f μ2 => match f with
      | .nx g' => forGo t b xs g' μ2
      | .ct g' => forGo t b xs g' μ2
      | .bk g' => .ok (.nx g') μ2
      | .rt d k => .ok (.rt d k) μ2
/-- turns of a while at most -/
abbrev TURNS : Nat := 1000000
def frzSlot (g : Slots) (i : Nat) : Slots := match g[i]? with
  | some (.own l) => g.set i (.ok (.lst l))
  | _ => g
def popL (l : List D) (k : Int) : Option (D × List D) :=
  if -(2 ^ 62) ≤ k ∧ k < 2 ^ 62 then (ixN l.length k).bind fun j => l[j]?.map fun d => (d, l.eraseIdx j) else none
def frzBo (g : Slots) : List DK → Slots
  | [] => g
  | (_, .bo i) :: r => frzBo (frzSlot g i) r
  | _ :: r => frzBo g r

def slOf (x : DK) : Slot := match x with | (.lst l, .fr) => .own l | (d, _) => .ok d
def setSl (g : Slots) : List Nat → List DK → Slots
  | i :: is, x :: xs => setSl (g.set i (slOf x)) is xs
  | _, _ => g
mutual
def exe (C : Cs) : S → Slots → Mu → RE Fl
  | .asg i e, g, μ => (ev C e g μ).bind fun x μ1 => if isBo x.2 then .no else .ok (.nx (g.set i (slOf x))) μ1
  | .asgT t e, g, μ => (ev C e g μ).bind fun x μ1 => match x.2 with
    | .pl => match asgD t g x.1 with | some g' => .ok (.nx g') μ1 | none => .no
    | _ => .no
  | .par is es, g, μ => (evs C es g μ).bind fun xs μ1 => if noBo xs && decide (is.length = xs.length) then .ok (.nx (setSl g is xs)) μ1 else .no
  | .setI o i v, g, μ => (ev C v g μ).bind fun x μ1 => (ev C o g μ1).bind fun y μ2 => (ev C i g μ2).bind fun z μ3 => match x, y, z with
    | (d, .pl), (.mut j, _), (.int k, _) => match μ3[j]? with
      | some l => match ixN l.length k with | some n => .ok (.nx g) (μ3.set j (l.set n d)) | none => .no
      | none => .no
    | (d, .pl), (_, .bo s), (.int k, _) => match g[s]? with
      | some (.own l) => match ixN l.length k with | some n => .ok (.nx (g.set s (.own (l.set n d)))) μ3 | none => .no
      | _ => .no
    | _, _, _ => .no
  | .app i e, g, μ => (ev C e g μ).bind fun x μ1 => match g[i]? with
    | some (.own l) => if !isBo x.2 && decide (l.length < SZ) then .ok (.nx (g.set i (.own (l ++ [x.1])))) μ1 else .no
    | _ => .no
  | .ext i e, g, μ => (ev C e g μ).bind fun x μ1 => match g[i]?, x with
    | some (.own l), (.lst r, .fr) => if l.length + r.length ≤ SZ then .ok (.nx (g.set i (.own (l ++ r)))) μ1 else .no
    | _, _ => .no
  | .popTo j i e, g, μ => (ev C e g μ).bind fun x μ1 => match g[i]?, x.1 with
    | some (.own l), .int k => match popL l k with | some (d, r) => .ok (.nx ((g.set i (.own r)).set j (.ok d))) μ1 | none => .no
    | _, _ => .no
  | .appPop j i e, g, μ => (ev C e g μ).bind fun x μ1 => match g[i]?, g[j]?, x.1 with
    | some (.own l), some (.own m), .int k => if i = j then .no else match popL l k with
      | some (d, r) => if m.length < SZ then .ok (.nx ((g.set i (.own r)).set j (.own (m ++ [d])))) μ1 else .no
      | none => .no
    | _, _, _ => .no
  | .expr e, g, μ => (ev C e g μ).bind fun _ μ1 => .ok (.nx g) μ1
  | .ret e, g, μ => (ev C e g μ).bind fun x μ1 => .ok (.rt x.1 (decide (x.2 ≠ .pl))) μ1
  | .retN, _, μ => .ok (.rt .non false) μ
  | .ifs t a b, g, μ => (ev C t g μ).bind fun x μ1 => match truD x.1 with | some true => exes C a g μ1 | some false => exes C b g μ1 | none => .no
  | .whl t b, g, μ => whlGo (fun g μ => (ev C t g μ).bind fun x μ1 => .of (truD x.1) μ1) (fun g μ => exes C b g μ) TURNS g μ
  | .for_ k src t b, g, μ => (evs C src g μ).bind fun xs μ1 => match iterD k (xs.map (·.1)) with
    | none => .no
    | some items => forGo t (fun g μ => exes C b g μ) items (frzBo g xs) μ1
  | .mtch e cs, g, μ => (ev C e g μ).bind fun x μ1 => match x.1 with
    | .str z => exm C z cs g μ1
    | _ => .no
  | .frz i, g, μ => .ok (.nx (frzSlot g i)) μ
  | .pass, g, μ => .ok (.nx g) μ
  | .never, _, _ => .no
def exes (C : Cs) : List S → Slots → Mu → RE Fl
  | [], g, μ => .ok (.nx g) μ
  | s :: r, g, μ => (exe C s g μ).bind fun f μ1 => match f with
    | .nx g' => exes C r g' μ1
    | f => .ok f μ1
def exm (C : Cs) (z : Str) : List (List Str × List S) → Slots → Mu → RE Fl
  | [], g, μ => .ok (.nx g) μ
  | (ps, b) :: r, g, μ => if ps.contains z then exes C b g μ else exm C z r g μ
end

/-- a def: how many slots, how many parameters, its body -/
structure Df where
  n : Nat
  ps : Nat
  body : List S
  deriving Inhabited
def callDf (C : Cs) (df : Df) (ds : List D) (μ : Mu) : RE (D × Bool) :=
  if ds.length = df.ps then (exes C df.body (ds.map Slot.ok ++ List.replicate (df.n - ds.length) .no) μ).bind fun f μ1 => match f with
    | .nx _ => .ok (.non, false) μ1
    | .rt d k => .ok (d, k) μ1
    | _ => .no
  else .no
/-- the defs by number, to a depth -/
def callN (P : Nat → Option Df) : Nat → Cs
  | 0 => fun _ _ _ => .no
  | k + 1 => fun f ds μ => match P f with
    | some df => callDf (callN P k) df ds μ
    | none => .no
end NT

set_option Elab.async false
set_option linter.all false
set_option maxRecDepth 100000
set_option maxHeartbeats 1000000
set_option autoImplicit false
/-! What the library's machine does is what the small language computes: expressions. -/
namespace NT
open PySem PySem.Spec PyProof.Rows L2
theorem sz_eq : SZ = sizeLine := by rw [sizeLine_eq]

section
variable {K : PySem.W.Frag} {W W' W'' W0 : Wr}
/-- only new things come -/
structure Grw (W W' : Wr) : Prop where
  f : ∀ a, W.F a → W'.F a
  h : ∀ a o, W.H a = some o → W'.H a = some o
  g : ∀ a, W'.F a → W.F a ∨ W.H a = none
  i : W'.ι = W.ι
theorem Grw.stp (s : Grw W W') : Stp W W' := ⟨s.f, fun a o h _ => s.h a o h, s.g, [], by rw [s.i]; simp, fun a z => by cases z⟩
theorem Grw.refl : Grw W W := ⟨fun _ h => h, fun _ _ h => h, fun _ h => .inl h, rfl⟩
theorem MuOk.grw {μ : Mu} (s : Grw W W') (ok : Wok W) (h : MuOk K W μ) : MuOk K W' μ :=
  ⟨by rw [s.i]; exact h.len, fun i l e => let ⟨a, vs, h1, h2, h3⟩ := h.at_ i l e; ⟨a, vs, by rw [s.i]; exact h1, s.h _ _ h2, RepL.mono s.stp ok _ _ h3⟩⟩
/-- a value that is new or data -/
def VN (K : PySem.W.Frag) (W W' : Wr) (d : D) : Kd → V → Prop
  | .pl, v => Rep K W' d v
  | .fr, v => ∃ p vs l, d = .lst l ∧ v = .ref p ∧ W.H p = none ∧ ¬ W'.F p ∧ p ∉ W'.ι ∧ W'.H p = some (.lst vs) ∧ RepL K W' l vs
  | .bo _, _ => False
theorem VN.vr {g : Slots} {σ : L2.St} {d : D} {v : V} (s : Stp W0 W) (ok : Wok W) : ∀ {k : Kd}, VN K W W' d k v → VR K W0 W' g σ d k v
  | .pl, h => h
  | .fr, ⟨p, vs, l, e, ev, n, r⟩ => ⟨p, vs, l, e, ev, s.free ok n, r⟩
/-- what may be read: data, or a list -/
def RdV (K : PySem.W.Frag) (W : Wr) (d : D) (v : V) : Prop := Rep K W d v ∨ ∃ p vs l, d = .lst l ∧ v = .ref p ∧ W.H p = some (.lst vs) ∧ RepL K W l vs
theorem VR.rd {g : Slots} {σ : L2.St} {d : D} {v : V} (gok : GOk K W' g σ) : ∀ {k : Kd}, VR K W W' g σ d k v → RdV K W' d v
  | .pl, h => .inl h
  | .fr, ⟨p, vs, l, e, ev, _, _, _, h, r⟩ => .inr ⟨p, vs, l, e, ev, h, r⟩
  | .bo i, ⟨l, e, h1, h2⟩ => by
    obtain ⟨p, vs, e2, _, _, h, r⟩ := gok.at_ i _ _ h1 h2
    cases e2
    exact .inr ⟨p, vs, l, e, rfl, h, r⟩
theorem RdV.mono {d : D} {v : V} (s : Stp W W') (ok : Wok W) (hi : W'.ι = W.ι ∨ True) (h : RdV K W d v) (hl : ∀ p vs, v = .ref p → W.H p = some (.lst vs) → W'.H p = some (.lst vs)) : RdV K W' d v := by
  rcases h with h | ⟨p, vs, l, e, ev, h, r⟩
  · exact .inl (Rep.mono s ok _ _ h)
  · exact .inr ⟨p, vs, l, e, ev, hl p vs ev h, RepL.mono s ok _ _ r⟩
theorem rd_int {i : Int} {v : V} (h : RdV K W (.int i) v) : v = .int i := by
  rcases h with h | ⟨_, _, _, e, _⟩
  · cases h; rfl
  · cases e
theorem rd_bl {b : Bool} {v : V} (h : RdV K W (.bl b) v) : v = .bl b := by
  rcases h with h | ⟨_, _, _, e, _⟩
  · cases h; rfl
  · cases e
theorem rd_non {v : V} (h : RdV K W .non v) : v = .non := by
  rcases h with h | ⟨_, _, _, e, _⟩
  · cases h; rfl
  · cases e
theorem rd_str {x : Str} {v : V} (h : RdV K W (.str x) v) : v = .str x := by
  rcases h with h | ⟨_, _, _, e, _⟩
  · cases h; rfl
  · cases e
theorem rd_tup {l : List D} {v : V} (h : RdV K W (.tup l) v) : ∃ p vs, v = .ref p ∧ AtT K W p vs ∧ RepL K W l vs := by
  rcases h with h | ⟨_, _, _, e, _⟩
  · cases h with
    | tup h r => exact ⟨_, _, rfl, h, r⟩
  · cases e
theorem rd_lst {l : List D} {v : V} (h : RdV K W (.lst l) v) : ∃ p vs, v = .ref p ∧ W.H p = some (.lst vs) ∧ RepL K W l vs := by
  rcases h with h | ⟨p, vs, l', e, ev, h, r⟩
  · cases h with
    | lst _ h r => exact ⟨_, _, rfl, h, r⟩
  · cases e; exact ⟨p, vs, ev, h, r⟩
theorem rd_scr {ns : List Int} {v : V} (h : RdV K W (.scr ns) v) : ∃ p, v = .ref p ∧ SqL K W.H p (ns.map V.int) := by
  rcases h with h | ⟨_, _, _, e, _⟩
  · cases h with
    | scr h =>
      rcases h with ⟨_, h⟩ | h
      · exact ⟨_, rfl, .inl h⟩
      · rcases h with h | h
        · rcases h with h | ⟨_, h⟩ <;> cases h
        · exact ⟨_, rfl, .inr h⟩
  · cases e
theorem AtT.sq {p : Addr} {vs : List V} (h : AtT K W p vs) : SqT K W.H p vs := by
  rcases h with ⟨_, h⟩ | h
  · exact .inl (.inl h)
  · rcases h with h | h
    · rcases h with h | ⟨_, h⟩ <;> cases h
    · exact .inr h

theorem AtT.len (ok : Wok W) {p : Addr} {vs : List V} (h : AtT K W p vs) : vs.length ≤ 16777216 := by
  rcases h with ⟨_, h⟩ | h
  · exact ok.z _ _ (.inr h)
  · rcases h with (h | ⟨_, h⟩) | ⟨o, its, n, _, _, _, hz, r⟩
    · cases h
    · cases h
    · have e8 := r.length
      have e9 : its.toList.length = its.size := by simp
      rw [sizeLine_eq] at hz
      omega

/-! ### new things -/
def Wr.tup (W : Wr) (p : Addr) (vs : List V) : Wr := { W with F := fun a => W.F a ∨ a = p, H := upd W.H p (.tup vs) }
def Wr.lst (W : Wr) (p : Addr) (vs : List V) : Wr := { W with H := upd W.H p (.lst vs) }
theorem upd_keep {H : Hp} {p : Addr} {o : HO} (n : H p = none) : ∀ a u, H a = some u → upd H p o a = some u := fun a u h => by rw [upd_ne (ne_of_none h n)]; exact h
theorem grw_tup {p : Addr} {vs : List V} (n : W.H p = none) : Grw W (W.tup p vs) :=
  ⟨fun _ h => .inl h, upd_keep n, fun a h => by
    rcases h with h | h
    · exact .inl h
    · subst h; exact .inr n, rfl⟩
theorem grw_lst {p : Addr} {vs : List V} (n : W.H p = none) : Grw W (W.lst p vs) := ⟨fun _ h => h, upd_keep n, fun _ h => .inl h, rfl⟩
theorem Wok.iNone (ok : Wok W) {p : Addr} (n : W.H p = none) : p ∉ W.ι := fun h => by
  obtain ⟨_, xs, e⟩ := ok.i p h
  rw [n] at e; cases e
theorem Wok.fNone (ok : Wok W) {p : Addr} (n : W.H p = none) : ¬ W.F p := fun h => by
  obtain ⟨o, e⟩ := ok.f p h
  rw [n] at e; cases e
theorem upd_len {H : Hp} {p : Addr} {o : HO} (hz : ∀ (a : Addr) (vs : List V), H a = some (.lst vs) ∨ H a = some (.tup vs) → vs.length ≤ 16777216) (ho : ∀ vs, o = .lst vs ∨ o = .tup vs → vs.length ≤ 16777216) :
    ∀ (a : Addr) (vs : List V), upd H p o a = some (.lst vs) ∨ upd H p o a = some (.tup vs) → vs.length ≤ 16777216 := fun a vs h => by
  by_cases e : a = p
  · subst e
    rw [upd_same] at h
    exact ho vs (h.imp Option.some.inj Option.some.inj)
  · rw [upd_ne e] at h
    exact hz a vs h
theorem wok_tup (ok : Wok W) {p : Addr} {vs : List V} (n : W.H p = none) (hz : vs.length ≤ 16777216) : Wok (W.tup p vs) :=
  ⟨fun a h => by
    rcases h with h | h
    · obtain ⟨o, e⟩ := ok.f a h
      exact ⟨o, upd_keep n a o e⟩
    · subst h; exact ⟨_, upd_same⟩, fun a h => ⟨fun z => by
      rcases z with z | z
      · exact (ok.i a h).1 z
      · subst z; exact ok.iNone n h, let ⟨xs, e⟩ := (ok.i a h).2; ⟨xs, upd_keep n a _ e⟩⟩, ok.nd, upd_len ok.z fun us h => by
      rcases h with h | h <;> cases h
      exact hz⟩
theorem wok_lst (ok : Wok W) {p : Addr} {vs : List V} (n : W.H p = none) (hz : vs.length ≤ 16777216) : Wok (W.lst p vs) :=
  ⟨fun a h => let ⟨o, e⟩ := ok.f a h; ⟨o, upd_keep n a o e⟩, fun a h => ⟨(ok.i a h).1, let ⟨xs, e⟩ := (ok.i a h).2; ⟨xs, upd_keep n a _ e⟩⟩, ok.nd, upd_len ok.z fun us h => by
      rcases h with h | h <;> cases h
      exact hz⟩
theorem rep_tup (ok : Wok W) {p : Addr} {ds : List D} {vs : List V} (n : W.H p = none) (r : RepL K W ds vs) : Rep K (W.tup p vs) (.tup ds) (.ref p) :=
  .tup (.inl ⟨.inr rfl, upd_same⟩) (RepL.mono (grw_tup n).stp ok _ _ r)
theorem vn_lst (ok : Wok W) {p : Addr} {ds : List D} {vs : List V} (n : W.H p = none) (r : RepL K W ds vs) : VN K W (W.lst p vs) (.lst ds) .fr (.ref p) :=
  ⟨p, vs, ds, rfl, rfl, n, ok.fNone n, ok.iNone n, upd_same, RepL.mono (grw_lst n).stp ok _ _ r⟩
end

/-! ### judgements -/
structure Sta (K : PySem.W.Frag) (W : Wr) (g : Slots) (μ : Mu) (σ : L2.St) (H : Hp) : Prop where
  h : W.H = H
  ok : Wok W
  mu : MuOk K W μ
  g : GOk K W g σ
def TEv (K : PySem.W.Frag) (f : Slots → Mu → RE DK) : TE := fun σ H Q => ∃ W g μ d k μ', Sta K W g μ σ H ∧ f g μ = .ok (d, k) μ' ∧
  ∀ W' v, Stp W W' → Wok W' → MuOk K W' μ' → VR K W W' g σ d k v → Q v W'.H
def TTv (K : PySem.W.Frag) (f : Slots → Mu → RE Bool) : TT := fun σ H Q => ∃ W g μ b μ', Sta K W g μ σ H ∧ f g μ = .ok b μ' ∧
  ∀ W', Stp W W' → Wok W' → MuOk K W' μ' → Q b W'.H
/-- a list of values: data, or a list of one's own -/
def VA (K : PySem.W.Frag) (W : Wr) (g : Slots) (σ : L2.St) (x : DK) (v : V) : Prop := match x.2 with
  | .bo i => ∃ l, x.1 = .lst l ∧ g[i]? = some (.own l) ∧ σ[i]? = some (some v)
  | _ => Rep K W x.1 v
def VAs (K : PySem.W.Frag) (W : Wr) (g : Slots) (σ : L2.St) : List DK → List V → Prop
  | [], vs => vs = []
  | x :: xs, vs => ∃ v r, vs = v :: r ∧ VA K W g σ x v ∧ VAs K W g σ xs r
def TAv (K : PySem.W.Frag) (f : Slots → Mu → RE (List DK)) : TA := fun σ H Q => ∃ W g μ xs μ', Sta K W g μ σ H ∧ f g μ = .ok xs μ' ∧
  ∀ W' vs, Stp W W' → Wok W' → MuOk K W' μ' → VAs K W' g σ xs vs → Q vs W'.H
abbrev DE (X : Cx) (e : Expr) (f : Slots → Mu → RE DK) : Prop := PE X e (TEv X.K f)
abbrev DT (X : Cx) (e : Expr) (f : Slots → Mu → RE Bool) : Prop := PT X e (TTv X.K f)
abbrev DA (X : Cx) (es : List Expr) (f : Slots → Mu → RE (List DK)) : Prop := PA X es (TAv X.K f)
theorem PE.imp {X : Cx} {e : Expr} {t t' : TE} (h : PE X e t) (i : ∀ σ H Q, t' σ H Q → t σ H Q) : PE X e t' := ⟨fun pins s σ H Q I q => h.run pins s σ H Q I (i _ _ _ q)⟩
theorem PT.imp {X : Cx} {e : Expr} {t t' : TT} (h : PT X e t) (i : ∀ σ H Q, t' σ H Q → t σ H Q) : PT X e t' := ⟨fun pins s σ H Q I q => h.run pins s σ H Q I (i _ _ _ q)⟩
theorem PA.imp {X : Cx} {e : List Expr} {t t' : TA} (h : PA X e t) (i : ∀ σ H Q, t' σ H Q → t σ H Q) : PA X e t' := ⟨fun pos pins s σ H Q I q => h.run pos pins s σ H Q I (i _ _ _ q)⟩
theorem RE.bind_ok {α β : Type} {x : RE α} {f : α → Mu → RE β} {b : β} {μ' : Mu} (h : x.bind f = .ok b μ') : ∃ a μ1, x = .ok a μ1 ∧ f a μ1 = .ok b μ' := by
  cases x with
  | ok a μ1 => exact ⟨a, μ1, rfl, h⟩
  | ex c fs μ1 => cases h
  | no => cases h
theorem RE.of_ok {α : Type} {o : Option α} {a : α} {μ μ' : Mu} (h : RE.of o μ = .ok a μ') : o = some a ∧ μ' = μ := by
  cases o with
  | none => cases h
  | some b => cases h; exact ⟨rfl, rfl⟩
theorem Sta.step {K : PySem.W.Frag} {W W' : Wr} {g : Slots} {μ μ' : Mu} {σ : L2.St} {H : Hp} (s : Sta K W g μ σ H) (t : Stp W W') (ok' : Wok W') (mu' : MuOk K W' μ') : Sta K W' g μ' σ W'.H := ⟨rfl, ok', mu', s.g.mono t s.ok⟩
theorem Stp.back {K : PySem.W.Frag} {W W' W'' : Wr} {g : Slots} {σ : L2.St} {d : D} {k : Kd} {v : V} (s : Stp W W') (ok' : Wok W') (h : VR K W' W'' g σ d k v) : VR K W W'' g σ d k v := by
  cases k with
  | pl => exact h
  | fr => obtain ⟨p, vs, l, e, ev, n, r⟩ := h; exact ⟨p, vs, l, e, ev, s.free ok' n, r⟩
  | bo i => exact h

section
variable {X : Cx} {e a b c : Expr} {fa fb fc : Slots → Mu → RE DK} {pos : Pos}
/-- weaken a reading's end -/
theorem tev_of {K : PySem.W.Frag} {f : Slots → Mu → RE DK} {W : Wr} {g : Slots} {μ μ' : Mu} {σ : L2.St} {H : Hp} {d : D} {k : Kd} {Q : L2.VK} (s : Sta K W g μ σ H) (e : f g μ = .ok (d, k) μ')
    (h : ∀ W' v, Stp W W' → Wok W' → MuOk K W' μ' → VR K W W' g σ d k v → Q v W'.H) : TEv K f σ H Q := ⟨W, g, μ, d, k, μ', s, e, h⟩
theorem de_c {v : V} {d : D} (h : PE X e (tC v)) (r : ∀ K W, Rep K W d v) : DE X e fun _ μ => .ok (d, .pl) μ :=
  PE.imp h fun σ H Q q => by
    obtain ⟨W, g, μ, d', k, μ', s, e, q⟩ := q
    cases e
    rw [← s.h]
    exact q W v .refl s.ok s.mu (r _ _)
theorem de_var {i : Nat} {x : Str} {C : Cs} (hN : X.N[i]? = some x) (hv : Vis X.env.scope x) (hd : (x == ("__debug__" : Str)) = false) (hcd : (x == ("__classdict__" : Str)) = false) : DE X (.Name x pos) (ev C (.var i)) :=
  PE.imp (pe_var hN hv hd hcd) fun σ H Q q => by
    obtain ⟨W, g, μ, d, k, μ', s, e, q⟩ := q
    simp only [ev] at e
    cases hg : g[i]? with
    | none => rw [hg] at e; cases e
    | some sl =>
      rw [hg] at e
      have hi : i < σ.length := by rw [← s.g.len]; exact (List.getElem?_eq_some_iff.mp hg).1
      have hs := s.g.at_ i sl _ hg (List.getElem?_eq_getElem hi)
      cases sl with
      | no => cases e
      | ok d' =>
        cases e
        obtain ⟨v, hv, r⟩ := hs
        refine ⟨v, by rw [List.getElem?_eq_getElem hi, hv], ?_⟩
        rw [← s.h]
        exact q W v .refl s.ok s.mu r
      | own l =>
        cases e
        obtain ⟨p, vs, hv, nf, ni, hp, r⟩ := hs
        refine ⟨.ref p, by rw [List.getElem?_eq_getElem hi, hv], ?_⟩
        rw [← s.h]
        exact q W _ .refl s.ok s.mu ⟨l, rfl, hg, by rw [List.getElem?_eq_getElem hi, hv]⟩
/-- two in a row -/
theorem tev2 {K : PySem.W.Frag} {fa fb : Slots → Mu → RE DK} {W : Wr} {g : Slots} {μ μ1 μ2 : Mu} {σ : L2.St} {H : Hp} {x y : DK} {R : V → V → Hp → Prop} (s : Sta K W g μ σ H) (ea : fa g μ = .ok x μ1) (eb : fb g μ1 = .ok y μ2)
    (h : ∀ W2 u v, Stp W W2 → Wok W2 → MuOk K W2 μ2 → VR K W W2 g σ x.1 x.2 u → VR K W W2 g σ y.1 y.2 v → R u v W2.H) : TEv K fa σ H fun u H1 => TEv K fb σ H1 fun v H2 => R u v H2 := by
  refine ⟨W, g, μ, x.1, x.2, μ1, s, ea, fun W1 u s1 ok1 mu1 r1 => ⟨W1, g, μ1, y.1, y.2, μ2, s.step s1 ok1 mu1, eb, fun W2 v s2 ok2 mu2 r2 => ?_⟩⟩
  exact h W2 u v (s1.trans ok1 s2) ok2 mu2 (r1.mono s2 ok1) (s1.back ok1 r2)

/-- a two-place operation on data -/
def rD2 (K : PySem.W.Frag) (op : D → D → Option DK) : R2 := fun x y H Q => ∃ W d e r k, W.H = H ∧ Wok W ∧ RdV K W d x ∧ RdV K W e y ∧ op d e = some (r, k) ∧
  ∀ W' v, Grw W W' → Wok W' → VN K W W' r k v → Q v W'.H
theorem de_op2 {op : Operator} {g : D → D → Option DK} (ho : OpR X (binaryOp op) (rD2 X.K g)) (ha : DE X a fa) (hb : DE X b fb) :
    DE X (.BinOp a op b pos) fun s μ => (fa s μ).bind fun x μ1 => (fb s μ1).bind fun y μ2 => .of (g x.1 y.1) μ2 :=
  PE.imp (pe_op ho ha hb) fun σ H Q q => by
    obtain ⟨W, sl, μ, d, k, μ', s, e, q⟩ := q
    obtain ⟨x, μ1, ea, e⟩ := RE.bind_ok e
    obtain ⟨y, μ2, eb, e⟩ := RE.bind_ok e
    obtain ⟨e4, rfl⟩ := RE.of_ok e
    refine tev2 s ea eb fun W2 u v s2 ok2 mu2 r1 r2 => ?_
    have gok := s.g.mono s2 s.ok
    exact ⟨W2, x.1, y.1, d, k, rfl, ok2, r1.rd gok, r2.rd gok, e4, fun W3 w s3 ok3 r3 => q W3 w (s2.trans ok2 s3.stp) ok3 (mu2.grw s3 ok2) (r3.vr s2 ok2)⟩

theorem op_binD (op : Operator) : OpR X (binaryOp op) (rD2 X.K (binD op)) := by
  intro pins s σ H x y v u Q I rx ry h
  obtain ⟨W, d, e, r, k, hH, ok, hx, hy, hb, q⟩ := h
  subst hH
  unfold binD at hb
  split at hb
  · cases hb
    obtain rfl := rd_int hx
    obtain rfl := rd_int hy
    exact op_add pins s σ _ _ _ v u Q I rx ry ⟨_, _, rfl, rfl, q W _ .refl ok (.int _)⟩
  · cases hb
    obtain rfl := rd_int hx
    obtain rfl := rd_int hy
    exact op_sub pins s σ _ _ _ v u Q I rx ry ⟨_, _, rfl, rfl, q W _ .refl ok (.int _)⟩
  · split at hb <;> cases hb
    rename_i hc
    obtain rfl := rd_int hx
    obtain rfl := rd_int hy
    exact op_mulW pins s σ _ _ _ v u Q I rx ry ⟨_, _, rfl, rfl, hc, q W _ .refl ok (.int _)⟩
  · split at hb <;> cases hb
    rename_i hc
    obtain rfl := rd_int hx
    obtain rfl := rd_int hy
    exact op_fdivW pins s σ _ _ _ v u Q I rx ry ⟨_, _, rfl, rfl, hc, q W _ .refl ok (.int _)⟩
  · split at hb <;> cases hb
    rename_i hc
    obtain rfl := rd_int hx
    obtain rfl := rd_int hy
    exact op_mod pins s σ _ _ _ v u Q I rx ry ⟨_, _, rfl, rfl, hc, q W _ .refl ok (.int _)⟩
  · split at hb <;> cases hb
    rename_i i j hc
    obtain rfl := rd_int hx
    obtain rfl := rd_int hy
    obtain ⟨t, rfl⟩ := rx
    obtain ⟨t', rfl⟩ := ry
    refine pow_int hc.1 ?_ ⟨.int (i ^ j.toNat), W.H, I.tok _, ⟨_, rfl⟩, q W _ .refl ok (.int _)⟩
    have h2 : Builtin.Int.intBits i ≤ i.natAbs.log2 + 1 := by
      unfold Builtin.Int.intBits
      split <;> omega
    have h3 := hc.2
    have h4 : Builtin.Int.intBits i * j.toNat ≤ (i.natAbs.log2 + 1) * j.toNat := Nat.mul_le_mul_right _ h2
    have h5 : ((Builtin.Int.intBits i : Nat) : Int) * j = ((Builtin.Int.intBits i * j.toNat : Nat) : Int) := by
      have e1 : ((j.toNat : Nat) : Int) = j := Int.toNat_of_nonneg hc.1
      rw [Int.natCast_mul, e1]
    rw [h5]
    have h6 : Builtin.Int.intBits i * j.toNat ≤ 100000 := Nat.le_trans h4 h3
    have h7 : (100000 : Int) ≤ 2 ^ 27 := by decide
    omega
  · split at hb <;> cases hb
    rename_i hc
    obtain rfl := rd_str hx
    obtain rfl := rd_str hy
    exact op_add_str pins s σ _ _ _ v u Q I rx ry ⟨_, _, rfl, rfl, by rw [← sz_eq]; exact hc, q W _ .refl ok (.str _ (by rw [Str.length_append]; exact hc))⟩
  · split at hb <;> cases hb
    rename_i hc
    obtain ⟨p, vs, rfl, hp, r1⟩ := rd_lst hx
    obtain ⟨p2, vs2, rfl, hp2, r2⟩ := rd_lst hy
    refine op_cat pins s σ _ _ _ v u Q I rx ry ⟨p, p2, vs, vs2, rfl, rfl, hp, hp2, by rw [← sz_eq, ← r1.length, ← r2.length]; exact hc, fun z n => ?_⟩
    exact q (W.lst z _) _ (grw_lst n) (wok_lst ok n (by rw [List.length_append, ← r1.length, ← r2.length]; exact hc)) (vn_lst ok n (r1.append r2))
  · split at hb <;> cases hb
    rename_i hc
    obtain ⟨p, vs, rfl, hp, r1⟩ := rd_tup hx
    obtain ⟨p2, vs2, rfl, hp2, r2⟩ := rd_tup hy
    refine op_catT pins s σ _ _ _ v u Q I rx ry ⟨p, p2, vs, vs2, rfl, rfl, hp.sq, hp2.sq, fun z => ?_, by rw [← sz_eq, ← r1.length, ← r2.length]; exact hc.2, fun z => ?_, fun z t n => ?_⟩
    · subst z
      cases r1
      exact hc.1 rfl
    · subst z
      cases r2
      rw [List.append_nil] at q
      exact q W _ .refl ok (.tup hp r1)
    · exact q (W.tup t _) _ (grw_tup n) (wok_tup ok n (by rw [List.length_append, ← r1.length, ← r2.length]; exact hc.2)) (rep_tup ok n (r1.append r2))
  · cases hb
theorem de_bin {C : Cs} {op : Operator} {ia ib : E} (ha : DE X a (ev C ia)) (hb : DE X b (ev C ib)) : DE X (.BinOp a op b pos) (ev C (.bin op ia ib)) := de_op2 (op_binD op) ha hb
end
end NT

set_option Elab.async false
set_option linter.all false
set_option maxRecDepth 100000
set_option maxHeartbeats 1000000
set_option autoImplicit false
/-! Comparisons, truth, displays, items, slices. -/
namespace NT
open PySem PySem.Spec PyProof.Rows L2

section
variable {K : PySem.W.Frag} {W W' W'' W0 : Wr}
/-! ### data for the library -/
mutual
theorem Rep.dp : ∀ (n : Nat) (d : D) (v : V), D.dp n d = true → Rep K W d v → Dp K W.H v d.py
  | _, _, _, _, .non => by simp only [D.py]; exact .non
  | _, _, _, _, .bl b => by simp only [D.py]; exact .bl b
  | _, _, _, _, .int i => by simp only [D.py]; exact .int i
  | _, _, _, _, .str x _ => by simp only [D.py]; exact .str x
  | 0, _, _, h, .tup _ _ => by simp [D.dp] at h
  | n + 1, _, _, h, .tup q r => by
    simp only [D.py]
    exact .tup q.sq (RepL.dp n _ _ (by simpa [D.dp] using h) r)
  | 0, _, _, h, .lst _ _ _ => by simp [D.dp] at h
  | n + 1, _, _, h, .lst _ q r => by
    simp only [D.py]
    exact .lst (SqL.of q) (RepL.dp n _ _ (by simpa [D.dp] using h) r)
  | _, _, _, h, .dct0 _ _ => by simp [D.dp] at h
  | _, _, _, h, .mut _ => by simp [D.dp] at h
  | _, _, _, h, .scr _ => by simp [D.dp] at h
theorem RepL.dp : ∀ (n : Nat) (ds : List D) (vs : List V), D.dpL n ds = true → RepL K W ds vs → DpAll K W.H vs (D.pyL ds)
  | _, _, _, _, .nil => by simp only [D.pyL]; exact .nil
  | n, _, _, h, .cons q r => by
    simp only [D.dpL, Bool.and_eq_true] at h
    simp only [D.pyL]
    exact .cons (Rep.dp n _ _ h.1 q) (RepL.dp n _ _ h.2 r)
end
theorem rd_dp {n : Nat} {d : D} {v : V} (h : D.dp n d = true) (r : RdV K W d v) : Dp K W.H v d.py := by
  rcases r with r | ⟨p, vs, l, e, ev, hp, r⟩
  · exact Rep.dp n d v h r
  · subst e ev
    cases n with
    | zero => simp [D.dp] at h
    | succ n =>
      simp only [D.py]
      exact .lst (SqL.of hp) (RepL.dp n _ _ (by simpa [D.dp] using h) r)
mutual
theorem dp_lay : ∀ (n : Nat) (d : D), D.dp n d = true → d.py.canLay0 = true ∧ d.py.depth ≤ n
  | _, .non, _ => by simp [D.py, PyData.canLay0, PyData.depth]
  | _, .bl _, _ => by simp [D.py, PyData.canLay0, PyData.depth]
  | _, .int _, _ => by simp [D.py, PyData.canLay0, PyData.depth]
  | _, .str x, h => by simpa [D.py, PyData.canLay0, PyData.depth, D.dp] using h
  | 0, .tup _, h => by simp [D.dp] at h
  | n + 1, .tup l, h => by
    have := dpL_lay n l (by simpa [D.dp] using h)
    simp only [D.py, PyData.canLay0, PyData.depth]
    exact ⟨this.1, Nat.succ_le_succ this.2⟩
  | 0, .lst _, h => by simp [D.dp] at h
  | n + 1, .lst l, h => by
    have := dpL_lay n l (by simpa [D.dp] using h)
    simp only [D.py, PyData.canLay0, PyData.depth]
    exact ⟨this.1, Nat.succ_le_succ this.2⟩
  | _, .dct _, h => by simp [D.dp] at h
  | _, .mut _, h => by simp [D.dp] at h
  | _, .scr _, h => by simp [D.dp] at h
theorem dpL_lay : ∀ (n : Nat) (l : List D), D.dpL n l = true → PyData.canLayAll0 (D.pyL l) = true ∧ PyData.depthAll (D.pyL l) ≤ n
  | _, [], _ => by simp [D.pyL, PyData.canLayAll0, PyData.depthAll]
  | n, d :: r, h => by
    simp only [D.dpL, Bool.and_eq_true] at h
    have h1 := dp_lay n d h.1
    have h2 := dpL_lay n r h.2
    simp only [D.pyL, PyData.canLayAll0, PyData.depthAll, Bool.and_eq_true]
    exact ⟨⟨h1.1, h2.1⟩, Nat.max_le.mpr ⟨h1.2, h2.2⟩⟩
end
theorem dp_shaped {n : Nat} {d : D} (h : D.dp n d = true) (hn : n ≤ 64) : SeqAt.shaped d.py = true := by
  obtain ⟨h1, h2⟩ := dp_lay n d h
  unfold SeqAt.shaped
  rw [h1, Bool.true_and]
  exact decide_eq_true (Nat.le_trans h2 hn)
theorem dpL_shaped {n : Nat} {l : List D} (h : D.dpL n l = true) (hn : n + 1 ≤ 64) : SeqAt.shaped (.list (D.pyL l)) = true := by
  have := dp_shaped (n := n + 1) (d := .lst l) (by simpa [D.dp] using h) hn
  simpa [D.py] using this
theorem any_py {x : D} : ∀ l : List D, (D.pyL l).any (fun z => PyData.eqv z x.py) = l.any fun z => PyData.eqv z.py x.py
  | [] => rfl
  | d :: r => by simp only [D.pyL, List.any_cons, any_py r]
end

section
variable {X : Cx} {e a b c : Expr} {fa fb fc : Slots → Mu → RE DK} {pos : Pos}

def cmpK (op : CmpOp) (x y : D) : Option DK := (cmpD op x y).map fun b => (.bl b, .pl)
theorem q_bl {K : PySem.W.Frag} {W : Wr} {Q : L2.VK} {b : Bool} (ok : Wok W) (q : ∀ W' v, Grw W W' → Wok W' → VN K W W' (.bl b) .pl v → Q v W'.H) : Q (.bl b) W.H := q W _ .refl ok (.bl b)
theorem dec_str' {i j : Str} : decide (V.str i = V.str j) = (i == j) := dec_str
theorem op_eqT (hu : X.A.units + 65 < cLine) {pins : List (Addr × Obj)} {s : Shared} {σ : L2.St} {x y : V} {v u : Value} {Q : L2.VK} {W : Wr} {d e : D} {b : Bool} (I : Inv X pins σ W.H s) (rx : RelV x v) (ry : RelV y u)
    (hx : RdV X.K W d x) (hy : RdV X.K W e y) (h : eqD d e = some b) (q : Q (.bl b) W.H) : wpAny (model X.prog X.w) X.A (compareOp .Eq v u) (EP X pins σ Q) X.xe s := by
  unfold eqD at h
  split at h
  · cases h
    obtain rfl := rd_str hx
    obtain rfl := rd_str hy
    exact op_eq pins s σ _ _ _ v u Q I rx ry ⟨rfl, by rw [dec_str']; exact q⟩
  · split at h <;> cases h
    rename_i hc
    rw [Bool.and_eq_true] at hc
    exact op_eqD (by omega) pins s σ _ _ _ v u Q I rx ry ⟨_, _, rd_dp hc.1 hx, rd_dp hc.2 hy, dp_shaped hc.1 (by decide), dp_shaped hc.2 (by decide), q⟩
theorem op_neT (hu : X.A.units + 65 < cLine) {pins : List (Addr × Obj)} {s : Shared} {σ : L2.St} {x y : V} {v u : Value} {Q : L2.VK} {W : Wr} {d e : D} {b : Bool} (I : Inv X pins σ W.H s) (rx : RelV x v) (ry : RelV y u)
    (hx : RdV X.K W d x) (hy : RdV X.K W e y) (h : eqD d e = some b) (q : Q (.bl (!b)) W.H) : wpAny (model X.prog X.w) X.A (compareOp .NotEq v u) (EP X pins σ Q) X.xe s := by
  unfold eqD at h
  split at h
  · cases h
    obtain rfl := rd_str hx
    obtain rfl := rd_str hy
    exact op_ne pins s σ _ _ _ v u Q I rx ry ⟨rfl, by rw [dec_str']; exact q⟩
  · split at h <;> cases h
    rename_i hc
    rw [Bool.and_eq_true] at hc
    exact op_neD (by omega) pins s σ _ _ _ v u Q I rx ry ⟨_, _, rd_dp hc.1 hx, rd_dp hc.2 hy, dp_shaped hc.1 (by decide), dp_shaped hc.2 (by decide), q⟩
theorem op_inT (hu : X.A.units + 65 < cLine) {pins : List (Addr × Obj)} {s : Shared} {σ : L2.St} {x y : V} {v u : Value} {Q : L2.VK} {W : Wr} {d e : D} {b : Bool} (I : Inv X pins σ W.H s) (rx : RelV x v) (ry : RelV y u)
    (hx : RdV X.K W d x) (hy : RdV X.K W e y) (h : inD d e = some b) (q : Q (.bl b) W.H) : wpAny (model X.prog X.w) X.A (compareOp .In v u) (EP X pins σ Q) X.xe s := by
  have mem : ∀ (l : List D), memD d l = some b → D.dp 8 d = true ∧ D.dpL 7 l = true ∧ b = l.any fun z => PyData.eqv z.py d.py := fun l hm => by
    unfold memD at hm
    split at hm <;> cases hm
    rename_i hc
    rw [Bool.and_eq_true] at hc
    exact ⟨hc.1, hc.2, rfl⟩
  unfold inD at h
  split at h
  · obtain ⟨h1, h2, rfl⟩ := mem _ h
    obtain ⟨p, vs, rfl, hp, r⟩ := rd_lst hy
    exact op_inD hu pins s σ _ _ _ v u Q I rx ry ⟨_, _, rd_dp h1 hx, .lst (SqL.of hp) (RepL.dp 7 _ _ h2 r), dp_shaped h1 (by decide), dpL_shaped h2 (by decide), by rw [any_py]; exact q⟩
  · obtain ⟨h1, h2, rfl⟩ := mem _ h
    obtain ⟨p, vs, rfl, hp, r⟩ := rd_tup hy
    obtain ⟨as, r1⟩ := Dp.reads I _ _ v (rd_dp h1 hx) rx
    obtain ⟨bs, r2⟩ := Dp.reads I (.tuple (D.pyL _)) _ u (.tup hp.sq (RepL.dp 7 _ _ h2 r)) ry
    exact SeqAt.in_tuple_reads r2 r1 (SeqAt.canLay_of_shaped (dpL_shaped h2 (by decide))) (SeqAt.canLay_of_shaped (dp_shaped h1 (by decide))) (room_in_shaped (dp_shaped h1 (by decide)) hu) (by rw [any_py]; exact ⟨.bl _, _, I, rfl, q⟩)
  · split at h <;> cases h
    obtain rfl := rd_str hx
    obtain rfl := rd_str hy
    exact op_in_str pins s σ _ _ _ v u Q I rx ry ⟨_, _, rfl, rfl, q⟩
  · cases h
theorem op_notInT (hu : X.A.units + 65 < cLine) {pins : List (Addr × Obj)} {s : Shared} {σ : L2.St} {x y : V} {v u : Value} {Q : L2.VK} {W : Wr} {d e : D} {b : Bool} (I : Inv X pins σ W.H s) (rx : RelV x v) (ry : RelV y u)
    (hx : RdV X.K W d x) (hy : RdV X.K W e y) (h : inD d e = some b) (q : Q (.bl (!b)) W.H) : wpAny (model X.prog X.w) X.A (compareOp .NotIn v u) (EP X pins σ Q) X.xe s := by
  have mem : ∀ (l : List D), memD d l = some b → D.dp 8 d = true ∧ D.dpL 7 l = true ∧ b = l.any fun z => PyData.eqv z.py d.py := fun l hm => by
    unfold memD at hm
    split at hm <;> cases hm
    rename_i hc
    rw [Bool.and_eq_true] at hc
    exact ⟨hc.1, hc.2, rfl⟩
  unfold inD at h
  split at h
  · obtain ⟨h1, h2, rfl⟩ := mem _ h
    obtain ⟨p, vs, rfl, hp, r⟩ := rd_lst hy
    exact op_notInD hu pins s σ _ _ _ v u Q I rx ry ⟨_, _, rd_dp h1 hx, .lst (SqL.of hp) (RepL.dp 7 _ _ h2 r), dp_shaped h1 (by decide), dpL_shaped h2 (by decide), by rw [any_py]; exact q⟩
  · obtain ⟨h1, h2, rfl⟩ := mem _ h
    obtain ⟨p, vs, rfl, hp, r⟩ := rd_tup hy
    obtain ⟨as, r1⟩ := Dp.reads I _ _ v (rd_dp h1 hx) rx
    obtain ⟨bs, r2⟩ := Dp.reads I (.tuple (D.pyL _)) _ u (.tup hp.sq (RepL.dp 7 _ _ h2 r)) ry
    exact SeqAt.notIn_tuple_reads r2 r1 (SeqAt.canLay_of_shaped (dpL_shaped h2 (by decide))) (SeqAt.canLay_of_shaped (dp_shaped h1 (by decide))) (room_in_shaped (dp_shaped h1 (by decide)) hu) (by rw [any_py]; exact ⟨.bl _, _, I, rfl, q⟩)
  · split at h <;> cases h
    obtain rfl := rd_str hx
    obtain rfl := rd_str hy
    exact op_notin_str pins s σ _ _ _ v u Q I rx ry ⟨_, _, rfl, rfl, q⟩
  · cases h
theorem op_isT {pins : List (Addr × Obj)} {s : Shared} {σ : L2.St} {x y : V} {v u : Value} {Q : L2.VK} {W : Wr} {d e : D} {b : Bool} (I : Inv X pins σ W.H s) (rx : RelV x v) (ry : RelV y u)
    (hx : RdV X.K W d x) (hy : RdV X.K W e y) (h : isD d e = some b) (q : Q (.bl b) W.H) : wpAny (model X.prog X.w) X.A (compareOp .Is v u) (EP X pins σ Q) X.xe s := by
  unfold isD at h
  split at h
  · obtain rfl := rd_non hy
    refine op_isN pins s σ _ _ _ v u Q I rx ry ⟨rfl, ?_⟩
    cases h
    have e : decide (x = V.non) = d.isNon := by
      rcases hx with hx | ⟨p, vs, l, e, ev, _⟩
      · cases hx <;> simp [D.isNon]
      · subst e ev; simp [D.isNon]
    rw [e]
    exact q
  · split at h <;> cases h
    obtain rfl := rd_bl hx
    obtain rfl := rd_bl hy
    refine op_isBl pins s σ _ _ _ v u Q I rx ry ⟨_, _, rfl, rfl, ?_⟩
    rw [← Bool.beq_eq_decide_eq]
    exact q
  · cases h
theorem op_isNotT {pins : List (Addr × Obj)} {s : Shared} {σ : L2.St} {x y : V} {v u : Value} {Q : L2.VK} {W : Wr} {d e : D} {b : Bool} (I : Inv X pins σ W.H s) (rx : RelV x v) (ry : RelV y u)
    (hx : RdV X.K W d x) (hy : RdV X.K W e y) (h : isD d e = some b) (q : Q (.bl (!b)) W.H) : wpAny (model X.prog X.w) X.A (compareOp .IsNot v u) (EP X pins σ Q) X.xe s := by
  unfold isD at h
  split at h
  · obtain rfl := rd_non hy
    refine op_notN pins s σ _ _ _ v u Q I rx ry ⟨rfl, ?_⟩
    cases h
    have e : decide (x = V.non) = d.isNon := by
      rcases hx with hx | ⟨p, vs, l, e, ev, _⟩
      · cases hx <;> simp [D.isNon]
      · subst e ev; simp [D.isNon]
    rw [e]
    exact q
  · split at h <;> cases h
    obtain rfl := rd_bl hx
    obtain rfl := rd_bl hy
    refine op_notBl pins s σ _ _ _ v u Q I rx ry ⟨_, _, rfl, rfl, ?_⟩
    rw [← Bool.beq_eq_decide_eq]
    exact q
  · cases h
theorem op_cmpD (hu : X.A.units + 65 < cLine) (op : CmpOp) : OpR X (compareOp op) (rD2 X.K (cmpK op)) := by
  intro pins s σ H x y v u Q I rx ry h
  obtain ⟨W, d, e, r, k, hH, ok, hx, hy, hb, q⟩ := h
  subst hH
  unfold cmpK at hb
  cases hc : cmpD op d e with
  | none => rw [hc] at hb; cases hb
  | some b =>
    rw [hc] at hb
    cases hb
    have q := q_bl ok q
    unfold cmpD at hc
    have ord : ∀ (o : CmpOp), ordD o d e = some b →
        (∃ i j, d = .int i ∧ e = .int j ∧ cmpI o i j = some b) ∨ ∃ i j, d = .str i ∧ e = .str j ∧ cmpS o i j = some b := fun o ho => by
      unfold ordD at ho
      split at ho
      · exact .inl ⟨_, _, rfl, rfl, ho⟩
      · exact .inr ⟨_, _, rfl, rfl, ho⟩
      · cases ho
    cases op with
    | Eq => exact op_eqT hu I rx ry hx hy hc q
    | NotEq =>
      obtain ⟨b', h1, rfl⟩ := Option.map_eq_some_iff.mp hc
      exact op_neT hu I rx ry hx hy h1 q
    | In => exact op_inT hu I rx ry hx hy hc q
    | NotIn =>
      obtain ⟨b', h1, rfl⟩ := Option.map_eq_some_iff.mp hc
      exact op_notInT hu I rx ry hx hy h1 q
    | Is => exact op_isT I rx ry hx hy hc q
    | IsNot =>
      obtain ⟨b', h1, rfl⟩ := Option.map_eq_some_iff.mp hc
      exact op_isNotT I rx ry hx hy h1 q
    | Lt =>
      rcases ord .Lt hc with ⟨i, j, rfl, rfl, h⟩ | ⟨i, j, rfl, rfl, h⟩
      · obtain rfl := rd_int hx
        obtain rfl := rd_int hy
        cases h
        exact op_lt pins s σ _ _ _ v u Q I rx ry ⟨_, _, rfl, rfl, q⟩
      · obtain rfl := rd_str hx
        obtain rfl := rd_str hy
        cases h
        exact op_lt_str pins s σ _ _ _ v u Q I rx ry ⟨_, _, rfl, rfl, q⟩
    | LtE =>
      rcases ord .LtE hc with ⟨i, j, rfl, rfl, h⟩ | ⟨i, j, rfl, rfl, h⟩
      · obtain rfl := rd_int hx
        obtain rfl := rd_int hy
        cases h
        exact op_le pins s σ _ _ _ v u Q I rx ry ⟨_, _, rfl, rfl, q⟩
      · obtain rfl := rd_str hx
        obtain rfl := rd_str hy
        cases h
        exact op_le_str pins s σ _ _ _ v u Q I rx ry ⟨_, _, rfl, rfl, q⟩
    | Gt =>
      rcases ord .Gt hc with ⟨i, j, rfl, rfl, h⟩ | ⟨i, j, rfl, rfl, h⟩
      · obtain rfl := rd_int hx
        obtain rfl := rd_int hy
        cases h
        exact op_gt pins s σ _ _ _ v u Q I rx ry ⟨_, _, rfl, rfl, q⟩
      · obtain rfl := rd_str hx
        obtain rfl := rd_str hy
        cases h
        exact op_gt_str pins s σ _ _ _ v u Q I rx ry ⟨_, _, rfl, rfl, q⟩
    | GtE =>
      rcases ord .GtE hc with ⟨i, j, rfl, rfl, h⟩ | ⟨i, j, rfl, rfl, h⟩
      · obtain rfl := rd_int hx
        obtain rfl := rd_int hy
        cases h
        exact op_ge pins s σ _ _ _ v u Q I rx ry ⟨_, _, rfl, rfl, q⟩
      · obtain rfl := rd_str hx
        obtain rfl := rd_str hy
        cases h
        exact op_ge_str pins s σ _ _ _ v u Q I rx ry ⟨_, _, rfl, rfl, q⟩
end
end NT

set_option Elab.async false
set_option linter.all false
set_option maxRecDepth 100000
set_option maxHeartbeats 1000000
set_option autoImplicit false
/-! Tests, logic, displays, items, slices, arguments. -/
namespace NT
open PySem PySem.Spec PyProof.Rows L2

section
variable {K : PySem.W.Frag} {W W' W'' W0 : Wr} {g : Slots} {σ : L2.St}
theorem VA.mono {x : DK} {v : V} (s : Stp W W') (ok : Wok W) (h : VA K W g σ x v) : VA K W' g σ x v := by
  unfold VA at h ⊢
  split
  · rename_i i e; rw [e] at h; exact h
  · rename_i e
    split at h
    · rename_i i e2; exact absurd e2 (e i)
    · exact Rep.mono s ok _ _ h
theorem VA.rd {x : DK} {v : V} (gok : GOk K W g σ) (h : VA K W g σ x v) : RdV K W x.1 v := by
  unfold VA at h
  split at h
  · obtain ⟨l, e, h1, h2⟩ := h
    obtain ⟨p, vs, e2, _, _, hp, r⟩ := gok.at_ _ _ _ h1 h2
    cases e2
    exact .inr ⟨p, vs, l, e, rfl, hp, r⟩
  · exact .inl h
theorem VAs.rep : ∀ {xs : List DK} {vs : List V}, noBo xs = true → VAs K W g σ xs vs → RepL K W (xs.map (·.1)) vs
  | [], _, _, h => by cases h; exact .nil
  | x :: xs, _, hn, ⟨v, r, e, h1, h2⟩ => by
    subst e
    unfold noBo at hn
    rw [List.all_cons, Bool.and_eq_true] at hn
    refine .cons ?_ (VAs.rep hn.2 h2)
    unfold VA at h1
    split at h1
    · rename_i i e; rw [e] at hn; exact absurd hn.1 (by simp [isBo])
    · exact h1
/-- the readable rows -/
def RdVs (K : PySem.W.Frag) (W : Wr) : List D → List V → Prop
  | [], vs => vs = []
  | d :: ds, vs => ∃ v r, vs = v :: r ∧ RdV K W d v ∧ RdVs K W ds r
theorem VAs.rd (gok : GOk K W g σ) : ∀ {xs : List DK} {vs : List V}, VAs K W g σ xs vs → RdVs K W (xs.map (·.1)) vs
  | [], _, h => h
  | _ :: _, _, ⟨v, r, e, h1, h2⟩ => ⟨v, r, e, h1.rd gok, VAs.rd gok h2⟩
end

section
variable {X : Cx} {e a b c : Expr} {es : List Expr} {fa fb fc : Slots → Mu → RE DK} {ft fu : Slots → Mu → RE Bool} {fs : Slots → Mu → RE (List DK)} {pos : Pos}
theorem da_nil : DA X [] fun _ μ => .ok [] μ :=
  PA.imp pa_nil fun σ H Q ⟨W, g, μ, xs, μ', s, e, q⟩ => by
    cases e
    show Q [] H
    rw [← s.h]
    exact q W [] .refl s.ok s.mu rfl
theorem da_cons (ha : DE X e fa) (hr : DA X es fs) (hs : starEach (e :: es) X.env = (false, eval e X.env) :: starEach es X.env) :
    DA X (e :: es) fun g μ => (fa g μ).bind fun x μ1 => (fs g μ1).bind fun xs μ2 => .ok (x :: xs) μ2 :=
  PA.imp (pa_cons ha hr hs) fun σ H Q ⟨W, g, μ, xs, μ', s, e, q⟩ => by
    obtain ⟨x, μ1, e1, e⟩ := RE.bind_ok e
    obtain ⟨ys, μ2, e2, e⟩ := RE.bind_ok e
    cases e
    refine ⟨W, g, μ, x.1, x.2, μ1, s, e1, fun W1 v s1 ok1 mu1 r1 => ?_⟩
    have fin : ∀ W2, W2.H = W1.H → Stp W W2 → Wok W2 → MuOk X.K W2 μ1 → VA X.K W2 g σ x v → TAv X.K fs σ W1.H fun vs H2 => Q (v :: vs) H2 := fun W2 hH s2 ok2 mu2 r2 => by
      refine ⟨W2, g, μ1, ys, μ', ⟨hH, ok2, mu2, s.g.mono s2 s.ok⟩, e2, fun W3 vs s3 ok3 mu3 r3 => ?_⟩
      exact q W3 _ (s2.trans ok2 s3) ok3 mu3 ⟨v, vs, rfl, r2.mono s3 ok2, r3⟩
    by_cases hb : isBo x.2 = true
    · refine fin W1 rfl s1 ok1 mu1 ?_
      unfold VA
      cases hk : x.2 with
      | bo i => rw [hk] at r1; exact r1
      | pl => rw [hk] at hb; cases hb
      | fr => rw [hk] at hb; cases hb
    · obtain ⟨W2, p⟩ := r1.plain s1 s.ok ok1 mu1 s.g fun i z => hb (by rw [z]; rfl)
      refine fin W2 p.h p.s p.ok p.mu ?_
      unfold VA
      cases hk : x.2 with
      | bo i => rw [hk] at hb; exact absurd rfl hb
      | pl => exact p.r
      | fr => exact p.r

/-! ### tests -/
def tstV (f : Slots → Mu → RE DK) : Slots → Mu → RE Bool := fun g μ => (f g μ).bind fun x μ1 => .of (truD x.1) μ1
theorem tru_bl {d : D} {b : Bool} (h : truD d = some b) : d = .bl b := by
  unfold truD at h
  split at h
  · cases h; rfl
  · cases h
theorem vr_bl {K : PySem.W.Frag} {W W' : Wr} {g : Slots} {σ : L2.St} {b : Bool} {k : Kd} {v : V} (h : VR K W W' g σ (.bl b) k v) : v = .bl b := by
  cases k with
  | pl => cases h; rfl
  | fr => obtain ⟨p, vs, l, e, _⟩ := h; cases e
  | bo i => obtain ⟨l, e, _⟩ := h; cases e
theorem vr_int {K : PySem.W.Frag} {W W' : Wr} {g : Slots} {σ : L2.St} {b : Int} {k : Kd} {v : V} (h : VR K W W' g σ (.int b) k v) : v = .int b := by
  cases k with
  | pl => cases h; rfl
  | fr => obtain ⟨p, vs, l, e, _⟩ := h; cases e
  | bo i => obtain ⟨l, e, _⟩ := h; cases e
theorem tb_of {K : PySem.W.Frag} {f : Slots → Mu → RE DK} {σ : L2.St} {H : Hp} {Q : Bool → Hp → Prop} (h : TTv K (tstV f) σ H Q) : tB (TEv K f) σ H Q := by
  obtain ⟨W, g, μ, b, μ', s, e, q⟩ := h
  obtain ⟨x, μ1, e1, e⟩ := RE.bind_ok e
  obtain ⟨e2, rfl⟩ := RE.of_ok e
  refine ⟨W, g, μ, x.1, x.2, _, s, e1, fun W1 v s1 ok1 mu1 r1 => ?_⟩
  rw [tru_bl e2] at r1
  exact ⟨b, vr_bl r1, q W1 s1 ok1 mu1⟩
theorem dt_val (h : DE X e fa) (he : ∀ whole, isTrue e X.env whole = (do let v ← whole; standAt e.pos; holding [v] (truthy v))) : DT X e (tstV fa) := PT.imp (pt_val h he) fun _ _ _ q => tb_of q
theorem de_cmp {op : CmpOp} (hu : X.A.units + 65 < cLine) (ha : DE X a fa) (hb : DE X b fb) (hm : behindInMarks op b = false) :
    DE X (.Compare a [op] [b] pos) fun s μ => (fa s μ).bind fun x μ1 => (fb s μ1).bind fun y μ2 => .of ((cmpD op x.1 y.1).map fun b => (.bl b, .pl)) μ2 :=
  PE.imp (pe_cmpR (op_cmpD hu op) ha hb hm) fun σ H Q q => by
    obtain ⟨W, sl, μ, d, k, μ', s, e, q⟩ := q
    obtain ⟨x, μ1, ea, e⟩ := RE.bind_ok e
    obtain ⟨y, μ2, eb, e⟩ := RE.bind_ok e
    obtain ⟨e4, rfl⟩ := RE.of_ok e
    refine tev2 s ea eb fun W2 u v s2 ok2 mu2 r1 r2 => ?_
    have gok := s.g.mono s2 s.ok
    exact ⟨W2, x.1, y.1, d, k, rfl, ok2, r1.rd gok, r2.rd gok, e4, fun W3 w s3 ok3 r3 => q W3 w (s2.trans ok2 s3.stp) ok3 (mu2.grw s3 ok2) (r3.vr s2 ok2)⟩
theorem dt_cmp {op : CmpOp} (hu : X.A.units + 65 < cLine) (ha : DE X a fa) (hb : DE X b fb) (hm : behindInMarks op b = false) :
    DT X (.Compare a [op] [b] pos) (tstV fun s μ => (fa s μ).bind fun x μ1 => (fb s μ1).bind fun y μ2 => .of ((cmpD op x.1 y.1).map fun b => (.bl b, .pl)) μ2) :=
  PT.imp (pt_cmpR (op_cmpD hu op) ha hb hm) fun σ H Q q => by
    obtain ⟨W, sl, μ, t, μ', s, e, q⟩ := q
    obtain ⟨z, μ3, e, e3⟩ := RE.bind_ok e
    obtain ⟨x, μ1, ea, e⟩ := RE.bind_ok e
    obtain ⟨y, μ2, eb, e⟩ := RE.bind_ok e
    obtain ⟨e4, rfl⟩ := RE.of_ok e
    obtain ⟨e5, rfl⟩ := RE.of_ok e3
    refine tev2 s ea eb fun W2 u v s2 ok2 mu2 r1 r2 => ?_
    have gok := s.g.mono s2 s.ok
    refine ⟨W2, x.1, y.1, z.1, z.2, rfl, ok2, r1.rd gok, r2.rd gok, e4, fun W3 w s3 ok3 r3 => ?_⟩
    have r4 : VR X.K W W3 sl σ z.1 z.2 w := r3.vr s2 ok2
    rw [tru_bl e5] at r4
    exact ⟨t, vr_bl r4, q W3 (s2.trans ok2 s3.stp) ok3 (mu2.grw s3 ok2)⟩
/-- a op1 b op2 c -/
theorem de_cmp2 {o1 o2 : CmpOp} (hu : X.A.units + 65 < cLine) (ha : DE X a fa) (hb : DE X b fb) (hc : DE X c fc) (hm : lastMarks [o1, o2] [b, c] = false) :
    DE X (.Compare a [o1, o2] [b, c] pos) fun g μ => (fa g μ).bind fun x μ1 => (fb g μ1).bind fun y μ2 => match cmpD o1 x.1 y.1 with
      | some true => (fc g μ2).bind fun z μ3 => .of ((cmpD o2 y.1 z.1).map fun b => (.bl b, .pl)) μ3
      | some false => .ok (.bl false, .pl) μ2
      | none => .no :=
  PE.imp (pe_chain (op_cmpD hu o1) (op_cmpD hu o2) ha hb hc hm) fun σ H Q q => by
    obtain ⟨W, sl, μ, d, k, μ', s, e, q⟩ := q
    obtain ⟨x, μ1, ea, e⟩ := RE.bind_ok e
    obtain ⟨y, μ2, eb, e⟩ := RE.bind_ok e
    refine tev2 s ea eb fun W2 u v s2 ok2 mu2 r1 r2 => ?_
    have gok := s.g.mono s2 s.ok
    cases hcmp : cmpD o1 x.1 y.1 with
    | none => rw [hcmp] at e; cases e
    | some t =>
      rw [hcmp] at e
      refine ⟨W2, x.1, y.1, .bl t, .pl, rfl, ok2, r1.rd gok, r2.rd gok, by unfold cmpK; rw [hcmp]; rfl, fun W3 w s3 ok3 r3 => ?_⟩
      have ew : w = .bl t := by cases r3; rfl
      subst ew
      refine ⟨t, rfl, ?_⟩
      have s13 := s2.trans ok2 s3.stp
      have mu3 := mu2.grw s3 ok2
      cases t with
      | false =>
        cases e
        exact iteF (q W3 _ s13 ok3 mu3 (.bl false))
      | true =>
        obtain ⟨z, μ3, ez, e⟩ := RE.bind_ok e
        obtain ⟨e6, rfl⟩ := RE.of_ok e
        refine iteT ⟨W3, sl, μ2, z.1, z.2, _, ⟨rfl, ok3, mu3, s.g.mono s13 s.ok⟩, ez, fun W4 w' s4 ok4 mu4 r4 => ?_⟩
        have s14 := s13.trans ok3 s4
        have gok4 := s.g.mono s14 s.ok
        refine ⟨W4, y.1, z.1, d, k, rfl, ok4, ((r2.mono (s3.stp) ok2).mono s4 ok3).rd gok4, r4.rd gok4, e6, fun W5 w5 s5 ok5 r5 => ?_⟩
        exact q W5 w5 (s14.trans ok4 s5.stp) ok5 (mu4.grw s5 ok4) (r5.vr s14 ok4)
theorem dt_cmp2 {o1 o2 : CmpOp} (hu : X.A.units + 65 < cLine) (ha : DE X a fa) (hb : DE X b fb) (hc : DE X c fc) (hm : lastMarks [o1, o2] [b, c] = false) :
    DT X (.Compare a [o1, o2] [b, c] pos) (tstV fun g μ => (fa g μ).bind fun x μ1 => (fb g μ1).bind fun y μ2 => match cmpD o1 x.1 y.1 with
      | some true => (fc g μ2).bind fun z μ3 => .of ((cmpD o2 y.1 z.1).map fun b => (.bl b, .pl)) μ3
      | some false => .ok (.bl false, .pl) μ2
      | none => .no) :=
  PT.imp (pt_chain (op_cmpD hu o1) (op_cmpD hu o2) ha hb hc hm) fun σ H Q q => by
    obtain ⟨W, sl, μ, t0, μ', s, e0, q⟩ := q
    obtain ⟨z0, μ0, e, e00⟩ := RE.bind_ok e0
    obtain ⟨e01, rfl⟩ := RE.of_ok e00
    obtain ⟨x, μ1, ea, e⟩ := RE.bind_ok e
    obtain ⟨y, μ2, eb, e⟩ := RE.bind_ok e
    refine tev2 s ea eb fun W2 u v s2 ok2 mu2 r1 r2 => ?_
    have gok := s.g.mono s2 s.ok
    cases hcmp : cmpD o1 x.1 y.1 with
    | none => rw [hcmp] at e; cases e
    | some t =>
      rw [hcmp] at e
      refine ⟨W2, x.1, y.1, .bl t, .pl, rfl, ok2, r1.rd gok, r2.rd gok, by unfold cmpK; rw [hcmp]; rfl, fun W3 w s3 ok3 r3 => ?_⟩
      have ew : w = .bl t := by cases r3; rfl
      subst ew
      refine ⟨t, rfl, ?_⟩
      have s13 := s2.trans ok2 s3.stp
      have mu3 := mu2.grw s3 ok2
      cases t with
      | false =>
        cases e
        cases e01
        exact iteF ⟨false, rfl, q W3 s13 ok3 mu3⟩
      | true =>
        obtain ⟨z, μ3, ez, e⟩ := RE.bind_ok e
        obtain ⟨e6, rfl⟩ := RE.of_ok e
        refine iteT ⟨W3, sl, μ2, z.1, z.2, _, ⟨rfl, ok3, mu3, s.g.mono s13 s.ok⟩, ez, fun W4 w' s4 ok4 mu4 r4 => ?_⟩
        have s14 := s13.trans ok3 s4
        have gok4 := s.g.mono s14 s.ok
        refine ⟨W4, y.1, z.1, z0.1, z0.2, rfl, ok4, ((r2.mono (s3.stp) ok2).mono s4 ok3).rd gok4, r4.rd gok4, e6, fun W5 w5 s5 ok5 r5 => ?_⟩
        have r6 : VR X.K W W5 sl σ z0.1 z0.2 w5 := r5.vr s14 ok4
        rw [tru_bl e01] at r6
        exact ⟨t0, vr_bl r6, q W5 (s14.trans ok4 s5.stp) ok5 (mu4.grw s5 ok4)⟩

/-! ### logic -/
def andF (fa fb : Slots → Mu → RE DK) : Slots → Mu → RE DK := fun g μ => (fa g μ).bind fun x μ1 => match x.1 with | .bl true => fb g μ1 | .bl false => .ok (.bl false, .pl) μ1 | _ => .no
def orF (fa fb : Slots → Mu → RE DK) : Slots → Mu → RE DK := fun g μ => (fa g μ).bind fun x μ1 => match x.1 with | .bl true => .ok (.bl true, .pl) μ1 | .bl false => fb g μ1 | _ => .no
def notF (fa : Slots → Mu → RE DK) : Slots → Mu → RE DK := fun g μ => (fa g μ).bind fun x μ1 => match truD x.1 with | some b => .ok (.bl (!b), .pl) μ1 | none => .no
def iteFn (ft fa fb : Slots → Mu → RE DK) : Slots → Mu → RE DK := fun g μ => (ft g μ).bind fun x μ1 => match truD x.1 with | some true => fa g μ1 | some false => fb g μ1 | none => .no
theorem andF_ok {g : Slots} {μ μ' : Mu} {r : DK} (h : andF fa fb g μ = .ok r μ') : ∃ x t μ1, fa g μ = .ok x μ1 ∧ x.1 = .bl t ∧ (if t = true then fb g μ1 = .ok r μ' else r = (.bl false, .pl) ∧ μ' = μ1) := by
  obtain ⟨x, μ1, e1, e⟩ := RE.bind_ok h
  split at e
  · rename_i hx; exact ⟨x, true, μ1, e1, hx, iteT e⟩
  · rename_i hx; cases e; exact ⟨x, false, _, e1, hx, iteF ⟨rfl, rfl⟩⟩
  · cases e
theorem orF_ok {g : Slots} {μ μ' : Mu} {r : DK} (h : orF fa fb g μ = .ok r μ') : ∃ x t μ1, fa g μ = .ok x μ1 ∧ x.1 = .bl t ∧ (if t = true then r = (.bl true, .pl) ∧ μ' = μ1 else fb g μ1 = .ok r μ') := by
  obtain ⟨x, μ1, e1, e⟩ := RE.bind_ok h
  split at e
  · rename_i hx; cases e; exact ⟨x, true, _, e1, hx, iteT ⟨rfl, rfl⟩⟩
  · rename_i hx; exact ⟨x, false, μ1, e1, hx, iteF e⟩
  · cases e
theorem de_and {rest : List Expr} (ha : DE X a fa) (hb : DE X (.BoolOp .And (b :: rest) pos) fb) : DE X (.BoolOp .And (a :: b :: rest) pos) (andF fa fb) :=
  PE.imp (pe_and ha hb) fun σ H Q ⟨W, g, μ, d, k, μ', s, e, q⟩ => by
    obtain ⟨x, t, μ1, e1, ex, e⟩ := andF_ok e
    refine ⟨W, g, μ, x.1, x.2, μ1, s, e1, fun W1 v s1 ok1 mu1 r1 => ?_⟩
    rw [ex] at r1
    refine ⟨t, vr_bl r1, ?_⟩
    cases t with
    | true =>
      rw [if_pos rfl] at e
      refine iteT ⟨W1, g, μ1, d, k, μ', s.step s1 ok1 mu1, e, fun W2 v2 s2 ok2 mu2 r2 => q W2 v2 (s1.trans ok1 s2) ok2 mu2 (s1.back ok1 r2)⟩
    | false =>
      rw [if_neg Bool.false_ne_true] at e
      obtain ⟨e2, rfl⟩ := e
      cases e2
      exact iteF (q W1 _ s1 ok1 mu1 (.bl false))
theorem de_or {rest : List Expr} (ha : DE X a fa) (hb : DE X (.BoolOp .Or (b :: rest) pos) fb) : DE X (.BoolOp .Or (a :: b :: rest) pos) (orF fa fb) :=
  PE.imp (pe_or ha hb) fun σ H Q ⟨W, g, μ, d, k, μ', s, e, q⟩ => by
    obtain ⟨x, t, μ1, e1, ex, e⟩ := orF_ok e
    refine ⟨W, g, μ, x.1, x.2, μ1, s, e1, fun W1 v s1 ok1 mu1 r1 => ?_⟩
    rw [ex] at r1
    refine ⟨t, vr_bl r1, ?_⟩
    cases t with
    | false =>
      rw [if_neg Bool.false_ne_true] at e
      refine iteF ⟨W1, g, μ1, d, k, μ', s.step s1 ok1 mu1, e, fun W2 v2 s2 ok2 mu2 r2 => q W2 v2 (s1.trans ok1 s2) ok2 mu2 (s1.back ok1 r2)⟩
    | true =>
      rw [if_pos rfl] at e
      obtain ⟨e2, rfl⟩ := e
      cases e2
      exact iteT (q W1 _ s1 ok1 mu1 (.bl true))
theorem de_one {op : BoolOp} (h : DE X a fa) : DE X (.BoolOp op [a] pos) fa := pe_one h
abbrev DW (X : Cx) (e : Expr) (f : Slots → Mu → RE Bool) : Prop := PW X e (TTv X.K f)
theorem PW.imp {X : Cx} {e : Expr} {t t' : TT} (h : PW X e t) (i : ∀ σ H Q, t' σ H Q → t σ H Q) : PW X e t' := ⟨fun wh pins s σ H Q I q => h.run wh pins s σ H Q I (i _ _ _ q)⟩
theorem dw_and1 (ha : DT X a (tstV fa)) : DW X (.BoolOp .And [a] pos) (tstV fa) := pw_and1 ha
theorem dw_or1 (ha : DT X a (tstV fa)) : DW X (.BoolOp .Or [a] pos) (tstV fa) := pw_or1 ha
theorem dw_and {rest : List Expr} (ha : DT X a (tstV fa)) (hb : DW X (.BoolOp .And (b :: rest) pos) (tstV fb)) : DW X (.BoolOp .And (a :: b :: rest) pos) (tstV (andF fa fb)) :=
  PW.imp (pw_and ha hb) fun σ H Q ⟨W, g, μ, t0, μ', s, e0, q⟩ => by
    obtain ⟨z, μ0, e, e00⟩ := RE.bind_ok e0
    obtain ⟨e01, rfl⟩ := RE.of_ok e00
    obtain ⟨x, t, μ1, e1, ex, e⟩ := andF_ok e
    refine ⟨W, g, μ, t, μ1, s, by unfold tstV; rw [e1]; show RE.of (truD x.1) μ1 = _; rw [ex]; rfl, fun W1 s1 ok1 mu1 => ?_⟩
    cases t with
    | true =>
      rw [if_pos rfl] at e
      exact iteT ⟨W1, g, μ1, t0, _, s.step s1 ok1 mu1, by unfold tstV; rw [e]; show RE.of (truD z.1) _ = _; rw [e01]; rfl, fun W2 s2 ok2 mu2 => q W2 (s1.trans ok1 s2) ok2 mu2⟩
    | false =>
      rw [if_neg Bool.false_ne_true] at e
      obtain ⟨e2, rfl⟩ := e
      subst e2
      cases e01
      exact iteF (q W1 s1 ok1 mu1)
theorem dw_or {rest : List Expr} (ha : DT X a (tstV fa)) (hb : DW X (.BoolOp .Or (b :: rest) pos) (tstV fb)) : DW X (.BoolOp .Or (a :: b :: rest) pos) (tstV (orF fa fb)) :=
  PW.imp (pw_or ha hb) fun σ H Q ⟨W, g, μ, t0, μ', s, e0, q⟩ => by
    obtain ⟨z, μ0, e, e00⟩ := RE.bind_ok e0
    obtain ⟨e01, rfl⟩ := RE.of_ok e00
    obtain ⟨x, t, μ1, e1, ex, e⟩ := orF_ok e
    refine ⟨W, g, μ, t, μ1, s, by unfold tstV; rw [e1]; show RE.of (truD x.1) μ1 = _; rw [ex]; rfl, fun W1 s1 ok1 mu1 => ?_⟩
    cases t with
    | false =>
      rw [if_neg Bool.false_ne_true] at e
      exact iteF ⟨W1, g, μ1, t0, _, s.step s1 ok1 mu1, by unfold tstV; rw [e]; show RE.of (truD z.1) _ = _; rw [e01]; rfl, fun W2 s2 ok2 mu2 => q W2 (s1.trans ok1 s2) ok2 mu2⟩
    | true =>
      rw [if_pos rfl] at e
      obtain ⟨e2, rfl⟩ := e
      subst e2
      cases e01
      exact iteT (q W1 s1 ok1 mu1)
theorem dt_w {f : Slots → Mu → RE Bool} (h : DW X e f) : DT X e f := h.pt
theorem notF_ok {g : Slots} {μ μ' : Mu} {r : DK} (h : notF fa g μ = .ok r μ') : ∃ x t, fa g μ = .ok x μ' ∧ truD x.1 = some t ∧ r = (.bl (!t), .pl) := by
  obtain ⟨x, μ1, e1, e⟩ := RE.bind_ok h
  split at e
  · rename_i t hx; cases e; exact ⟨x, t, e1, hx, rfl⟩
  · cases e
theorem de_not (ha : DE X a fa) : DE X (.UnaryOp .Not a pos) (notF fa) :=
  PE.imp (pe_not ha) fun σ H Q ⟨W, g, μ, d, k, μ', s, e, q⟩ => by
    obtain ⟨x, t, e1, ex, er⟩ := notF_ok e
    cases er
    refine ⟨W, g, μ, x.1, x.2, μ', s, e1, fun W1 v s1 ok1 mu1 r1 => ?_⟩
    rw [tru_bl ex] at r1
    exact ⟨t, vr_bl r1, q W1 _ s1 ok1 mu1 (.bl _)⟩
theorem dt_not (ha : DT X a (tstV fa)) : DT X (.UnaryOp .Not a pos) (tstV (notF fa)) :=
  PT.imp (pt_not ha) fun σ H Q ⟨W, g, μ, t0, μ', s, e0, q⟩ => by
    obtain ⟨z, μ0, e, e00⟩ := RE.bind_ok e0
    obtain ⟨e01, rfl⟩ := RE.of_ok e00
    obtain ⟨x, t, e1, ex, er⟩ := notF_ok e
    subst er
    cases e01
    exact ⟨W, g, μ, t, _, s, by unfold tstV; rw [e1]; show RE.of (truD x.1) _ = _; rw [ex]; rfl, fun W1 s1 ok1 mu1 => q W1 s1 ok1 mu1⟩
theorem de_ite {t : Expr} {ft : Slots → Mu → RE DK} (ht : DT X t (tstV ft)) (ha : DE X a fa) (hb : DE X b fb) : DE X (.IfExp t a b pos) (iteFn ft fa fb) :=
  PE.imp (pe_ifExp ht ha hb) fun σ H Q ⟨W, g, μ, d, k, μ', s, e, q⟩ => by
    obtain ⟨x, μ1, e1, e⟩ := RE.bind_ok e
    have next : ∀ W1, Stp W W1 → Wok W1 → MuOk X.K W1 μ1 → ∀ f : Slots → Mu → RE DK, f g μ1 = .ok (d, k) μ' → TEv X.K f σ W1.H Q := fun W1 s1 ok1 mu1 f ef =>
      ⟨W1, g, μ1, d, k, μ', s.step s1 ok1 mu1, ef, fun W2 v2 s2 ok2 mu2 r2 => q W2 v2 (s1.trans ok1 s2) ok2 mu2 (s1.back ok1 r2)⟩
    split at e
    · rename_i hx
      exact ⟨W, g, μ, true, μ1, s, by unfold tstV; rw [e1]; show RE.of (truD x.1) _ = _; rw [hx]; rfl, fun W1 s1 ok1 mu1 => iteT (next W1 s1 ok1 mu1 _ e)⟩
    · rename_i hx
      exact ⟨W, g, μ, false, μ1, s, by unfold tstV; rw [e1]; show RE.of (truD x.1) _ = _; rw [hx]; rfl, fun W1 s1 ok1 mu1 => iteF (next W1 s1 ok1 mu1 _ e)⟩
    · cases e
theorem de_neg (ha : DE X a fa) : DE X (.UnaryOp .USub a pos) fun g μ => (fa g μ).bind fun x μ1 => match x.1 with | .int i => .ok (.int (-i), .pl) μ1 | _ => .no :=
  PE.imp (pe_un un_neg ha) fun σ H Q ⟨W, g, μ, d, k, μ', s, e, q⟩ => by
    obtain ⟨x, μ1, e1, e⟩ := RE.bind_ok e
    split at e
    · rename_i i hx
      cases e
      refine ⟨W, g, μ, x.1, x.2, _, s, e1, fun W1 v s1 ok1 mu1 r1 => ?_⟩
      rw [hx] at r1
      exact ⟨i, vr_int r1, q W1 _ s1 ok1 mu1 (.int _)⟩
    · cases e

/-! ### displays -/
theorem MuOk.tup {K : PySem.W.Frag} {W : Wr} {μ : Mu} (h : MuOk K W μ) (ok : Wok W) {p : Addr} {vs : List V} (n : W.H p = none) : MuOk K (W.tup p vs) μ := h.grw (grw_tup n) ok
theorem de_tup {x1 : Nat} (h : DA X es fs) : DE X (.Tuple es x1 pos) fun g μ => (fs g μ).bind fun xs μ1 => if noBo xs && decide (xs.length ≤ SZ) then .ok (.tup (xs.map (·.1)), .pl) μ1 else .no :=
  PE.imp (pe_tup h) fun σ H Q ⟨W, g, μ, d, k, μ', s, e, q⟩ => by
    obtain ⟨xs, μ1, e1, e⟩ := RE.bind_ok e
    split at e <;> cases e
    rename_i hc
    rw [Bool.and_eq_true] at hc
    refine ⟨W, g, μ, xs, _, s, e1, fun W1 vs s1 ok1 mu1 r1 => ?_⟩
    have rr := VAs.rep hc.1 r1
    have hz : vs.length ≤ 16777216 := by
      have := rr.length
      rw [List.length_map] at this
      rw [← this]
      exact of_decide_eq_true hc.2
    refine ⟨?_, fun p n => ?_⟩
    · rw [← sz_eq]; exact hz
    · exact q (W1.tup p vs) _ (s1.trans ok1 (grw_tup n).stp) (wok_tup ok1 n hz) (mu1.grw (grw_tup n) ok1) (rep_tup ok1 n rr)
theorem de_lst (h : DA X es fs) : DE X (.List es pos) fun g μ => (fs g μ).bind fun xs μ1 => if noBo xs && decide (xs.length ≤ SZ) then .ok (.lst (xs.map (·.1)), .fr) μ1 else .no :=
  PE.imp (pe_lst h) fun σ H Q ⟨W, g, μ, d, k, μ', s, e, q⟩ => by
    obtain ⟨xs, μ1, e1, e⟩ := RE.bind_ok e
    split at e <;> cases e
    rename_i hc
    rw [Bool.and_eq_true] at hc
    refine ⟨W, g, μ, xs, _, s, e1, fun W1 vs s1 ok1 mu1 r1 => ?_⟩
    have rr := VAs.rep hc.1 r1
    have hz : vs.length ≤ 16777216 := by
      have := rr.length
      rw [List.length_map] at this
      rw [← this]
      exact of_decide_eq_true hc.2
    refine ⟨?_, fun p n => ?_⟩
    · rw [← sz_eq]; exact hz
    · exact q (W1.lst p vs) _ (s1.trans ok1 (grw_lst n).stp) (wok_lst ok1 n hz) (mu1.grw (grw_lst n) ok1) ((vn_lst ok1 n rr).vr s1 ok1)
end
end NT

set_option Elab.async false
set_option linter.all false
set_option maxRecDepth 100000
set_option maxHeartbeats 1000000
set_option autoImplicit false
/-! Items, slices, built-in functions, join. -/
namespace NT
open PySem PySem.Spec PyProof.Rows L2

section
variable {K : PySem.W.Frag} {W W' W'' W0 : Wr}
theorem mut_lst {μ : Mu} (mu : MuOk K W μ) {i : Nat} {l : List D} {v : V} (h : RdV K W (.mut i) v) (e : μ[i]? = some l) : ∃ p vs, v = .ref p ∧ W.ι[i]? = some p ∧ W.H p = some (.lst vs) ∧ RepL K W l vs := by
  rcases h with h | ⟨_, _, _, z, _⟩
  · cases h with
    | «mut» h =>
      obtain ⟨a, vs, h1, h2, h3⟩ := mu.at_ i l e
      rw [h] at h1; cases h1
      exact ⟨_, vs, rfl, h, h2, h3⟩
  · cases z
theorem RepL.at {ds : List D} {vs : List V} {k : Int} {d : D} (r : RepL K W ds vs) (h : atI ds k = some d) : ∃ v, atI vs k = some v ∧ Rep K W d v := by
  unfold atI at h ⊢
  rw [← r.length]
  cases e : ixN ds.length k with
  | none => rw [e] at h; cases h
  | some j => rw [e] at h; exact r.get h
theorem atI_map {α β : Type} (f : α → β) (l : List α) (k : Int) : atI (l.map f) k = (atI l k).map f := by
  unfold atI
  rw [List.length_map]
  cases ixN l.length k with
  | none => rfl
  | some j => simp
theorem len1 (c : Nat) : (⟨#[c]⟩ : Str).length ≤ 16777216 := by show 1 ≤ 16777216; decide
theorem cut_rep {ds : List D} {vs : List V} (r : RepL K W ds vs) (lo hi : Option Int) : RepL K W (cutL ds lo hi) (cutV vs lo hi) := by
  unfold cutL cutV
  rw [← r.length]
  exact (r.drop _).take _
end

section
variable {X : Cx} {e a b c : Expr} {es : List Expr} {fa fb fc : Slots → Mu → RE DK} {ft fu : Slots → Mu → RE Bool} {fs : Slots → Mu → RE (List DK)} {pos : Pos}
/-! ### items -/
def rDix (K : PySem.W.Frag) : R2 := fun x y H Q => ∃ W μ d i r, W.H = H ∧ Wok W ∧ MuOk K W μ ∧ RdV K W d x ∧ RdV K W i y ∧ idxD μ d i = some r ∧ ∀ v, Rep K W r v → Q v W.H
theorem ix_D : IxR X (rDix X.K) := by
  intro value slice pins s σ H x y v u Q I rx ry h hs
  obtain ⟨W, μ, d, i, r, hH, ok, mu, hx, hy, e, q⟩ := h
  subst hH
  unfold idxD at e
  split at e
  · rename_i k
    obtain rfl := rd_int hy
    split at e
    · obtain ⟨p, vs, rfl, hp, rr⟩ := rd_lst hx
      obtain ⟨w, h1, h2⟩ := rr.at e
      exact ix_list value slice pins s σ _ _ _ v u Q I rx ry ⟨p, vs, k, w, rfl, rfl, SqL.of hp, h1, q w h2⟩ hs
    · obtain ⟨p, vs, rfl, hp, rr⟩ := rd_tup hx
      obtain ⟨w, h1, h2⟩ := rr.at e
      exact ix_tup value slice pins s σ _ _ _ v u Q I rx ry ⟨p, vs, k, w, rfl, rfl, hp.sq, h1, q w h2⟩ hs
    · obtain ⟨c, h1, h2⟩ := Option.map_eq_some_iff.mp e
      subst h2
      rcases hx with hx | ⟨_, _, _, z, _⟩
      · cases hx with
        | str _ hz => exact ix_str value slice pins s σ _ _ _ v u Q I rx ry ⟨_, k, c, rfl, rfl, by rw [← sz_eq]; exact hz, h1, q _ (.str _ (len1 c))⟩ hs
      · cases z
    · rename_i j
      cases hj : μ[j]? with
      | none => rw [hj] at e; cases e
      | some l =>
        rw [hj] at e
        obtain ⟨p, vs, rfl, hi, hp, rr⟩ := mut_lst mu hx hj
        obtain ⟨w, h1, h2⟩ := rr.at (show atI l k = some r from e)
        exact ix_list value slice pins s σ _ _ _ v u Q I rx ry ⟨p, vs, k, w, rfl, rfl, SqL.of hp, h1, q w h2⟩ hs
    · rename_i ns
      obtain ⟨n, h1, h2⟩ := Option.map_eq_some_iff.mp e
      subst h2
      obtain ⟨p, rfl, hp⟩ := rd_scr hx
      exact ix_list value slice pins s σ _ _ _ v u Q I rx ry ⟨p, _, k, .int n, rfl, rfl, hp, by rw [atI_map, h1]; rfl, q _ (.int n)⟩ hs
    · cases e
  · cases e
theorem de_idx (ha : DE X a fa) (hb : DE X b fb) (hs : PlainIx b) : DE X (.Subscript a b pos) fun g μ => (fa g μ).bind fun x μ1 => (fb g μ1).bind fun y μ2 => .of ((idxD μ2 x.1 y.1).map fun d => (d, .pl)) μ2 :=
  PE.imp (pe_ix ix_D ha hb hs) fun σ H Q ⟨W, g, μ, d, k, μ', s, e, q⟩ => by
    obtain ⟨x, μ1, e1, e⟩ := RE.bind_ok e
    obtain ⟨y, μ2, e2, e⟩ := RE.bind_ok e
    obtain ⟨e4, rfl⟩ := RE.of_ok e
    obtain ⟨r, e5, e6⟩ := Option.map_eq_some_iff.mp e4
    cases e6
    refine tev2 s e1 e2 fun W2 u v s2 ok2 mu2 r1 r2 => ?_
    have gok := s.g.mono s2 s.ok
    exact ⟨W2, _, x.1, y.1, d, rfl, ok2, mu2, r1.rd gok, r2.rd gok, e5, fun w hw => q W2 w s2 ok2 mu2 hw⟩

/-! ### slices -/
def TOv (K : PySem.W.Frag) (f : Slots → Mu → RE (Option Int)) : TO := fun σ H Q => ∃ W g μ o μ', Sta K W g μ σ H ∧ f g μ = .ok o μ' ∧ ∀ W', Stp W W' → Wok W' → MuOk K W' μ' → Q o W'.H
abbrev DO (X : Cx) (o : Option Expr) (f : Slots → Mu → RE (Option Int)) : Prop := PO X o (TOv X.K f)
theorem PO.imp {X : Cx} {o : Option Expr} {t t' : TO} (h : PO X o t) (i : ∀ σ H Q, t' σ H Q → t σ H Q) : PO X o t' := ⟨fun pins s σ H Q I q => h.run pins s σ H Q I (i _ _ _ q)⟩
theorem do_none : DO X none fun _ μ => .ok none μ := PO.imp po_none fun σ H Q ⟨W, g, μ, o, μ', s, e, q⟩ => by
  cases e
  show Q none H
  rw [← s.h]
  exact q W .refl s.ok s.mu
theorem do_some (h : DE X e fa) : DO X (some e) fun g μ => (fa g μ).bind fun x μ1 => match x.1 with | .int i => .ok (some i) μ1 | _ => .no :=
  PO.imp (po_some h) fun σ H Q ⟨W, g, μ, o, μ', s, e, q⟩ => by
    obtain ⟨x, μ1, e1, e⟩ := RE.bind_ok e
    split at e
    · rename_i i hx
      cases e
      refine ⟨W, g, μ, x.1, x.2, _, s, e1, fun W1 v s1 ok1 mu1 r1 => ?_⟩
      rw [hx] at r1
      exact ⟨i, vr_int r1, q W1 s1 ok1 mu1⟩
    · cases e
def rDsl (K : PySem.W.Frag) : V → Option Int → Option Int → Hp → L2.VK → Prop := fun x lo hi H Q => ∃ W d r k, W.H = H ∧ Wok W ∧ RdV K W d x ∧ cutD d lo hi = some (r, k) ∧ ∀ W' v, Grw W W' → Wok W' → VN K W W' r k v → Q v W'.H
theorem sl_D : SlR X (rDsl X.K) := by
  intro pins s σ H x v vl vu lo hi sl Q I rx hs pl pu h
  obtain ⟨W, d, r, k, hH, ok, hx, e, q⟩ := h
  subst hH
  unfold cutD at e
  split at e
  · cases e
    obtain ⟨p, vs, rfl, hp, rr⟩ := rd_lst hx
    exact sl_list pins s σ _ _ v vl vu lo hi sl Q I rx hs pl pu ⟨p, vs, rfl, SqL.of hp, fun z n => q (W.lst z _) _ (grw_lst n) (wok_lst ok n (Nat.le_trans (cutV_length _ lo hi) (ok.z _ _ (.inl hp)))) (vn_lst ok n (cut_rep rr lo hi))⟩
  · split at e <;> cases e
    rename_i hw
    obtain ⟨p, vs, rfl, hp, rr⟩ := rd_tup hx
    rw [rr.length] at hw
    exact sl_tup pins s σ _ _ v vl vu lo hi sl Q I rx hs pl pu ⟨p, vs, rfl, hp.sq, hw, fun z n => q (W.tup z _) _ (grw_tup n) (wok_tup ok n (Nat.le_trans (cutV_length _ lo hi) (hp.len ok))) (rep_tup ok n (cut_rep rr lo hi))⟩
  · cases e
    rcases hx with hx | ⟨_, _, _, z, _⟩
    · cases hx with
      | str _ hz =>
        exact sl_str pins s σ _ _ v vl vu lo hi sl Q I rx hs pl pu ⟨_, rfl, by rw [← sz_eq]; exact hz, q W _ .refl ok (.str _ (Nat.le_trans (cutS_length _ lo hi) hz))⟩
    · cases z
  · cases e
end
end NT

set_option Elab.async false
set_option linter.all false
set_option maxRecDepth 100000
set_option maxHeartbeats 1000000
set_option autoImplicit false
/-! Slices as expressions, built-in functions, isinstance, join. -/
namespace NT
open PySem PySem.Spec PyProof.Rows L2

section
variable {X : Cx} {e a b c : Expr} {es : List Expr} {fa fb fc : Slots → Mu → RE DK} {ft fu : Slots → Mu → RE Bool} {fs : Slots → Mu → RE (List DK)} {pos : Pos}
theorem de_cut {lo hi : Option Expr} {fl fh : Slots → Mu → RE (Option Int)} {p2 : Pos} (ha : DE X a fa) (hl : DO X lo fl) (hh : DO X hi fh) :
    DE X (.Subscript a (.Slice lo hi none p2) pos) fun g μ => (fa g μ).bind fun x μ1 => (fl g μ1).bind fun l μ2 => (fh g μ2).bind fun h μ3 => .of (cutD x.1 l h) μ3 :=
  PE.imp (pe_slice sl_D ha hl hh) fun σ H Q ⟨W, g, μ, d, k, μ', s, e, q⟩ => by
    obtain ⟨x, μ1, e1, e⟩ := RE.bind_ok e
    obtain ⟨l, μ2, e2, e⟩ := RE.bind_ok e
    obtain ⟨h, μ3, e3, e⟩ := RE.bind_ok e
    obtain ⟨e4, rfl⟩ := RE.of_ok e
    refine ⟨W, g, μ, x.1, x.2, μ1, s, e1, fun W1 u s1 ok1 mu1 r1 => ⟨W1, g, μ1, l, μ2, s.step s1 ok1 mu1, e2, fun W2 s2 ok2 mu2 => ⟨W2, g, μ2, h, _, (s.step s1 ok1 mu1).step s2 ok2 mu2, e3, fun W3 s3 ok3 mu3 => ?_⟩⟩⟩
    have s13 := s1.trans ok1 (s2.trans ok2 s3)
    have gok := s.g.mono s13 s.ok
    have r3 : VR X.K W W3 g σ x.1 x.2 u := (r1.mono s2 ok1).mono s3 ok2
    exact ⟨W3, x.1, d, k, rfl, ok3, r3.rd gok, e4, fun W4 w s4 ok4 r4 => q W4 w (s13.trans ok3 s4.stp) ok4 (mu3.grw s4 ok3) (r4.vr s13 ok3)⟩

/-! ### built-in functions by values -/
def rBi (K : PySem.W.Frag) (op : List D → Option DK) : List V → Hp → L2.VK → Prop := fun vs H Q => ∃ W ds r k, W.H = H ∧ Wok W ∧ RdVs K W ds vs ∧ op ds = some (r, k) ∧ ∀ W' v, Grw W W' → Wok W' → VN K W W' r k v → Q v W'.H
theorem tav_bi {op : List D → Option DK} {σ : L2.St} {H : Hp} {Q : L2.VK} (h : TEv X.K (fun g μ => (fs g μ).bind fun xs μ1 => .of (op (xs.map (·.1))) μ1) σ H Q) : tCB (rBi X.K op) (TAv X.K fs) σ H Q := by
  obtain ⟨W, g, μ, d, k, μ', s, e, q⟩ := h
  obtain ⟨xs, μ1, e1, e⟩ := RE.bind_ok e
  obtain ⟨e4, rfl⟩ := RE.of_ok e
  refine ⟨W, g, μ, xs, _, s, e1, fun W1 vs s1 ok1 mu1 r1 => ?_⟩
  exact ⟨W1, _, d, k, rfl, ok1, r1.rd (s.g.mono s1 s.ok), e4, fun W2 v s2 ok2 r2 => q W2 v (s1.trans ok1 s2.stp) ok2 (mu1.grw s2 ok1) (r2.vr s1 ok1)⟩
theorem rdvs1 {K : PySem.W.Frag} {W : Wr} {d : D} {vs : List V} (h : RdVs K W [d] vs) : ∃ v, vs = [v] ∧ RdV K W d v := by
  obtain ⟨v, r, e, h1, h2⟩ := h
  cases h2
  exact ⟨v, e, h1⟩
theorem rdvs2 {K : PySem.W.Frag} {W : Wr} {d d2 : D} {vs : List V} (h : RdVs K W [d, d2] vs) : ∃ v v2, vs = [v, v2] ∧ RdV K W d v ∧ RdV K W d2 v2 := by
  obtain ⟨v, r, e, h1, v2, r2, e2, h2, h3⟩ := h
  cases h3
  subst e2
  exact ⟨v, v2, e, h1, h2⟩
theorem bls_of : ∀ {l : List D} {bs : List Bool}, blsD l = some bs → l = bs.map D.bl
  | [], bs, h => by cases h; rfl
  | .bl b :: r, bs, h => by
    simp only [blsD] at h
    obtain ⟨c, h1, rfl⟩ := Option.map_eq_some_iff.mp h
    rw [bls_of h1]; rfl
  | .non :: _, _, h => by cases h
  | .int _ :: _, _, h => by cases h
  | .str _ :: _, _, h => by cases h
  | .tup _ :: _, _, h => by cases h
  | .lst _ :: _, _, h => by cases h
  | .dct _ :: _, _, h => by cases h
  | .mut _ :: _, _, h => by cases h
  | .scr _ :: _, _, h => by cases h
theorem strs_of : ∀ {l : List D} {bs : List Str}, strsD l = some bs → l = bs.map D.str
  | [], bs, h => by cases h; rfl
  | .str b :: r, bs, h => by
    simp only [strsD] at h
    obtain ⟨c, h1, rfl⟩ := Option.map_eq_some_iff.mp h
    rw [strs_of h1]; rfl
  | .non :: _, _, h => by cases h
  | .int _ :: _, _, h => by cases h
  | .bl _ :: _, _, h => by cases h
  | .tup _ :: _, _, h => by cases h
  | .lst _ :: _, _, h => by cases h
  | .dct _ :: _, _, h => by cases h
  | .mut _ :: _, _, h => by cases h
  | .scr _ :: _, _, h => by cases h
theorem repl_bls {K : PySem.W.Frag} {W : Wr} : ∀ {bs : List Bool} {vs : List V}, RepL K W (bs.map D.bl) vs → vs = bs.map V.bl
  | [], _, h => by cases h; rfl
  | b :: r, _, h => by
    cases h with
    | cons h1 h2 => cases h1; rw [repl_bls h2]; rfl
theorem repl_strs {K : PySem.W.Frag} {W : Wr} : ∀ {bs : List Str} {vs : List V}, RepL K W (bs.map D.str) vs → vs = bs.map V.str
  | [], _, h => by cases h; rfl
  | b :: r, _, h => by
    cases h with
    | cons h1 h2 => cases h1; rw [repl_strs h2]; rfl
theorem cb_len : CallR X (.builtin "len") (rBi X.K (biD .len)) := by
  intro pins s σ H xs us Q I r ⟨W, ds, d, k, hH, ok, hx, e, q⟩
  subst hH
  simp only [biD] at e
  split at e <;> first | (rename_i z; cases z; done) | skip
  all_goals first | (cases e; done) | skip
  · cases e
    obtain ⟨v, rfl, hv⟩ := rdvs1 hx
    obtain ⟨p, vs, rfl, hp, rr⟩ := rd_lst hv
    exact call_len_seq pins s σ _ _ us Q I r ⟨p, vs, rfl, .inl (SqL.of hp), by rw [← rr.length]; exact q W _ .refl ok (.int _)⟩
  · cases e
    obtain ⟨v, rfl, hv⟩ := rdvs1 hx
    obtain ⟨p, vs, rfl, hp, rr⟩ := rd_tup hv
    exact call_len_seq pins s σ _ _ us Q I r ⟨p, vs, rfl, .inr hp.sq, by rw [← rr.length]; exact q W _ .refl ok (.int _)⟩
  · cases e
    obtain ⟨v, rfl, hv⟩ := rdvs1 hx
    rcases hv with hv | ⟨_, _, _, z, _⟩
    · cases hv with
      | str _ hz => exact call_len_str pins s σ _ _ us Q I r ⟨_, rfl, by rw [← sz_eq]; exact hz, q W _ .refl ok (.int _)⟩
    · cases z
  · cases e
    obtain ⟨v, rfl, hv⟩ := rdvs1 hx
    obtain ⟨p, rfl, hp⟩ := rd_scr hv
    exact call_len_seq pins s σ _ _ us Q I r ⟨p, _, rfl, .inl hp, by rw [List.length_map]; exact q W _ .refl ok (.int _)⟩
theorem cb_int : CallR X (.type "int") (rBi X.K (biD .int)) := by
  intro pins s σ H xs us Q I r ⟨W, ds, d, k, hH, ok, hx, e, q⟩
  subst hH
  simp only [biD] at e
  split at e <;> first | (rename_i z; cases z; done) | skip
  all_goals first | (cases e; done) | skip
  · cases e
    obtain ⟨v, rfl, hv⟩ := rdvs1 hx
    obtain rfl := rd_int hv
    exact call_int1 pins s σ _ _ us Q I r (.inl ⟨_, rfl, q W _ .refl ok (.int _)⟩)
  · cases e
    obtain ⟨v, rfl, hv⟩ := rdvs1 hx
    obtain rfl := rd_bl hv
    exact call_int1 pins s σ _ _ us Q I r (.inr ⟨_, rfl, q W _ .refl ok (.int _)⟩)
theorem cb_abs : CallR X (.builtin "abs") (rBi X.K (biD .abs)) := by
  intro pins s σ H xs us Q I r ⟨W, ds, d, k, hH, ok, hx, e, q⟩
  subst hH
  simp only [biD] at e
  split at e <;> first | (rename_i z; cases z; done) | skip
  all_goals first | (cases e; done) | skip
  · cases e
    obtain ⟨v, rfl, hv⟩ := rdvs1 hx
    obtain rfl := rd_int hv
    exact call_abs pins s σ _ _ us Q I r ⟨_, rfl, q W _ .refl ok (.int _)⟩
theorem cb_max (hc : X.calm = true) : CallR X (.builtin "max") (rBi X.K (biD .max)) := by
  intro pins s σ H xs us Q I r ⟨W, ds, d, k, hH, ok, hx, e, q⟩
  subst hH
  simp only [biD] at e
  split at e <;> first | (rename_i z; cases z; done) | skip
  all_goals first | (cases e; done) | skip
  · cases e
    obtain ⟨v, v2, rfl, hv, hv2⟩ := rdvs2 hx
    obtain rfl := rd_int hv
    obtain rfl := rd_int hv2
    exact call_max2 hc pins s σ _ _ us Q I r ⟨_, _, rfl, q W _ .refl ok (.int _)⟩
theorem cb_min (hc : X.calm = true) : CallR X (.builtin "min") (rBi X.K (biD .min)) := by
  intro pins s σ H xs us Q I r ⟨W, ds, d, k, hH, ok, hx, e, q⟩
  subst hH
  simp only [biD] at e
  split at e <;> first | (rename_i z; cases z; done) | skip
  all_goals first | (cases e; done) | skip
  · cases e
    obtain ⟨v, v2, rfl, hv, hv2⟩ := rdvs2 hx
    obtain rfl := rd_int hv
    obtain rfl := rd_int hv2
    exact call_min2 hc pins s σ _ _ us Q I r ⟨_, _, rfl, q W _ .refl ok (.int _)⟩
theorem signs_rep {K : PySem.W.Frag} {W : Wr} : ∀ l : List Nat, RepL K W (l.map fun c => D.str ⟨#[c]⟩) (l.map fun c => V.str ⟨#[c]⟩)
  | [] => .nil
  | c :: r => .cons (.str _ (len1 c)) (signs_rep r)
theorem vals_idx : ∀ {xs : List V} {us : List Value}, xs.length = us.length → (∀ (i : Nat) u, us[i]? = some u → ∃ v, xs[i]? = some v ∧ RelV v u) → Vals xs us
  | [], [], _, _ => .nil
  | [], _ :: _, h, _ => by cases h
  | _ :: _, [], h, _ => by cases h
  | x :: xs, u :: us, h, f => by
    obtain ⟨v, e, r⟩ := f 0 u rfl
    simp at e
    subst e
    exact .cons r (vals_idx (by simpa using h) fun i w hw => by
      obtain ⟨v, e, r⟩ := f (i + 1) w (by simpa using hw)
      exact ⟨v, by simpa using e, r⟩)
theorem cb_list (hc : X.calm = true) : CallR X (.type "list") (rBi X.K (biD .list)) := by
  intro pins s σ H xs us Q I r ⟨W, ds, d, k, hH, ok, hx, e, q⟩
  subst hH
  simp only [biD] at e
  split at e <;> first | (rename_i z; cases z; done) | skip
  all_goals first | (cases e; done) | skip
  · obtain ⟨l, e1, e2⟩ := Option.map_eq_some_iff.mp e
    cases e2
    obtain ⟨v, rfl, hv⟩ := rdvs1 hx
    unfold rowD at e1
    split at e1
    · cases e1
      obtain ⟨p, vs, rfl, hp, rr⟩ := rd_lst hv
      exact call_list_of pins s σ _ _ us Q I r ⟨p, vs, rfl, .inl (SqL.of hp), fun z n => q (W.lst z _) _ (grw_lst n) (wok_lst ok n (ok.z _ _ (.inl hp))) (vn_lst ok n rr)⟩
    · cases e1
      obtain ⟨p, vs, rfl, hp, rr⟩ := rd_tup hv
      exact call_list_of pins s σ _ _ us Q I r ⟨p, vs, rfl, .inr hp.sq, fun z n => q (W.lst z _) _ (grw_lst n) (wok_lst ok n (hp.len ok)) (vn_lst ok n rr)⟩
    · cases e1
      rcases hv with hv | ⟨_, _, _, z, _⟩
      · cases hv with
        | str _ hz =>
          rename_i z
          obtain ⟨u, rfl, t, rfl⟩ := vals1 r
          refine call_list_str (I.ok.hd hc) z t (fun h' tk acc' c' hk hS hacc => ?_) (by rw [← sz_eq]; exact hz)
          have n : W.H s.heap.objs.size = none := I.hok.fresh (Nat.le_refl _)
          have hv : Vals (z.cps.toList.map fun c => V.str ⟨#[c]⟩) acc'.toList := vals_idx (by simp [hacc.1]) fun i u hu => by
            obtain ⟨c, t2, hc2, rfl⟩ := hacc.2 i u (by simpa using hu)
            exact ⟨.str ⟨#[c]⟩, by simp [hc2], ⟨t2, rfl⟩⟩
          refine ⟨.ref s.heap.objs.size, upd W.H s.heap.objs.size (.lst (z.cps.toList.map fun c => V.str ⟨#[c]⟩)), I.laid (t' := tk) hk (Nat.le_refl _) ⟨?_, acc'.toList, c', hv, by rw [hS]⟩, rfl, ?_⟩
          · rw [List.length_map, Array.length_toList, ← sz_eq]; exact hz
          · exact q (W.lst s.heap.objs.size _) _ (grw_lst n) (wok_lst ok n (by rw [List.length_map, Array.length_toList]; exact hz)) (vn_lst ok n (signs_rep _))
      · cases z
    · cases e1
theorem cb_tuple : CallR X (.type "tuple") (rBi X.K (biD .tuple)) := by
  intro pins s σ H xs us Q I r ⟨W, ds, d, k, hH, ok, hx, e, q⟩
  subst hH
  simp only [biD] at e
  split at e <;> first | (rename_i z; cases z; done) | skip
  all_goals first | (cases e; done) | skip
  · cases e
    obtain ⟨v, rfl, hv⟩ := rdvs1 hx
    obtain ⟨p, vs, rfl, hp, rr⟩ := rd_lst hv
    exact call_tuple_of pins s σ _ _ us Q I r ⟨p, vs, rfl, .inl ⟨SqL.of hp, fun z n => q (W.tup z _) _ (grw_tup n) (wok_tup ok n (ok.z _ _ (.inl hp))) (rep_tup ok n rr)⟩⟩
  · cases e
    obtain ⟨v, rfl, hv⟩ := rdvs1 hx
    obtain ⟨p, vs, rfl, hp, rr⟩ := rd_tup hv
    exact call_tuple_of pins s σ _ _ us Q I r ⟨p, vs, rfl, .inr ⟨hp.sq, q W _ .refl ok (.tup hp rr)⟩⟩
theorem cb_all (hc : X.calm = true) : CallR X (.builtin "all") (rBi X.K (biD .all)) := by
  intro pins s σ H xs us Q I r ⟨W, ds, d, k, hH, ok, hx, e, q⟩
  subst hH
  simp only [biD] at e
  split at e <;> first | (rename_i z; cases z; done) | skip
  all_goals first | (cases e; done) | skip
  · obtain ⟨bs, e1, e2⟩ := Option.map_eq_some_iff.mp e
    cases e2
    obtain ⟨v, rfl, hv⟩ := rdvs1 hx
    obtain ⟨p, vs, rfl, hp, rr⟩ := rd_lst hv
    rw [bls_of e1] at rr
    obtain rfl := repl_bls rr
    exact cr_all hc pins s σ _ _ us Q I r ⟨p, bs, rfl, SqL.of hp, q W _ .refl ok (.bl _)⟩
theorem cb_any (hc : X.calm = true) : CallR X (.builtin "any") (rBi X.K (biD .any)) := by
  intro pins s σ H xs us Q I r ⟨W, ds, d, k, hH, ok, hx, e, q⟩
  subst hH
  simp only [biD] at e
  split at e <;> first | (rename_i z; cases z; done) | skip
  all_goals first | (cases e; done) | skip
  · obtain ⟨bs, e1, e2⟩ := Option.map_eq_some_iff.mp e
    cases e2
    obtain ⟨v, rfl, hv⟩ := rdvs1 hx
    obtain ⟨p, vs, rfl, hp, rr⟩ := rd_lst hv
    rw [bls_of e1] at rr
    obtain rfl := repl_bls rr
    exact cr_any hc pins s σ _ _ us Q I r ⟨p, bs, rfl, SqL.of hp, q W _ .refl ok (.bl _)⟩
theorem cb_repr : CallR X (.builtin "repr") (rBi X.K (biD .repr)) := by
  intro pins s σ H xs us Q I r ⟨W, ds, d, k, hH, ok, hx, e, q⟩
  subst hH
  simp only [biD] at e
  split at e <;> first | (rename_i z; cases z; done) | skip
  all_goals first | (cases e; done) | skip
  · cases e
    obtain ⟨v, rfl, hv⟩ := rdvs1 hx
    obtain rfl := rd_bl hv
    obtain ⟨u, rfl, r1⟩ := vals1 r
    cases r1
    exact PySem.P.repr_of_bool ⟨.str _, W.H, I.tok _, ⟨_, rfl⟩, q W _ .refl ok (.str _ (by split <;> decide))⟩
/-! sorted -/
theorem repl_reads {pins : List (Addr × Obj)} {σ : L2.St} {s : Shared} {W : Wr} (I : Inv X pins σ W.H s) : ∀ {ds : List D} {vs : List V} {us : List Value}, D.dpL 7 ds = true → RepL X.K W ds vs → Vals vs us →
    PySem.W.EachIs (fun u d => ∃ v, RelV v u ∧ Rep X.K W d v) us ds ∧ PySem.W.EachIs (fun u d => ∃ as, Reads s.heap u (D.py d) as) us ds
  | [], _, _, _, .nil, .nil => ⟨.nil, .nil⟩
  | d :: ds, _, _, h, .cons h1 h2, .cons r1 r2 => by
    simp only [D.dpL, Bool.and_eq_true] at h
    obtain ⟨a, b⟩ := repl_reads I h.2 h2 r2
    exact ⟨.cons ⟨_, r1, h1⟩ a, .cons (Dp.reads I _ _ _ (Rep.dp 7 _ _ h.1 h1) r1) b⟩
theorem each_vals {K : PySem.W.Frag} {W : Wr} : ∀ {us : List Value} {ds : List D}, PySem.W.EachIs (fun u d => ∃ v, RelV v u ∧ Rep K W d v) us ds → ∃ vs, Vals vs us ∧ RepL K W ds vs
  | _, _, .nil => ⟨[], .nil, .nil⟩
  | _, _, .cons ⟨v, h1, h2⟩ r => let ⟨vs, h3, h4⟩ := each_vals r; ⟨v :: vs, .cons h1 h3, .cons h2 h4⟩
theorem pyL_map : ∀ l : List D, D.pyL l = l.map D.py
  | [] => rfl
  | d :: r => by simp only [D.pyL, List.map_cons, pyL_map r]
theorem sort_ok {l : List D} (h : sortOk l = true) : D.dpL 7 l = true ∧ PySem.W.AllAlike (l.map D.py) ∧ PySem.W.Sortable (l.map D.py) := by
  unfold sortOk at h
  simp only [Bool.and_eq_true, Bool.or_eq_true, List.all_eq_true] at h
  obtain ⟨⟨h1, h2⟩, h3⟩ := h
  refine ⟨h1, fun x hx y hy => ?_, ?_⟩
  · obtain ⟨d, hd, rfl⟩ := List.mem_map.mp hx
    obtain ⟨e, he, rfl⟩ := List.mem_map.mp hy
    exact h2 d hd e he
  · rcases h3 with h3 | h3
    · refine .inl fun x hx => ?_
      obtain ⟨d, hd, rfl⟩ := List.mem_map.mp hx
      have := h3 d hd
      cases d with
      | tup l =>
        cases l with
        | nil => simp [D.isTupNE] at this
        | cons a r => exact ⟨a.py, D.pyL r, by simp [D.py, D.pyL]⟩
      | _ => simp [D.isTupNE] at this
    · refine .inr fun x hx => ?_
      obtain ⟨d, hd, rfl⟩ := List.mem_map.mp hx
      have := h3 d hd
      cases d <;> simp [D.noTup, D.py] at this ⊢
theorem dpL_mem {n : Nat} : ∀ {l : List D}, D.dpL n l = true → ∀ d ∈ l, D.dp n d = true
  | [], _, _, h => by cases h
  | e :: r, h, d, hd => by
    simp only [D.dpL, Bool.and_eq_true] at h
    rcases List.mem_cons.mp hd with rfl | hd
    · exact h.1
    · exact dpL_mem h.2 d hd
theorem cb_sorted (hu : X.A.units + 65 < cLine) : CallR X (.builtin "sorted") (rBi X.K (biD .sorted)) := by
  intro pins s σ H xs us Q I r ⟨W, ds, d, k, hH, ok, hx, e, q⟩
  subst hH
  simp only [biD] at e
  split at e <;> first | (rename_i z; cases z; done) | skip
  all_goals first | (cases e; done) | skip
  · rename_i l0 _ l
    obtain ⟨l2, e1, e2⟩ := Option.map_eq_some_iff.mp e
    cases e2
    unfold sortD at e1
    split at e1 <;> cases e1
    rename_i hc
    obtain ⟨h1, h2, h3⟩ := sort_ok hc
    obtain ⟨v, rfl, hv⟩ := rdvs1 hx
    obtain ⟨p, vs, rfl, hp, rr⟩ := rd_lst hv
    obtain ⟨u, rfl, ru⟩ := vals1 r
    cases ru
    obtain ⟨its, rv, hl, hz⟩ := I.list (SqL.of hp)
    obtain ⟨k1, k2⟩ := repl_reads I h1 rr rv
    have hlen := rr.length
    refine PySem.W.sorted_data hl.isList k1 k2 h2 h3 (by rw [hlen]; exact hz) (fun b hb => ?_) fun out h4 h5 => ?_
    · have := (dp_lay 7 b (dpL_mem h1 b hb)).2
      omega
    · obtain ⟨ws, h6, h7⟩ := each_vals h5
      obtain ⟨ep, he'⟩ := PyProof.Rows.sortedAll_at s.heap its out.toArray
      have n : W.H (s.heap.objs.size + 1) = none := I.hok.fresh (Nat.le_succ _)
      have hz9 : ws.length ≤ 16777216 := by rw [h6.length, h4, hlen]; exact ok.z _ _ (.inl hp)
      refine ⟨.ref _, upd W.H (s.heap.objs.size + 1) (.lst ws), I.laid (t' := s.toks) (fun _ _ => PyProof.Rows.sortedAll_old) (Nat.le_succ _) ⟨?_, out, ep, h6, he'⟩, rfl, q (W.lst _ _) _ (grw_lst n) (wok_lst ok n hz9) (vn_lst ok n h7)⟩
      rw [← sz_eq]; exact hz9
/-! isinstance of a built-in type -/
def Ty.nm : Ty → String
  | .int => "int" | .bool => "bool" | .str => "str" | .tuple => "tuple" | .list => "list" | .dict => "dict"
def D.tn : D → String
  | .non => "NoneType" | .bl _ => "bool" | .int _ => "int" | .str _ => "str" | .tup _ => "tuple" | .lst _ => "list" | .dct _ => "dict" | _ => ""
theorem kit_D {K : PySem.W.Frag} {d : D} {t : Ty} {b : Bool} (h : typD d t = some b) : PySem.W.kitOne K (.type d.tn) (.type t.nm) = some b := by
  refine kit_ty ?_
  cases d <;> cases t <;> simp only [typD] at h <;> first | (cases h; simp only [D.tn, Ty.nm]; decide +kernel) | cases h
theorem sqt_k {K : PySem.W.Frag} {a : Addr} {vs : List V} (h : SqT K (fun _ => none) a vs) : ∃ o, K.lookup a = some o ∧ o.cls = .type "tuple" := by
  rcases h with (h | ⟨_, h⟩) | ⟨o, _, _, h1, h2, _⟩
  · cases h
  · cases h
  · exact ⟨o, h1, h2⟩
theorem ty_D {K : PySem.W.Frag} {W : Wr} {d : D} {v : V} {t : Ty} {b : Bool} (h : typD d t = some b) (r : RdV K W d v) : TyX K W.H v (.type d.tn) := by
  rcases r with r | ⟨p, vs, l, rfl, rfl, hp, _⟩
  · cases r with
    | non => exact .base .non
    | bl => exact .base (.bl _)
    | int => exact .base (.int _)
    | str => exact .base (.str _)
    | tup h9 _ =>
      rcases h9 with ⟨_, h9⟩ | h9
      · exact .base (.tup h9)
      · obtain ⟨o, h1, h2⟩ := sqt_k h9
        exact .kTuple h1 h2
    | lst _ h9 _ => exact .base (.lst h9)
    | dct0 _ h9 => exact .base (.dK h9)
    | «mut» _ => cases h
    | scr _ => cases h
  · exact .base (.lst hp)
theorem de_isi {T : Str} {t : Ty} {p p2 : Pos} {x : Str} (hx : x = "isinstance") (hg : Gl X x) (hm : X.mg x = none) (hT : T = t.nm) (hgT : Gl X T) (hmT : X.mg T = none) (he : DE X e fa)
    (hs1 : starEach [e, .Name T p2] X.env = (false, eval e X.env) :: starEach [.Name T p2] X.env) (hpl : (backTo pos (starEach [.Name T p2] X.env)).any (·.1) = false) :
    DE X (.Call (.Name x p) [e, .Name T p2] [] pos) fun g μ => (fa g μ).bind fun y μ1 => .of ((typD y.1 t).map fun b => (.bl b, .pl)) μ1 := by
  subst hx
  have hb : bootBuiltins T = some (.type t.nm) := by subst hT; cases t <;> decide +kernel
  have hT2 : PE X (.Name T p2) (tC (.ty t.nm)) := pe_bltn hgT hmT hb rfl (by subst hT; cases t <;> decide) (by subst hT; cases t <;> decide)
  refine PE.imp (pe_callB call_isi hg hm (by decide +kernel) (pa_cons he (pa_cons hT2 pa_nil (by rfl)) hs1) (by decide) (by decide) hs1 hpl) fun σ H Q ⟨W, g, μ, d, k, μ', s, e, q⟩ => ?_
  obtain ⟨y, μ1, e1, e⟩ := RE.bind_ok e
  obtain ⟨e4, rfl⟩ := RE.of_ok e
  obtain ⟨b, e5, e6⟩ := Option.map_eq_some_iff.mp e4
  cases e6
  refine ⟨W, g, μ, y.1, y.2, _, s, e1, fun W1 v s1 ok1 mu1 r1 => ?_⟩
  exact ⟨v, .ty t.nm, _, _, b, rfl, .ty _, ty_D e5 (r1.rd (s.g.mono s1 s.ok)), kit_D e5, q W1 _ s1 ok1 mu1 (.bl _)⟩
/-! join -/
theorem de_join {o : Expr} {fo : Slots → Mu → RE DK} {apos : Pos} {nm : Str} (hn : nm = "join") (ho : DE X o fo) (ha : DA X [e] fs)
    (hbase : attributeBase o nm X.env (eval o X.env) = eval o X.env)
    (hfew : ((backTo pos (starEach [e] X.env)).all (fun x => !x.1) && (backToKw pos (keywordEach [] X.env)).all (fun x => x.1.isSome)
      && decide (([e] : List Expr).length + ([] : List Keyword).length + (if ([] : List Keyword).isEmpty then 0 else 1) < 30)) = true)
    (hline : (apos.endLine == pos.line) = true) (hs : starEach [e] X.env = (false, eval e X.env) :: starEach [] X.env) (hplain : (backTo pos (starEach [] X.env)).any (·.1) = false) :
    DE X (.Call (.Attribute o nm apos) [e] [] pos) fun g μ => (fo g μ).bind fun x μ1 => (fs g μ1).bind fun xs μ2 => .of (miD .join x.1 (xs.map (·.1))) μ2 := by
  subst hn
  refine PE.imp (pe_bm PySem.F.plainAttrs_str PySem.F.slot_str_join PySem.F.type_str_join mt_join ho ha hbase hfew hline hs hplain) fun σ H Q ⟨W, g, μ, d, k, μ', s, e, q⟩ => ?_
  obtain ⟨x, μ1, e1, e⟩ := RE.bind_ok e
  obtain ⟨xs, μ2, e2, e⟩ := RE.bind_ok e
  obtain ⟨e4, rfl⟩ := RE.of_ok e
  unfold miD at e4
  split at e4 <;> first | (cases e4; done) | skip
  rename_i a y _ hx hxs
  have hxs2 := hxs
  refine ⟨W, g, μ, x.1, x.2, μ1, s, e1, fun W1 u s1 ok1 mu1 r1 => ?_⟩
  have gok1 := s.g.mono s1 s.ok
  have r1' := r1.rd gok1
  rw [hx] at r1'
  obtain rfl := rd_str r1'
  refine ⟨rfl, W1, g, μ1, xs, _, s.step s1 ok1 mu1, e2, fun W2 vs s2 ok2 mu2 r2 => ?_⟩
  have s12 := s1.trans ok1 s2
  have gok2 := s.g.mono s12 s.ok
  have r3 := r2.rd gok2
  rw [hxs2] at r3
  obtain ⟨v, rfl, hv⟩ := rdvs1 r3
  have main : ∀ (l : List D) (ys : List Str) (p : Addr) (vs : List V), v = .ref p → (SqL X.K W2.H p vs ∨ SqT X.K W2.H p vs) → RepL X.K W2 l vs → strsD l = some ys → (if (ys.map (·.length)).sum + ys.length * a.length ≤ SZ then some (D.str (Txt.join a ys), Kd.pl) else none) = some (d, k) →
      ∃ a' p, ∃ ys : List Str, V.str a = .str a' ∧ [v] = [.ref p] ∧ (SqL X.K W2.H p (ys.map V.str) ∨ SqT X.K W2.H p (ys.map V.str)) ∧ (ys.map (·.length)).sum + ys.length * a'.length ≤ 16777216 ∧ Q (.str (Txt.join a' ys)) W2.H := fun l ys p vs ev hp rr hs he => by
    by_cases hz : (ys.map (·.length)).sum + ys.length * a.length ≤ SZ
    case neg => rw [if_neg hz] at he; cases he
    rw [if_pos hz] at he
    cases he
    subst ev
    rw [strs_of hs] at rr
    obtain rfl := repl_strs rr
    have hj : (Txt.join a ys).length ≤ 16777216 := by
      have e9 : Txt.join a ys = Str.join a ys := StrLaws.glued_eq_join a ys
      rw [e9]
      exact Nat.le_trans (StrLaws.join_length_le a ys) hz
    exact ⟨a, p, ys, rfl, rfl, hp, hz, q W2 _ s12 ok2 mu2 (.str _ hj)⟩
  split at e4
  · obtain ⟨ys, e5, e6⟩ := Option.bind_eq_some_iff.mp e4
    obtain ⟨p, vs, ev, hp, rr⟩ := rd_lst hv
    exact main _ ys p vs ev (.inl (SqL.of hp)) rr e5 e6
  · obtain ⟨ys, e5, e6⟩ := Option.bind_eq_some_iff.mp e4
    obtain ⟨p, vs, ev, hp, rr⟩ := rd_tup hv
    exact main _ ys p vs ev (.inr hp.sq) rr e5 e6
  · cases e4
end
end NT

set_option Elab.async false
set_option linter.all false
set_option maxRecDepth 100000
set_option maxHeartbeats 1000000
set_option autoImplicit false
/-! What a for walks: enumerate and zip over lists, tuples, texts in any mix. -/
namespace NT
open PySem PySem.Spec PyProof.Rows L2

section
variable {prog : Program} {w : World} {A : Around} {E : Value → Shared → Prop} {s : Shared}
set_option maxHeartbeats 1000000 in
theorem meets_enum1 {v : Value} {o : Obj} {H : Heap → Prop} (B : Begins v o H) :
    Meets (Builtin.«enumerate.__new__» ⟨[.type "enumerate", v], []⟩) (fun _ R s => H s.heap ∧
      R (.ok (.ret (.ref (s.heap.push o).objs.size))) { s with heap := (s.heap.push o).push { cls := .type "enumerate", data := .fields #[.none, .bool false, .ref s.heap.objs.size, rawInt 0, .none, .none] } }) :=
  .of_wp fun prog w A R s h => by
    obtain ⟨hp, g, d, tk, os⟩ := s; obtain ⟨h1, h⟩ := h
    have hsub := sub_enumerate
    have q1 : ∀ {A' : Around} {E : Value → Shared → Prop} {Q : Value → Shared → Prop}, Q (.ref hp.objs.size) ⟨hp.push o, g, d, tk, os⟩ → wpAny (model prog w) A' (pyIter v) Q E ⟨hp, g, d, tk, os⟩ :=
      fun q => B.iter prog w _ _ ⟨hp, g, d, tk, os⟩ _ h1 q
    wp_walk using q1
    refine wpAny_stack_any fun st => wpAny_pure ?_
    split
    · rename_i c _ _ _ _ _
      cases (c == Value.type "enumerate")
      · wp_walk using q1
        exact ⟨_, rfl, h⟩
      · wp_walk using q1
        exact ⟨_, rfl, h⟩
    · wp_walk using q1
      exact ⟨_, rfl, h⟩
theorem enum1_begins {v : Value} {o : Obj} {H : Heap → Prop} {Q : Value → Shared → Prop} (B : Begins v o H) (h1 : H s.heap)
    (h : ∀ h', IsEnum h' (s.heap.objs.size + 1) s.heap.objs.size 0 .none → h'.get? s.heap.objs.size = some o → h'.objs.size = s.heap.objs.size + 2 →
      (∀ b o, s.heap.get? b = some o → h'.get? b = some o) → Q (.ref (s.heap.objs.size + 1)) { s with heap := h' }) :
    wpAny (model prog w) A (call (.type "enumerate") [v]) Q E s := by
  refine callType_new F.called_enumerate (by decide) (F.typeCall_enumerate_1 _) (F.newCall_enumerate_1 _) (fun obj => F.args_object_init_2 obj _) F.entry_enumerate_new
    (meets_enum1 B) ⟨h1, ?_⟩
  have hz : (s.heap.push o).objs.size = s.heap.objs.size + 1 := Heap.size_push ..
  show _ ∧ _
  rw [hz]
  have he : IsEnum ((s.heap.push o).push { cls := .type "enumerate", data := .fields #[.none, .bool false, .ref s.heap.objs.size, rawInt 0, .none, .none] }) (s.heap.objs.size + 1) s.heap.objs.size 0 .none := by
    have := Heap.get?_push_size (s.heap.push o) (o := { cls := .type "enumerate", data := .fields #[.none, .bool false, .ref s.heap.objs.size, rawInt 0, .none, .none] }) rfl
    rw [hz] at this; exact this
  refine ⟨⟨_, he, rfl⟩, h _ he (Heap.get?_push_of_some _ (Heap.get?_push_size _ B.free)) (by rw [Heap.size_push, hz]) fun b o x => Heap.get?_push_of_some _ (Heap.get?_push_of_some _ x)⟩
end

/-- a source: a list, a tuple, a text -/
inductive Sc where
  | l (a : Addr) | t (a : Addr) | s (z : Str)
def Sc.v : Sc → V
  | .l a => .ref a | .t a => .ref a | .s z => .str z
def Sc.Of (K : PySem.W.Frag) (H : Hp) : Sc → Nat → Prop
  | .l a, n => ∃ xs, SqL K H a xs ∧ xs.length = n
  | .t a, n => ∃ xs, SqT K H a xs ∧ xs.length = n
  | .s z, n => z.cps.size = n
def Sc.Val (K : PySem.W.Frag) (H : Hp) : Sc → Nat → V → Prop
  | .l a, i, x => ∀ xs, SqL K H a xs → xs[i]? = some x
  | .t a, i, x => ∀ xs, SqT K H a xs → xs[i]? = some x
  | .s z, i, x => ∃ c, z.cps[i]? = some c ∧ x = .str ⟨#[c]⟩
def Sc.tn : Sc → Addr → Nat → Heap → Prop
  | .l a, it, i, h => h.IsListIter it a i
  | .t a, it, i, h => h.IsTupleIter it a i
  | .s z, it, i, h => ∃ t, h.IsStrIter it (strIterType z) z t i
theorem Sc.tn_keep {sc : Sc} {it : Addr} {i : Nat} {h h' : Heap} (x : sc.tn it i h) (k : ∀ o, h.get? it = some o → h'.get? it = some o) : sc.tn it i h' := by
  cases sc with
  | l a => exact Heap.IsListIter.at x fun o e => k o e
  | t a => exact Heap.IsTupleIter.at x fun o e => k o e
  | s z => obtain ⟨t, o, e, r⟩ := x; exact ⟨t, o, k o e, r⟩
theorem Sc.tn_obj {sc : Sc} {it : Addr} {i : Nat} {h : Heap} (x : sc.tn it i h) : ∃ o, h.get? it = some o ∧ ∀ v, o.data ≠ .cell v := by
  cases sc with
  | l a => obtain ⟨o, e, _, d⟩ := x; exact ⟨o, e, fun v z => by rw [d] at z; cases z⟩
  | t a => obtain ⟨o, e, _, d⟩ := x; exact ⟨o, e, fun v z => by rw [d] at z; cases z⟩
  | s z => obtain ⟨t, o, e, _, d⟩ := x; exact ⟨o, e, fun v z => by rw [d] at z; cases z⟩
section
variable {X : Cx} {pins : List (Addr × Obj)} {σ : L2.St} {H : Hp} {s : Shared}
/-- data, of which no record is a part -/
def Dat (X : Cx) (H : Hp) (b : Addr) : Prop := (∃ o, H b = some o) ∨ ∃ o, X.base.get? b = some o
theorem dat_l {a : Addr} {xs : List V} (I : Inv X pins σ H s) (h : SqL X.K H a xs) : Dat X H a := by
  rcases h with (h | ⟨_, h⟩) | ⟨o, _, _, h, _⟩
  · exact .inl ⟨_, h⟩
  · exact .inl ⟨_, h⟩
  · exact .inr ⟨o, I.ok.mod.kin a o h⟩
theorem dat_t {a : Addr} {xs : List V} (I : Inv X pins σ H s) (h : SqT X.K H a xs) : Dat X H a := by
  rcases h with (h | ⟨_, h⟩) | ⟨o, _, _, h, _⟩
  · exact .inl ⟨_, h⟩
  · exact .inl ⟨_, h⟩
  · exact .inr ⟨o, I.ok.mod.kin a o h⟩
theorem dat_ne {a b : Addr} (I : Inv X pins σ H s) (h : Dat X H a) (f : FpOk X pins H b) : a ≠ b := by
  rintro rfl
  rcases h with ⟨o, h⟩ | ⟨o, h⟩
  · rw [f.1] at h; cases h
  · rcases f.2.2.2.1 with z | z
    · exact I.ok.noex a o h z
    · exact absurd (Nat.lt_of_lt_of_le (Heap.lt_size (I.ok.bs a o h).1) z) (Nat.lt_irrefl _)
/-- what the source's iterator draws -/
theorem Sc.draw {sc : Sc} {it : Addr} {i n : Nat} (I : Inv X pins σ H s) (hc : X.calm = true) (of : sc.Of X.K H n) (tn : sc.tn it i s.heap) (f : FpOk X pins H it) :
    ∃ (fp : List Addr) (PP : Nat → Value → Prop) (St : Nat → Heap → Prop), Draws X.prog X.w X.A.in1 it fp n PP St ∧ it ∈ fp ∧ St i s.heap ∧ (∀ j h, St j h → sc.tn it j h) ∧ (∀ b ∈ fp, b = it ∨ Dat X H b) ∧
      (∀ j u, PP j u → ∃ v, RelV v u ∧ sc.Val X.K H j v) := by
  have hh : X.A.in1.handled = none := I.ok.hd hc
  cases sc with
  | l a =>
    obtain ⟨xs, hx, rfl⟩ := of
    obtain ⟨its, rv, p, _⟩ := I.list hx
    have e : its.toArray.size = xs.length := by rw [List.size_toArray]; exact rv.length.symm
    have d := dat_l I hx
    refine ⟨_, _, _, e ▸ Draws.list hh it a (dat_ne I d f) its.toArray, by simp, ⟨tn, p.isList⟩, fun j h st => st.1, fun b hb => ?_, fun j u hu => ?_⟩
    · rcases List.mem_cons.mp hb with z | z
      · exact .inl z
      · rw [List.mem_singleton.mp z]; exact .inr d
    · have hu : its[j]? = some u := by simpa using hu
      have hj : j < xs.length := by rw [rv.length]; exact (List.getElem?_eq_some_iff.mp hu).1
      obtain ⟨u', e1, r1⟩ := rv.get (List.getElem?_eq_getElem hj)
      rw [hu] at e1; cases e1
      exact ⟨_, r1, fun ys hy => by rw [I.list_inj hy hx]; exact List.getElem?_eq_getElem hj⟩
  | t a =>
    obtain ⟨xs, hx, rfl⟩ := of
    obtain ⟨its, rv, p, _⟩ := I.tuple hx
    have e : its.toArray.size = xs.length := by rw [List.size_toArray]; exact rv.length.symm
    have d := dat_t I hx
    refine ⟨_, _, _, e ▸ Draws.tuple hh it a (dat_ne I d f) its.toArray, by simp, ⟨tn, p⟩, fun j h st => st.1, fun b hb => ?_, fun j u hu => ?_⟩
    · rcases List.mem_cons.mp hb with z | z
      · exact .inl z
      · rw [List.mem_singleton.mp z]; exact .inr d
    · have hu : its[j]? = some u := by simpa using hu
      have hj : j < xs.length := by rw [rv.length]; exact (List.getElem?_eq_some_iff.mp hu).1
      obtain ⟨u', e1, r1⟩ := rv.get (List.getElem?_eq_getElem hj)
      rw [hu] at e1; cases e1
      exact ⟨_, r1, fun ys hy => by rw [I.tuple_inj hy hx]; exact List.getElem?_eq_getElem hj⟩
  | s z =>
    cases of
    obtain ⟨t, tn⟩ := tn
    refine ⟨_, _, _, Draws.text hh it z t, by simp, tn, fun j h st => ⟨t, st⟩, fun b hb => .inl (List.mem_singleton.mp hb), fun j u hu => ?_⟩
    obtain ⟨c, u', e1, rfl⟩ := hu
    exact ⟨.str ⟨#[c]⟩, ⟨u', rfl⟩, c, e1, rfl⟩
/-- its beginning -/
theorem Sc.begin {sc : Sc} {n : Nat} {u : Value} (I : Inv X pins σ H s) (of : sc.Of X.K H n) (r : RelV sc.v u) :
    ∃ (o : Obj) (HH : Heap → Prop), Begins u o HH ∧ HH s.heap ∧ ∀ it h, h.get? it = some o → sc.tn it 0 h := by
  cases sc with
  | l a =>
    obtain ⟨xs, hx, rfl⟩ := of
    obtain ⟨its, rv, p, _⟩ := I.list hx
    cases r
    exact ⟨_, _, begins_list a its.toArray, p.isList, fun it h e => ⟨_, e, rfl, rfl⟩⟩
  | t a =>
    obtain ⟨xs, hx, rfl⟩ := of
    obtain ⟨its, rv, p, _⟩ := I.tuple hx
    cases r
    exact ⟨_, _, begins_tuple a its.toArray, p, fun it h e => ⟨_, e, rfl, rfl⟩⟩
  | s z =>
    obtain ⟨t, rfl⟩ := r
    exact ⟨_, _, begins_text z t, trivial, fun it h e => ⟨t, _, e, rfl, rfl⟩⟩
end
def Jen (K : PySem.W.Frag) (sc : Sc) : It :=
  ⟨fun i H => ∃ n, sc.Of K H n ∧ i < n, fun i H v H' => ∃ T x, v = .ref T ∧ H T = none ∧ H' = upd H T (.tup [.int (i : Nat), x]) ∧ sc.Val K H i x, fun i H => sc.Of K H i⟩
theorem turn_en {P : Program} {w : World} {K : PySem.W.Frag} {elts : List Expr} {kk : Nat} {tpos : Pos} (sc : Sc) (e it : Addr) :
    Turn P w K (.Tuple elts kk tpos) (Jen K sc) [e, it] e (fun i h => (∃ old, IsEnum h e it (0 + (i : Int)) old) ∧ sc.tn it i h ∧ e ≠ it) where
  mem := by simp
  obj := fun i h st b hb => by
    obtain ⟨⟨old, he⟩, hi, _⟩ := st
    have e' : b = e ∨ b = it := by simpa using hb
    rcases e' with z | z
    · rw [z]; exact ⟨_, he, fun v q => nomatch q⟩
    · rw [z]; exact Sc.tn_obj hi
  keep := fun i h h' st k => let ⟨⟨old, he⟩, hi, hne⟩ := st; ⟨⟨old, k e (by simp) _ he⟩, Sc.tn_keep hi (fun o q => k it (by simp) o q), hne⟩
  item := by
    intro X hP hw hK hc i pins s σ H E I hf st hg
    subst hP hw hK
    obtain ⟨he, hit, hne⟩ := st
    obtain ⟨n, of, hi⟩ := hg
    obtain ⟨fp, PP, St, D, m, st0, bk, fd, va⟩ := sc.draw I hc of hit (hf it (by simp))
    have hef : e ∉ fp := fun z => by
      rcases fd e z with z | z
      · exact hne z
      · exact dat_ne I z (hf e (by simp)) rfl
    refine (GoesN.enumFrom (elts := elts) (x1 := kk) (pos := tpos) 0 D e hne hef m).goes i s (fun u s2 => ∃ x H', Inv X pins σ H' s2 ∧ RelV x u ∧ (Jen X.K sc).yld i H x H' ∧ ((∃ old, IsEnum s2.heap e it (0 + ((i + 1 : Nat) : Int)) old) ∧ sc.tn it (i + 1) s2.heap ∧ e ≠ it) ∧ ∀ b ∈ [e, it], H' b = none) E hi ⟨he, st0⟩ fun v h' tk hY st' hk htk => ?_
    obtain ⟨T, t, x, rfl, hT, hP, ob⟩ := hY
    obtain ⟨y, ry, hy⟩ := va i x hP
    have e0 : (0 : Int) + (i : Int) = (i : Nat) := by omega
    have new : ObjOk X.prog X.w (upd H T (.tup [.int (i : Nat), y])) h' T (.tup [.int (i : Nat), y]) :=
      ⟨by show 2 ≤ sizeLine; decide, [.int (0 + (i : Int)) t, x], .cons ⟨t, by rw [e0]⟩ (.cons ry .nil), ob⟩
    have hf' : ∀ b ∈ [e, it], FpOk X pins H b := hf
    have I1 := I.turnedNew (t' := tk) (ch := [e, it]) hk hf' hT new
    refine ⟨.ref T, _, I1, rfl, ⟨T, y, rfl, I.hok.fresh hT, rfl, hy⟩, ⟨st'.1, bk _ _ st'.2, hne⟩, fun b hb => ?_⟩
    have hlt : b < s.heap.objs.size := by
      have e' : b = e ∨ b = it := by simpa using hb
      rcases e' with z | z
      · obtain ⟨old, he⟩ := he
        rw [z]; exact Heap.lt_size he
      · obtain ⟨o, q, _⟩ := Sc.tn_obj hit
        rw [z]; exact Heap.lt_size q
    rw [upd_ne (Nat.ne_of_lt (Nat.lt_of_lt_of_le hlt hT))]
    exact (hf b hb).1
  done := by
    intro X hP hw hK hc i pins s σ H E I hf st hg
    subst hP hw hK
    obtain ⟨he, hit, hne⟩ := st
    obtain ⟨fp, PP, St, D, m, st0, bk, fd, va⟩ := sc.draw I hc hg hit (hf it (by simp))
    have hef : e ∉ fp := fun z => by
      rcases fd e z with z | z
      · exact hne z
      · exact dat_ne I z (hf e (by simp)) rfl
    refine (GoesN.enumFrom (elts := elts) (x1 := kk) (pos := tpos) 0 D e hne hef m).stops s _ E ⟨he, st0⟩ fun h' tk hk _ => I.turnedL (t' := tk) (ch := [e, it]) hk hf
  self := fun A i s Q E st h => by obtain ⟨⟨_, he⟩, _⟩ := st; exact wpAny_pyIter_enum he h
def iEn (K : PySem.W.Frag) (ta : TA) : TI := fun σ H R => ta σ H fun vs H1 => ∃ sc n, vs = [sc.v] ∧ sc.Of K H1 n ∧ R (Jen K sc) H1
theorem pi_en {X : Cx} {e : Expr} {ta : TA} {p pos tpos : Pos} {elts : List Expr} {kk : Nat} {x : Str} (hx : x = "enumerate") (hg : Gl X x) (hm : X.mg x = none) (ha : PA X [e] ta) (hs : starEach [e] X.env = [(false, eval e X.env)]) :
    PI X (.Tuple elts kk tpos) (.Call (.Name x p) [e] [] pos) (iEn X.K ta) := by
  subst hx
  refine ⟨fun pins s σ H R I h => ?_⟩
  refine Call_ (ld_blt I hg hm boot_enumerate (PyProof.Rows.callWith_type1 (thn (ha.run pos pins s σ H _ I h) fun us s1 ⟨vs, H1, I1, r1, q1⟩ => ?_) hs rfl))
  obtain ⟨sc, n, ex, of, q⟩ := q1
  subst ex
  obtain ⟨u, rfl, ru⟩ := vals1 r1
  obtain ⟨o, HH, B, hh, st⟩ := sc.begin I1 of ru
  refine enum1_begins B hh fun h' he hit hsz hk => wpAny_pyIter_enum he ?_
  have I2 : Inv X pins σ H1 { s1 with heap := h' } := I1.kept (t' := s1.toks) hk
  refine ⟨s1.heap.objs.size + 1, [s1.heap.objs.size + 1, s1.heap.objs.size], _, _, H1, rfl, I2, turn_en sc (s1.heap.objs.size + 1) s1.heap.objs.size, ⟨⟨.none, he⟩, st _ _ hit, Nat.succ_ne_self _⟩, fun b hb => ?_, q⟩
  have e' : b = s1.heap.objs.size + 1 ∨ b = s1.heap.objs.size := by simpa using hb
  have hle : s1.heap.objs.size ≤ b := by
    rcases e' with z | z
    · rw [z]; exact Nat.le_add_right _ _
    · rw [z]; exact Nat.le_refl _
  exact I1.fpOk hle (I1.hok.fresh hle)

/-! ### zip -/
def Jzp (K : PySem.W.Frag) (a b : Sc) : It :=
  ⟨fun i H => ∃ n m, a.Of K H n ∧ b.Of K H m ∧ i < min n m, fun i H v H' => ∃ T x y, v = .ref T ∧ H T = none ∧ H' = upd H T (.tup [x, y]) ∧ a.Val K H i x ∧ b.Val K H i y, fun i H => ∃ n m, a.Of K H n ∧ b.Of K H m ∧ i = min n m⟩
structure Sp5 (z TI TO i1 i2 : Addr) : Prop where
  a : TI ≠ z
  b : TO ≠ z
  c : TI ≠ TO
  d : TI ≠ i1
  e : TI ≠ i2
  f : z ≠ i1
  g : z ≠ i2
  h : TO ≠ i1
  i : TO ≠ i2
  j : i1 ≠ i2
theorem turn_zp {P : Program} {w : World} {K : PySem.W.Frag} {elts : List Expr} {kk : Nat} {tpos : Pos} (a b : Sc) (z TI TO i1 i2 : Addr) :
    Turn P w K (.Tuple elts kk tpos) (Jzp K a b) [z, TI, TO, i1, i2] z
      (fun i h => (IsZip h z TI TO .none ∧ IsTupOf2 h TI (.ref i1) (.ref i2) ∧ (∃ a1 a2, IsTupOf2 h TO a1 a2)) ∧ a.tn i1 i h ∧ b.tn i2 i h ∧ Sp5 z TI TO i1 i2) where
  mem := by simp
  obj := fun i h st c hc => by
    obtain ⟨⟨hz, hTI, a1, a2, hTO⟩, t1, t2, _⟩ := st
    have e' : c = z ∨ c = TI ∨ c = TO ∨ c = i1 ∨ c = i2 := by simpa using hc
    rcases e' with q | q | q | q | q
    · rw [q]; exact ⟨_, hz, fun v q => nomatch q⟩
    · rw [q]; exact ⟨_, hTI, fun v q => nomatch q⟩
    · rw [q]; exact ⟨_, hTO, fun v q => nomatch q⟩
    · rw [q]; exact Sc.tn_obj t1
    · rw [q]; exact Sc.tn_obj t2
  keep := fun i h h' st k => let ⟨⟨hz, hTI, a1, a2, hTO⟩, t1, t2, sp⟩ := st
    ⟨⟨k z (by simp) _ hz, k TI (by simp) _ hTI, a1, a2, k TO (by simp) _ hTO⟩, Sc.tn_keep t1 (fun o q => k i1 (by simp) o q), Sc.tn_keep t2 (fun o q => k i2 (by simp) o q), sp⟩
  item := by
    intro X hP hw hK hc i pins s σ H E I hf st hg
    subst hP hw hK
    obtain ⟨hz, t1, t2, sp⟩ := st
    obtain ⟨n, m, of1, of2, hi⟩ := hg
    have f1 := hf i1 (by simp)
    have f2 := hf i2 (by simp)
    obtain ⟨fp1, PP1, St1, D1, m1, st1, bk1, fd1, va1⟩ := a.draw I hc of1 t1 f1
    obtain ⟨fp2, PP2, St2, D2, m2, st2, bk2, fd2, va2⟩ := b.draw I hc of2 t2 f2
    have out1 : ∀ c ∈ [z, TI, TO, i1, i2], c ≠ i1 → c ∉ fp1 := fun c hcm hne q => by
      rcases fd1 c q with w1 | w1
      · exact hne w1
      · exact dat_ne I w1 (hf c hcm) rfl
    have out2 : ∀ c ∈ [z, TI, TO, i1, i2], c ≠ i2 → c ∉ fp2 := fun c hcm hne q => by
      rcases fd2 c q with w1 | w1
      · exact hne w1
      · exact dat_ne I w1 (hf c hcm) rfl
    have S : ZipSep2 z TI TO i1 i2 fp1 fp2 :=
      { TIz := sp.a, TOz := sp.b, TITO := sp.c, TIi1 := sp.d, mem1 := m1, zf1 := out1 z (by simp) sp.f, Tf1 := out1 TO (by simp) sp.h,
        TIi2 := sp.e, mem2 := m2, zf2 := out2 z (by simp) sp.g, Tf2 := out2 TO (by simp) sp.i, sep1_2 := out2 i1 (by simp) sp.j, sep2_1 := out1 i2 (by simp) (Ne.symm sp.j) }
    refine (GoesN.zip2 (elts := elts) (x1 := kk) (pos := tpos) S D1 D2).goes i s (fun u s2 => ∃ x H', Inv X pins σ H' s2 ∧ RelV x u ∧ (Jzp X.K a b).yld i H x H' ∧
      ((IsZip s2.heap z TI TO .none ∧ IsTupOf2 s2.heap TI (.ref i1) (.ref i2) ∧ (∃ a1 a2, IsTupOf2 s2.heap TO a1 a2)) ∧ a.tn i1 (i + 1) s2.heap ∧ b.tn i2 (i + 1) s2.heap ∧ Sp5 z TI TO i1 i2) ∧ ∀ c ∈ [z, TI, TO, i1, i2], H' c = none) E hi ⟨hz.1, hz.2.1, hz.2.2, st1, st2⟩ fun v h' tk hY st' hk htk => ?_
    obtain ⟨T, x, y, rfl, hT, hP1, hP2, ob⟩ := hY
    obtain ⟨x', rx, hx⟩ := va1 i x hP1
    obtain ⟨y', ry, hy⟩ := va2 i y hP2
    have new : ObjOk X.prog X.w (upd H T (.tup [x', y'])) h' T (.tup [x', y']) := ⟨by show 2 ≤ sizeLine; decide, [x, y], .cons rx (.cons ry .nil), ob⟩
    have I1 := I.turnedNew (t' := tk) (ch := [z, TO, i1, i2]) hk (fun c hcm => hf c (by
      have e' : c = z ∨ c = TO ∨ c = i1 ∨ c = i2 := by simpa using hcm
      rcases e' with q | q | q | q <;> simp [q])) hT new
    refine ⟨.ref T, _, I1, rfl, ⟨T, x', y', rfl, I.hok.fresh hT, rfl, hx, hy⟩, ⟨⟨st'.1, st'.2.1, st'.2.2.1⟩, bk1 _ _ st'.2.2.2.1, bk2 _ _ st'.2.2.2.2, sp⟩, fun c hcm => ?_⟩
    have hlt : c < s.heap.objs.size := by
      obtain ⟨hz, hTI, a1, a2, hTO⟩ := hz
      have e' : c = z ∨ c = TI ∨ c = TO ∨ c = i1 ∨ c = i2 := by simpa using hcm
      rcases e' with q | q | q | q | q
      · rw [q]; exact Heap.lt_size hz
      · rw [q]; exact Heap.lt_size hTI
      · rw [q]; exact Heap.lt_size hTO
      · obtain ⟨o, w1, _⟩ := Sc.tn_obj t1
        rw [q]; exact Heap.lt_size w1
      · obtain ⟨o, w1, _⟩ := Sc.tn_obj t2
        rw [q]; exact Heap.lt_size w1
    rw [upd_ne (Nat.ne_of_lt (Nat.lt_of_lt_of_le hlt hT))]
    exact (hf c hcm).1
  done := by
    intro X hP hw hK hc i pins s σ H E I hf st hg
    subst hP hw hK
    obtain ⟨hz, t1, t2, sp⟩ := st
    obtain ⟨n, m, of1, of2, rfl⟩ := hg
    have f1 := hf i1 (by simp)
    have f2 := hf i2 (by simp)
    obtain ⟨fp1, PP1, St1, D1, m1, st1, bk1, fd1, va1⟩ := a.draw I hc of1 t1 f1
    obtain ⟨fp2, PP2, St2, D2, m2, st2, bk2, fd2, va2⟩ := b.draw I hc of2 t2 f2
    have out1 : ∀ c ∈ [z, TI, TO, i1, i2], c ≠ i1 → c ∉ fp1 := fun c hcm hne q => by
      rcases fd1 c q with w1 | w1
      · exact hne w1
      · exact dat_ne I w1 (hf c hcm) rfl
    have out2 : ∀ c ∈ [z, TI, TO, i1, i2], c ≠ i2 → c ∉ fp2 := fun c hcm hne q => by
      rcases fd2 c q with w1 | w1
      · exact hne w1
      · exact dat_ne I w1 (hf c hcm) rfl
    have S : ZipSep2 z TI TO i1 i2 fp1 fp2 :=
      { TIz := sp.a, TOz := sp.b, TITO := sp.c, TIi1 := sp.d, mem1 := m1, zf1 := out1 z (by simp) sp.f, Tf1 := out1 TO (by simp) sp.h,
        TIi2 := sp.e, mem2 := m2, zf2 := out2 z (by simp) sp.g, Tf2 := out2 TO (by simp) sp.i, sep1_2 := out2 i1 (by simp) sp.j, sep2_1 := out1 i2 (by simp) (Ne.symm sp.j) }
    exact (GoesN.zip2 (elts := elts) (x1 := kk) (pos := tpos) S D1 D2).stops s _ E ⟨hz.1, hz.2.1, hz.2.2, st1, st2⟩ fun h' tk hk _ => I.turnedL (t' := tk) (ch := [z, TO, i1, i2]) hk (fun c hcm => hf c (by
      have e' : c = z ∨ c = TO ∨ c = i1 ∨ c = i2 := by simpa using hcm
      rcases e' with q | q | q | q <;> simp [q]))
  self := fun A i s Q E st h => wpAny_pyIter_zip st.1.1 h
def iZp (K : PySem.W.Frag) (ta : TA) : TI := fun σ H R => ta σ H fun vs H1 => ∃ a b n m, vs = [Sc.v a, Sc.v b] ∧ a.Of K H1 n ∧ b.Of K H1 m ∧ R (Jzp K a b) H1
theorem pi_zp {X : Cx} {e e2 : Expr} {ta : TA} {p pos tpos : Pos} {elts : List Expr} {kk : Nat} {x : Str} (hx : x = "zip") (hg : Gl X x) (hm : X.mg x = none) (ha : PA X [e, e2] ta)
    (hs : starEach [e, e2] X.env = (false, eval e X.env) :: starEach [e2] X.env) (hpl : (backTo pos (starEach [e2] X.env)).any (·.1) = false) :
    PI X (.Tuple elts kk tpos) (.Call (.Name x p) [e, e2] [] pos) (iZp X.K ta) := by
  subst hx
  refine ⟨fun pins s σ H R I h => ?_⟩
  refine Call_ (ld_blt I hg hm PyProof.Rows.boot_zip (PyProof.Rows.callWith_type1 (thn (ha.run pos pins s σ H _ I h) fun us s1 ⟨vs, H1, I1, r1, q1⟩ => ?_) hs hpl))
  obtain ⟨a, b, n, m, ex, of1, of2, q⟩ := q1
  subst ex
  obtain ⟨u, u2, rfl, ru, ru2⟩ := vals2 r1
  obtain ⟨o1, H1', B1, hh1, st1⟩ := a.begin I1 of1 ru
  obtain ⟨o2, H2', B2, hh2, st2⟩ := b.begin I1 of2 ru2
  refine zip_begins2 B1 B2 hh1 hh2 fun h' hz hTI hTO ho1 ho2 hsz hk => wpAny_pyIter_zip hz ?_
  have I2 : Inv X pins σ H1 { s1 with heap := h' } := I1.kept (t' := s1.toks) hk
  refine ⟨s1.heap.objs.size + 4, [s1.heap.objs.size + 4, s1.heap.objs.size + 2, s1.heap.objs.size + 3, s1.heap.objs.size, s1.heap.objs.size + 1], _, _, H1, rfl, I2, turn_zp a b (s1.heap.objs.size + 4) (s1.heap.objs.size + 2) (s1.heap.objs.size + 3) s1.heap.objs.size (s1.heap.objs.size + 1),
    ⟨⟨hz, hTI, _, _, hTO⟩, st1 _ _ ho1, st2 _ _ ho2, ?_⟩, fun c hcm => ?_, q⟩
  · generalize s1.heap.objs.size = N
    have ne : ∀ i j : Nat, i ≠ j → N + i ≠ N + j := fun i j h z => h (Nat.add_left_cancel z)
    exact ⟨ne 2 4 (by decide), ne 3 4 (by decide), ne 2 3 (by decide), ne 2 0 (by decide), ne 2 1 (by decide), ne 4 0 (by decide), ne 4 1 (by decide), ne 3 0 (by decide), ne 3 1 (by decide), ne 0 1 (by decide)⟩
  · have e' : c = s1.heap.objs.size + 4 ∨ c = s1.heap.objs.size + 2 ∨ c = s1.heap.objs.size + 3 ∨ c = s1.heap.objs.size ∨ c = s1.heap.objs.size + 1 := by simpa using hcm
    have hle : s1.heap.objs.size ≤ c := by
      rcases e' with z | z | z | z | z
      · rw [z]; exact Nat.le_add_right _ _
      · rw [z]; exact Nat.le_add_right _ _
      · rw [z]; exact Nat.le_add_right _ _
      · rw [z]; exact Nat.le_refl _
      · rw [z]; exact Nat.le_add_right _ _
    exact I1.fpOk hle (I1.hok.fresh hle)
end NT

set_option Elab.async false
set_option linter.all false
set_option maxRecDepth 100000
set_option maxHeartbeats 1000000
set_option autoImplicit false
/-! What is walked, as rows of data. -/
namespace NT
open PySem PySem.Spec PyProof.Rows L2

section
variable {K : PySem.W.Frag} {W W' W'' W0 : Wr} {g : Slots} {σ : L2.St}
/-- at this world the walker hands out these things -/
structure Yl (K : PySem.W.Frag) (W : Wr) (J : It) (items : List D) : Prop where
  go : ∀ (i : Nat) (d : D), items[i]? = some d → J.go i W.H ∧ ∀ x H', J.yld i W.H x H' → ∃ W', W'.H = H' ∧ Grw W W' ∧ Wok W' ∧ Rep K W' d x
  stop : J.stop items.length W.H
/-- the sources and what was data stay -/
structure Kept (K : PySem.W.Frag) (A : List Addr) (W W' : Wr) : Prop where
  a : ∀ a ∈ A, ∀ o, W.H a = some o → W'.H a = some o
  r : ∀ d v, Rep K W d v → Rep K W' d v
def TIv (K : PySem.W.Frag) (k : IK) (f : Slots → Mu → RE (List DK)) : TI := fun σ H R => ∃ W g μ xs items μ', Sta K W g μ σ H ∧ f g μ = .ok xs μ' ∧ iterD k (xs.map (·.1)) = some items ∧
  ∀ W' J (A : List Addr), Stp W W' → Wok W' → MuOk K W' μ' → (∀ a ∈ A, (∃ o, W'.H a = some o) ∧ (W'.F a ∨ ∃ i x, x ∈ xs ∧ x.2 = .bo i ∧ (∃ l, g[i]? = some (.own l)) ∧ σ[i]? = some (some (.ref a)))) → items.length ≤ 16777216 → (∀ W'', Kept K A W' W'' → Wok W'' → Yl K W'' J items) → R J W'.H
abbrev DI (X : Cx) (tg e : Expr) (k : IK) (f : Slots → Mu → RE (List DK)) : Prop := PI X tg e (TIv X.K k f)
theorem PI.imp {X : Cx} {tg e : Expr} {t t' : TI} (h : PI X tg e t) (i : ∀ σ H R, t' σ H R → t σ H R) : PI X tg e t' := ⟨fun pins s σ H R I q => h.run pins s σ H R I (i _ _ _ q)⟩

theorem rep_list_get {l : List D} {vs : List V} (r : ∀ (i : Nat) d, l[i]? = some d → ∃ v, vs[i]? = some v ∧ Rep K W d v) {i : Nat} {d : D} (h : l[i]? = some d) {y : V} (e : vs[i]? = some y) : Rep K W d y := by
  obtain ⟨v, e1, r1⟩ := r i d h
  rw [e] at e1; cases e1
  exact r1
def Sc.fit : Sc → D → Bool
  | .l _, .lst _ => true | .t _, .tup _ => true | .s _, .str _ => true | _, _ => false
/-- a source of data -/
structure SrcD (K : PySem.W.Frag) (W : Wr) (sc : Sc) (l : List D) : Prop where
  of : sc.Of K W.H l.length
  val : ∀ (i : Nat) d, l[i]? = some d → ∀ y, sc.Val K W.H i y → Rep K W d y
theorem signs_len (z : Str) : (signs z).length = z.cps.size := by simp [signs]
theorem src_of {x : DK} {v : V} {l : List D} (ok : Wok W) (gok : GOk K W g σ) (h : VA K W g σ x v) (e : rowD x.1 = some l) :
    ∃ sc A, (v = Sc.v sc ∧ sc.fit x.1 = true) ∧ (∀ a ∈ A, (∃ o, W.H a = some o) ∧ (W.F a ∨ ∃ i, x.2 = .bo i ∧ (∃ l, g[i]? = some (.own l)) ∧ σ[i]? = some (some (.ref a)))) ∧ l.length ≤ 16777216 ∧ ∀ W'', Kept K A W W'' → Wok W'' → SrcD K W'' sc l := by
  have frow : ∀ (p : Addr) (vs : List V), v = .ref p → W.H p = some (.lst vs) → RepL K W l vs → (W.F p ∨ ∃ i, x.2 = .bo i ∧ (∃ l, g[i]? = some (.own l)) ∧ σ[i]? = some (some (.ref p))) → ∃ sc A, (v = Sc.v sc ∧ sc.fit (.lst l) = true) ∧ (∀ a ∈ A, (∃ o, W.H a = some o) ∧ (W.F a ∨ ∃ i, x.2 = .bo i ∧ (∃ l, g[i]? = some (.own l)) ∧ σ[i]? = some (some (.ref a)))) ∧ l.length ≤ 16777216 ∧ ∀ W'', Kept K A W W'' → Wok W'' → SrcD K W'' sc l := fun p vs ev hp rr hs => by
    refine ⟨.l p, [p], ⟨ev, rfl⟩, fun a ha => by rw [List.mem_singleton.mp ha]; exact ⟨⟨_, hp⟩, hs⟩, by rw [rr.length]; exact ok.z p vs (.inl hp), fun W2 k ok2 => ?_⟩
    have hp2 := k.a p (by simp) _ hp
    exact ⟨⟨vs, SqL.of hp2, rr.length.symm⟩, fun i d hd y hy => rep_list_get (fun j e he => let ⟨w, h1, h2⟩ := rr.get he; ⟨w, h1, k.r _ _ h2⟩) hd (hy vs (SqL.of hp2))⟩
  unfold rowD at e
  unfold VA at h
  split at e
  · rename_i l' hx
    cases e
    rw [hx] at h
    split at h
    · rename_i i hk
      obtain ⟨l2, e1, h1, h2⟩ := h
      cases e1
      obtain ⟨p, vs, e2, nf, ni, hp, rr⟩ := gok.at_ _ _ _ h1 h2
      cases e2
      rw [hx]; exact frow p vs rfl hp rr (.inr ⟨i, hk, ⟨_, h1⟩, h2⟩)
    · cases h with
      | lst hf hp rr => rw [hx]; exact frow _ _ rfl hp rr (.inl hf)
  · rename_i l' hx
    cases e
    rw [hx] at h
    have h : Rep K W (.tup l) v := by
      split at h
      · obtain ⟨l2, e1, _⟩ := h; cases e1
      · exact h
    cases h with
    | @tup p vs _ hp rr =>
      have hl := hp.len ok
      rcases hp with ⟨hf, hp⟩ | hp
      · refine ⟨.t p, [p], ⟨rfl, by rw [hx]; rfl⟩, fun a ha => by rw [List.mem_singleton.mp ha]; exact ⟨⟨_, hp⟩, .inl hf⟩, by rw [rr.length]; exact hl, fun W2 k ok2 => ?_⟩
        have hp2 := k.a p (by simp) _ hp
        exact ⟨⟨vs, SqT.of hp2, rr.length.symm⟩, fun i d hd y hy => rep_list_get (fun j e he => let ⟨w, h1, h2⟩ := rr.get he; ⟨w, h1, k.r _ _ h2⟩) hd (hy vs (SqT.of hp2))⟩
      · have hk : ∀ W2 : Wr, SqT K W2.H p vs := fun W2 => by
          rcases hp with (h | ⟨_, h⟩) | h
          · cases h
          · cases h
          · exact .inr h
        exact ⟨.t p, [], ⟨rfl, by rw [hx]; rfl⟩, fun a ha => (by cases ha), by rw [rr.length]; exact hl, fun W2 k ok2 => ⟨⟨vs, hk W2, rr.length.symm⟩, fun i d hd y hy => rep_list_get (fun j e he => let ⟨w, h1, h2⟩ := rr.get he; ⟨w, h1, k.r _ _ h2⟩) hd (hy vs (hk W2))⟩⟩
  · rename_i z hx
    cases e
    rw [hx] at h
    have h : Rep K W (.str z) v := by
      split at h
      · obtain ⟨l2, e1, _⟩ := h; cases e1
      · exact h
    cases h with
    | str _ hz =>
      refine ⟨.s z, [], ⟨rfl, by rw [hx]; rfl⟩, fun a ha => (by cases ha), by rw [signs_len]; exact hz, fun W2 k ok2 => ⟨(signs_len z).symm, fun i d hd y hy => ?_⟩⟩
      obtain ⟨c, e1, rfl⟩ := hy
      unfold signs at hd
      rw [List.getElem?_map] at hd
      have e2 : z.cps.toList[i]? = some c := by simpa using e1
      rw [e2] at hd
      cases hd
      exact .str _ (len1 c)
  · cases e
theorem zipD_get : ∀ {l r : List D} {i : Nat} {d : D}, (zipD l r)[i]? = some d → ∃ x y, l[i]? = some x ∧ r[i]? = some y ∧ d = .tup [x, y]
  | [], _, _, _, h => by simp [zipD] at h
  | _ :: _, [], _, _, h => by simp [zipD] at h
  | x :: l, y :: r, 0, d, h => by simp [zipD] at h; exact ⟨x, y, rfl, rfl, h.symm⟩
  | x :: l, y :: r, i + 1, d, h => by
    obtain ⟨a, b, h1, h2, h3⟩ := zipD_get (l := l) (r := r) (i := i) (d := d) (by simpa [zipD] using h)
    exact ⟨a, b, by simpa using h1, by simpa using h2, h3⟩
theorem zipD_len : ∀ l r : List D, (zipD l r).length = min l.length r.length
  | [], r => by simp [zipD]
  | _ :: _, [] => by simp [zipD]
  | _ :: l, _ :: r => by simp only [zipD, List.length_cons, zipD_len l r]; omega
theorem enumD_get : ∀ {l : List D} {k i : Nat} {d : D}, (enumD k l)[i]? = some d → ∃ x, l[i]? = some x ∧ d = .tup [.int ((k + i : Nat) : Int), x]
  | [], _, _, _, h => by simp [enumD] at h
  | x :: l, k, 0, d, h => by simp [enumD] at h; exact ⟨x, rfl, h.symm⟩
  | x :: l, k, i + 1, d, h => by
    obtain ⟨a, h1, h2⟩ := enumD_get (l := l) (k := k + 1) (i := i) (d := d) (by simpa [enumD] using h)
    refine ⟨a, by simpa using h1, ?_⟩
    rw [h2]
    have e : k + 1 + i = k + (i + 1) := by omega
    rw [e]
theorem enumD_len : ∀ (l : List D) (k : Nat), (enumD k l).length = l.length
  | [], _ => rfl
  | _ :: l, k => by simp [enumD, enumD_len l (k + 1)]
theorem intL_get {lo : Int} {n i : Nat} {d : D} (h : (intL lo n)[i]? = some d) : i < n ∧ d = .int (lo + (i : Int)) := by
  unfold intL at h
  rw [List.getElem?_map] at h
  by_cases hi : i < n
  · rw [List.getElem?_range hi] at h
    exact ⟨hi, (Option.some.inj h).symm⟩
  · rw [List.getElem?_eq_none (by simpa using hi)] at h; cases h
theorem intL_len (lo : Int) (n : Nat) : (intL lo n).length = n := by simp [intL]
theorem yl_rng (W : Wr) (ok : Wok W) (lo : Int) (n : Nat) : Yl K W (Itr lo n) (intL lo n) :=
  ⟨fun i d h => by
    obtain ⟨hi, rfl⟩ := intL_get h
    exact ⟨hi, fun x H' hy => by obtain ⟨rfl, rfl⟩ := hy; exact ⟨W, rfl, .refl, ok, .int _⟩⟩, by rw [intL_len]; exact Nat.le_refl _⟩
theorem yl_en {sc : Sc} {l : List D} (ok : Wok W) (s : SrcD K W sc l) : Yl K W (Jen K sc) (enumD 0 l) :=
  ⟨fun i d h => by
    obtain ⟨x, hx, rfl⟩ := enumD_get h
    refine ⟨⟨l.length, s.of, (List.getElem?_eq_some_iff.mp hx).1⟩, fun y H' hy => ?_⟩
    obtain ⟨T, z, rfl, n, rfl, hv⟩ := hy
    have r := s.val i x hx z hv
    rw [Nat.zero_add]
    exact ⟨W.tup T [.int (i : Nat), z], rfl, grw_tup n, wok_tup ok n (by show 2 ≤ 16777216; decide), rep_tup ok n (.cons (.int _) (.cons r .nil))⟩, by rw [enumD_len]; exact s.of⟩
theorem yl_zp {a b : Sc} {l r : List D} (ok : Wok W) (s : SrcD K W a l) (t : SrcD K W b r) : Yl K W (Jzp K a b) (zipD l r) :=
  ⟨fun i d h => by
    obtain ⟨x, y, hx, hy, rfl⟩ := zipD_get h
    have h1 := (List.getElem?_eq_some_iff.mp hx).1
    have h2 := (List.getElem?_eq_some_iff.mp hy).1
    refine ⟨⟨l.length, r.length, s.of, t.of, by omega⟩, fun v H' hv => ?_⟩
    obtain ⟨T, u, w, rfl, n, rfl, v1, v2⟩ := hv
    exact ⟨W.tup T [u, w], rfl, grw_tup n, wok_tup ok n (by show 2 ≤ 16777216; decide), rep_tup ok n (.cons (s.val i x hx u v1) (.cons (t.val i y hy w v2) .nil))⟩, ⟨l.length, r.length, s.of, t.of, zipD_len l r⟩⟩
theorem yl_l {p : Addr} {l : List D} (ok : Wok W) (s : SrcD K W (.l p) l) : Yl K W (Itl K p) l := by
  obtain ⟨xs, hs, hl⟩ := s.of
  refine ⟨fun i d h => ?_, ⟨xs, hs, by rw [hl]; exact Nat.le_refl _⟩⟩
  have hi := (List.getElem?_eq_some_iff.mp h).1
  refine ⟨⟨xs, xs[i], hs, List.getElem?_eq_getElem (by omega)⟩, fun x H' hy => ?_⟩
  obtain ⟨rfl, hy⟩ := hy
  exact ⟨W, rfl, .refl, ok, s.val i d h x hy⟩
theorem yl_t {p : Addr} {l : List D} (ok : Wok W) (s : SrcD K W (.t p) l) : Yl K W (Itt K p) l := by
  obtain ⟨xs, hs, hl⟩ := s.of
  refine ⟨fun i d h => ?_, ⟨xs, hs, by rw [hl]; exact Nat.le_refl _⟩⟩
  have hi := (List.getElem?_eq_some_iff.mp h).1
  refine ⟨⟨xs, xs[i], hs, List.getElem?_eq_getElem (by omega)⟩, fun x H' hy => ?_⟩
  obtain ⟨rfl, hy⟩ := hy
  exact ⟨W, rfl, .refl, ok, s.val i d h x hy⟩
theorem yl_s {z : Str} {l : List D} (ok : Wok W) (s : SrcD K W (.s z) l) : Yl K W (Its z) l := by
  have e : z.cps.size = l.length := s.of
  refine ⟨fun i d h => ?_, by show z.cps.size ≤ l.length; omega⟩
  have hi := (List.getElem?_eq_some_iff.mp h).1
  refine ⟨show i < z.cps.size by omega, fun x H' hy => ?_⟩
  obtain ⟨rfl, hy⟩ := hy
  exact ⟨W, rfl, .refl, ok, s.val i d h x hy⟩
end

section
variable {X : Cx} {tg e e2 : Expr} {fa fb : Slots → Mu → RE DK} {fs : Slots → Mu → RE (List DK)} {pos tpos p : Pos} {elts : List Expr} {kk : Nat} {x : Str}
theorem VR.va {K : PySem.W.Frag} {W W' : Wr} {g : Slots} {σ : L2.St} {μ : Mu} {y : DK} {v : V} (s : Stp W W') (ok : Wok W) (ok' : Wok W') (mu : MuOk K W' μ) (gok : GOk K W g σ) (h : VR K W W' g σ y.1 y.2 v) :
    ∃ W2, W2.H = W'.H ∧ Stp W W2 ∧ Wok W2 ∧ MuOk K W2 μ ∧ VA K W2 g σ y v := by
  by_cases hb : isBo y.2 = true
  · refine ⟨W', rfl, s, ok', mu, ?_⟩
    unfold VA
    cases hk : y.2 with
    | bo i => rw [hk] at h; exact h
    | pl => rw [hk] at hb; cases hb
    | fr => rw [hk] at hb; cases hb
  · obtain ⟨W2, q⟩ := h.plain s ok ok' mu gok fun i z => hb (by rw [z]; rfl)
    refine ⟨W2, q.h, q.s, q.ok, q.mu, ?_⟩
    unfold VA
    cases hk : y.2 with
    | bo i => rw [hk] at hb; exact absurd rfl hb
    | pl => exact q.r
    | fr => exact q.r
theorem di_seq (he : DE X e fa) : DI X tg e .seq fun g μ => (fa g μ).bind fun x μ1 => .ok [x] μ1 := by
  refine ⟨fun pins s σ H R I q => ?_⟩
  obtain ⟨W, g, μ, xs, items, μ', st, ef, ei, q⟩ := q
  obtain ⟨y, μ1, e1, e2⟩ := RE.bind_ok ef
  cases e2
  have ei : rowD y.1 = some items := ei
  have key : ∀ W1 v, Stp W W1 → Wok W1 → MuOk X.K W1 μ' → VR X.K W W1 g σ y.1 y.2 v → ∃ sc, (v = Sc.v sc ∧ sc.fit y.1 = true) ∧ (∃ n, sc.Of X.K W1.H n) ∧ ∀ J, (∀ W'', Wok W'' → SrcD X.K W'' sc items → Yl X.K W'' J items) → R J W1.H := fun W1 v s1 ok1 mu1 r1 => by
    obtain ⟨W2, hH, s2, ok2, mu2, va⟩ := r1.va s1 st.ok ok1 mu1 st.g
    obtain ⟨sc, A, ev, hA, hz, hk⟩ := src_of ok2 (st.g.mono s2 st.ok) va ei
    have h0 := hk W2 ⟨fun _ _ _ h => h, fun _ _ h => h⟩ ok2
    refine ⟨sc, ev, ⟨_, by rw [← hH]; exact h0.of⟩, fun J hJ => ?_⟩
    rw [← hH]
    exact q W2 J A s2 ok2 mu2 (fun a ha => ⟨(hA a ha).1, (hA a ha).2.imp id fun ⟨i, h1, h2⟩ => ⟨i, y, by simp, h1, h2⟩⟩) hz fun W'' k ok'' => hJ W'' ok'' (hk W'' k ok'')
  have row := ei
  unfold rowD at row
  split at row
  · rename_i l hy
    refine (pi_list he).run pins s σ H R I ⟨W, g, μ, y.1, y.2, μ', st, e1, fun W1 v s1 ok1 mu1 r1 => ?_⟩
    obtain ⟨sc, ⟨ev, ft⟩, ⟨n, of⟩, hJ⟩ := key W1 v s1 ok1 mu1 r1
    rw [hy] at ft
    cases sc with
    | l a =>
      obtain ⟨xs, h1, _⟩ := of
      exact ⟨a, ev, ⟨xs, h1⟩, hJ _ fun W'' ok'' sd => yl_l ok'' sd⟩
    | t a => cases ft
    | s z => cases ft
  · rename_i l hy
    refine (pi_tup he).run pins s σ H R I ⟨W, g, μ, y.1, y.2, μ', st, e1, fun W1 v s1 ok1 mu1 r1 => ?_⟩
    obtain ⟨sc, ⟨ev, ft⟩, ⟨n, of⟩, hJ⟩ := key W1 v s1 ok1 mu1 r1
    rw [hy] at ft
    cases sc with
    | t a =>
      obtain ⟨xs, h1, _⟩ := of
      exact ⟨a, ev, ⟨xs, h1⟩, hJ _ fun W'' ok'' sd => yl_t ok'' sd⟩
    | l a => cases ft
    | s z => cases ft
  · rename_i l hy
    refine (pi_str he).run pins s σ H R I ⟨W, g, μ, y.1, y.2, μ', st, e1, fun W1 v s1 ok1 mu1 r1 => ?_⟩
    obtain ⟨sc, ⟨ev, ft⟩, ⟨n, of⟩, hJ⟩ := key W1 v s1 ok1 mu1 r1
    rw [hy] at ft
    cases sc with
    | s z => exact ⟨z, ev, hJ _ fun W'' ok'' sd => yl_s ok'' sd⟩
    | l a => cases ft
    | t a => cases ft
  · cases row
theorem vas1 {K : PySem.W.Frag} {W : Wr} {g : Slots} {σ : L2.St} {y : DK} {vs : List V} (h : VAs K W g σ [y] vs) : ∃ v, vs = [v] ∧ VA K W g σ y v := by
  obtain ⟨v, r, e, h1, h2⟩ := h
  cases h2
  exact ⟨v, e, h1⟩
theorem vas2 {K : PySem.W.Frag} {W : Wr} {g : Slots} {σ : L2.St} {y z : DK} {vs : List V} (h : VAs K W g σ [y, z] vs) : ∃ v u, vs = [v, u] ∧ VA K W g σ y v ∧ VA K W g σ z u := by
  obtain ⟨v, r, e, h1, u, r2, e2, h2, h3⟩ := h
  cases h3
  subst e2
  exact ⟨v, u, e, h1, h2⟩
theorem va_int {K : PySem.W.Frag} {W : Wr} {g : Slots} {σ : L2.St} {y : DK} {i : Int} {v : V} (gok : GOk K W g σ) (h : VA K W g σ y v) (e : y.1 = .int i) : v = .int i := by
  have := h.rd gok
  rw [e] at this
  exact rd_int this
theorem vas_one {xs : List DK} {d : D} (h : xs.map (·.1) = [d]) : ∃ y0, xs = [y0] ∧ y0.1 = d := by
  cases xs with
  | nil => cases h
  | cons y0 t0 =>
    cases t0 with
    | cons _ _ => cases h
    | nil => exact ⟨y0, rfl, by simpa using h⟩
theorem vas_two {xs : List DK} {d d2 : D} (h : xs.map (·.1) = [d, d2]) : ∃ y0 y1, xs = [y0, y1] ∧ y0.1 = d ∧ y1.1 = d2 := by
  cases xs with
  | nil => cases h
  | cons y0 t0 =>
    obtain ⟨y1, rfl, e⟩ := vas_one (xs := t0) (by simpa using (List.cons.inj h).2)
    exact ⟨y0, y1, rfl, (List.cons.inj h).1, e⟩
theorem di_en (hx : x = "enumerate") (hg : Gl X x) (hm : X.mg x = none) (ha : DA X [e] fs) (hs : starEach [e] X.env = [(false, eval e X.env)]) : DI X (.Tuple elts kk tpos) (.Call (.Name x p) [e] [] pos) .enum fs :=
  PI.imp (pi_en hx hg hm ha hs) fun σ H R ⟨W, g, μ, xs, items, μ', st, ef, ei, q⟩ => by
    refine ⟨W, g, μ, xs, μ', st, ef, fun W1 vs s1 ok1 mu1 r1 => ?_⟩
    unfold iterD at ei
    split at ei <;> first | (rename_i z _; cases z; done) | skip
    all_goals first | (rename_i z; cases z; done) | skip
    rename_i y _ hxs
    obtain ⟨l, e1, e2⟩ := Option.map_eq_some_iff.mp ei
    obtain ⟨y0, rfl, ey⟩ := vas_one hxs
    obtain ⟨v, rfl, va⟩ := vas1 r1
    rw [← ey] at e1
    obtain ⟨sc, A, ⟨ev, _⟩, hA, hz, hk⟩ := src_of ok1 (st.g.mono s1 st.ok) va e1
    have h0 := hk W1 ⟨fun _ _ _ h => h, fun _ _ h => h⟩ ok1
    subst e2
    exact ⟨sc, l.length, by rw [ev], h0.of, q W1 _ A s1 ok1 mu1 (fun a ha => ⟨(hA a ha).1, (hA a ha).2.imp id fun ⟨i, h1, h2⟩ => ⟨i, y0, by simp, h1, h2⟩⟩) (by rw [enumD_len]; exact hz) fun W'' k ok'' => yl_en ok'' (hk W'' k ok'')⟩
    all_goals cases ei
theorem di_zp (hx : x = "zip") (hg : Gl X x) (hm : X.mg x = none) (ha : DA X [e, e2] fs) (hs : starEach [e, e2] X.env = (false, eval e X.env) :: starEach [e2] X.env) (hpl : (backTo pos (starEach [e2] X.env)).any (·.1) = false) :
    DI X (.Tuple elts kk tpos) (.Call (.Name x p) [e, e2] [] pos) .zip fs :=
  PI.imp (pi_zp hx hg hm ha hs hpl) fun σ H R ⟨W, g, μ, xs, items, μ', st, ef, ei, q⟩ => by
    refine ⟨W, g, μ, xs, μ', st, ef, fun W1 vs s1 ok1 mu1 r1 => ?_⟩
    unfold iterD at ei
    split at ei <;> first | (rename_i z _; cases z; done) | skip
    all_goals first | (rename_i z; cases z; done) | skip
    rename_i y u _ hxs
    obtain ⟨l, e1, e2⟩ := Option.bind_eq_some_iff.mp ei
    obtain ⟨r, e3, e4⟩ := Option.map_eq_some_iff.mp e2
    obtain ⟨y0, u0, rfl, ey⟩ := vas_two hxs
    obtain ⟨v, w, rfl, va, wa⟩ := vas2 r1
    rw [← ey.1] at e1
    rw [← ey.2] at e3
    obtain ⟨sc, A, ⟨ev, _⟩, hA, hz, hk⟩ := src_of ok1 (st.g.mono s1 st.ok) va e1
    obtain ⟨sd, B, ⟨ew, _⟩, hB, hz2, hk2⟩ := src_of ok1 (st.g.mono s1 st.ok) wa e3
    have h0 := hk W1 ⟨fun _ _ _ h => h, fun _ _ h => h⟩ ok1
    have h2 := hk2 W1 ⟨fun _ _ _ h => h, fun _ _ h => h⟩ ok1
    subst e4
    refine ⟨sc, sd, l.length, r.length, by rw [ev, ew], h0.of, h2.of, q W1 _ (A ++ B) s1 ok1 mu1 (fun a ha => ?_) (by rw [zipD_len]; omega) fun W'' k ok'' => yl_zp ok'' (hk W'' ⟨fun a ha => k.a a (List.mem_append_left _ ha), k.r⟩ ok'') (hk2 W'' ⟨fun a ha => k.a a (List.mem_append_right _ ha), k.r⟩ ok'')⟩
    rcases List.mem_append.mp ha with ha | ha
    · exact ⟨(hA a ha).1, (hA a ha).2.imp id fun ⟨i, h1, h2⟩ => ⟨i, y0, by simp, h1, h2⟩⟩
    · exact ⟨(hB a ha).1, (hB a ha).2.imp id fun ⟨i, h1, h2⟩ => ⟨i, u0, by simp, h1, h2⟩⟩
    all_goals cases ei
theorem di_r1 (hx : x = "range") (hg : Gl X x) (hm : X.mg x = none) (ha : DA X [e] fs) (hs : starEach [e] X.env = [(false, eval e X.env)])
    (h1 : ∀ g μ xs μ', fs g μ = .ok xs μ' → xs.length = 1) : DI X tg (.Call (.Name x p) [e] [] pos) .range fs := by
  subst hx
  refine PI.imp (pi_range1 hg hm ha hs) fun σ H R ⟨W, g, μ, xs, items, μ', st, ef, ei, q⟩ => ?_
  refine ⟨W, g, μ, xs, μ', st, ef, fun W1 vs s1 ok1 mu1 r1 => ?_⟩
  have hl := h1 _ _ _ _ ef
  unfold iterD at ei
  split at ei <;> first | (rename_i z _; cases z; done) | skip
  all_goals first | (rename_i z; cases z; done) | skip
  · rename_i j _ hxs
    obtain ⟨y0, rfl, ey⟩ := vas_one hxs
    obtain ⟨v, rfl, va⟩ := vas1 r1
    split at ei <;> cases ei
    rename_i hc
    obtain rfl := va_int (st.g.mono s1 st.ok) va ey
    refine ⟨j, rfl, by omega, by omega, q W1 _ [] s1 ok1 mu1 (fun a ha => by cases ha) (by rw [intL_len]; omega) fun W'' k ok'' => yl_rng W'' ok'' 0 _⟩
  · rename_i i j _ hxs
    obtain ⟨y0, y1, rfl, _⟩ := vas_two hxs
    cases hl
  · cases ei
theorem di_r2 (hx : x = "range") (hg : Gl X x) (hm : X.mg x = none) (ha : DA X [e, e2] fs) (hs : starEach [e, e2] X.env = [(false, eval e X.env), (false, eval e2 X.env)]) (hs2 : starEach [e2] X.env = [(false, eval e2 X.env)])
    (h1 : ∀ g μ xs μ', fs g μ = .ok xs μ' → xs.length = 2) : DI X tg (.Call (.Name x p) [e, e2] [] pos) .range fs := by
  subst hx
  refine PI.imp (pi_range2 hg hm ha hs hs2) fun σ H R ⟨W, g, μ, xs, items, μ', st, ef, ei, q⟩ => ?_
  refine ⟨W, g, μ, xs, μ', st, ef, fun W1 vs s1 ok1 mu1 r1 => ?_⟩
  have hl := h1 _ _ _ _ ef
  unfold iterD at ei
  split at ei <;> first | (rename_i z _; cases z; done) | skip
  all_goals first | (rename_i z; cases z; done) | skip
  · rename_i j _ hxs
    obtain ⟨y0, rfl, ey⟩ := vas_one hxs
    cases hl
  · rename_i i j _ hxs
    obtain ⟨y0, y1, rfl, ey, ey1⟩ := vas_two hxs
    obtain ⟨v, u, rfl, va, ua⟩ := vas2 r1
    split at ei <;> cases ei
    rename_i hc
    obtain rfl := va_int (st.g.mono s1 st.ok) va ey
    obtain rfl := va_int (st.g.mono s1 st.ok) ua ey1
    refine ⟨i, j, rfl, ⟨by omega, by omega, by omega, by omega⟩, q W1 _ [] s1 ok1 mu1 (fun a ha => by cases ha) (by rw [intL_len]; omega) fun W'' k ok'' => yl_rng W'' ok'' i _⟩
  · cases ei
end
end NT

set_option Elab.async false
set_option linter.all false
set_option maxRecDepth 100000
set_option maxHeartbeats 1000000
set_option autoImplicit false
/-! Targets, list comprehensions, calls. -/
namespace NT
open PySem PySem.Spec PyProof.Rows L2

section
variable {K : PySem.W.Frag} {W W' W'' W0 : Wr} {g : Slots} {σ : L2.St}
theorem GOk.setOk {i : Nat} {d : D} {v : V} (h : GOk K W g σ) (r : Rep K W d v) : GOk K W (g.set i (.ok d)) (σ.set i (some v)) := by
  refine ⟨by simp [h.len], fun j s o e1 e2 => ?_, fun j k l l' p e1 e2 e3 e4 => ?_⟩
  · by_cases hj : i = j
    · subst hj
      have hi : i < g.length := by
        by_cases hi : i < g.length
        · exact hi
        · rw [List.getElem?_eq_none (by simpa using Nat.le_of_not_lt hi)] at e1; cases e1
      rw [List.getElem?_set_self hi] at e1
      rw [List.getElem?_set_self (by rw [← h.len]; exact hi)] at e2
      cases e1; cases e2
      exact ⟨v, rfl, r⟩
    · rw [List.getElem?_set_ne hj] at e1 e2
      exact h.at_ j s o e1 e2
  · have nj : i ≠ j := fun z => by
      subst z
      by_cases hi : i < g.length
      · rw [List.getElem?_set_self hi] at e1; cases e1
      · rw [List.getElem?_eq_none (by simpa using Nat.le_of_not_lt hi)] at e1; cases e1
    have nk : i ≠ k := fun z => by
      subst z
      by_cases hi : i < g.length
      · rw [List.getElem?_set_self hi] at e2; cases e2
      · rw [List.getElem?_eq_none (by simpa using Nat.le_of_not_lt hi)] at e2; cases e2
    rw [List.getElem?_set_ne nj] at e1 e3
    rw [List.getElem?_set_ne nk] at e2 e4
    exact h.apart j k l l' p e1 e2 e3 e4
theorem GOk.setNo {i : Nat} {o : Option V} (h : GOk K W g σ) : GOk K W (g.set i .no) (σ.set i o) := by
  refine ⟨by simp [h.len], fun j s o' e1 e2 => ?_, fun j k l l' p e1 e2 e3 e4 => ?_⟩
  · by_cases hj : i = j
    · subst hj
      have hi : i < g.length := by
        by_cases hi : i < g.length
        · exact hi
        · rw [List.getElem?_eq_none (by simpa using Nat.le_of_not_lt hi)] at e1; cases e1
      rw [List.getElem?_set_self hi] at e1
      cases e1
      trivial
    · rw [List.getElem?_set_ne hj] at e1 e2
      exact h.at_ j s o' e1 e2
  · have nj : i ≠ j := fun z => by
      subst z
      by_cases hi : i < g.length
      · rw [List.getElem?_set_self hi] at e1; cases e1
      · rw [List.getElem?_eq_none (by simpa using Nat.le_of_not_lt hi)] at e1; cases e1
    have nk : i ≠ k := fun z => by
      subst z
      by_cases hi : i < g.length
      · rw [List.getElem?_set_self hi] at e2; cases e2
      · rw [List.getElem?_eq_none (by simpa using Nat.le_of_not_lt hi)] at e2; cases e2
    rw [List.getElem?_set_ne nj] at e1 e3
    rw [List.getElem?_set_ne nk] at e2 e4
    exact h.apart j k l l' p e1 e2 e3 e4
theorem GOk.wipe (h : GOk K W g σ) : ∀ vs : List Nat, GOk K W (wipeG g vs) (L2.wipe σ vs)
  | [] => h
  | v :: vs => by unfold wipeG L2.wipe; exact (GOk.wipe h vs).setNo
theorem wipe_set : ∀ (vs : List Nat) (σ : L2.St) (i : Nat) (x : Option V), L2.wipe (σ.set i x) vs = if i ∈ vs then L2.wipe σ vs else (L2.wipe σ vs).set i x
  | [], σ, i, x => by simp [L2.wipe]
  | v :: vs, σ, i, x => by
    unfold L2.wipe
    rw [wipe_set vs σ i x]
    by_cases h : i ∈ vs
    · rw [if_pos h, if_pos (List.mem_cons_of_mem _ h)]
    · rw [if_neg h]
      by_cases hv : i = v
      · subst hv
        rw [if_pos List.mem_cons_self, List.set_set]
      · rw [if_neg (by simp [hv, h]), List.set_comm _ _ hv]
theorem wipe_in {vs : List Nat} {σ : L2.St} {i : Nat} {x : Option V} (h : i ∈ vs) : L2.wipe (σ.set i x) vs = L2.wipe σ vs := by rw [wipe_set, if_pos h]
theorem wipe_wipe : ∀ (vs us : List Nat) (σ : L2.St), (∀ i ∈ us, i ∈ vs) → L2.wipe (L2.wipe σ us) vs = L2.wipe σ vs
  | vs, [], σ, _ => rfl
  | vs, u :: us, σ, h => by
    have e : L2.wipe σ (u :: us) = (L2.wipe σ us).set u none := rfl
    rw [e, wipe_in (h u List.mem_cons_self)]
    exact wipe_wipe vs us σ fun i hi => h i (List.mem_cons_of_mem _ hi)

/-! ### targets -/
def gNs : List Nat → TGs
  | [] => gNil
  | i :: is => gCons (gName i) (gNs is)
def gOf (K : PySem.W.Frag) : TgT → TG
  | .name i => gName i
  | .tup is => gTup K is.length (gNs is)
def TgT.slots : TgT → List Nat
  | .name i => [i]
  | .tup is => is
theorem gNs_okP {Q : L2.St → Hp → Prop} {H : Hp} (P : Slots → L2.St → Prop) (hP : ∀ (g : Slots) (σ : L2.St) i d v, P g σ → P (g.set i (.ok d)) (σ.set i (some v))) : ∀ {is : List Nat} {ds : List D} {vs : List V} {g : Slots} {σ : L2.St}, RepL K W ds vs → ds.length = is.length → GOk K W g σ → P g σ →
    (∀ σ2, GOk K W (setAll g is ds) σ2 → P (setAll g is ds) σ2 → (∀ ws : List Nat, (∀ i ∈ is, i ∈ ws) → L2.wipe σ2 ws = L2.wipe σ ws) → Q σ2 H) → gNs is vs σ H Q
  | [], [], _, g, σ, .nil, _, h, hp, q => ⟨rfl, q σ h hp fun _ _ => rfl⟩
  | [], _ :: _, _, _, _, _, e, _, _, _ => by cases e
  | _ :: _, [], _, _, _, _, e, _, _, _ => by cases e
  | i :: is, d :: ds, _, g, σ, .cons (v := v) (vs := r) r1 r2, e, h, hp, q => by
    refine ⟨v, r, rfl, ?_⟩
    exact gNs_okP P hP (g := g.set i (.ok d)) (σ := σ.set i (some v)) r2 (by simpa using e) (h.setOk r1) (hP _ _ _ _ _ hp) fun σ2 h2 hp2 hw => q σ2 h2 hp2 fun ws hs => by
      rw [hw ws fun j hj => hs j (List.mem_cons_of_mem _ hj), wipe_in (hs i List.mem_cons_self)]
theorem gOf_okP {t : TgT} {d : D} {x : V} {g1 : Slots} {Q : L2.St → Hp → Prop} (P : Slots → L2.St → Prop) (hP : ∀ (g : Slots) (σ : L2.St) i d v, P g σ → P (g.set i (.ok d)) (σ.set i (some v))) (r : Rep K W d x) (h : GOk K W g σ) (hp : P g σ) (e : asgD t g d = some g1)
    (q : ∀ σ2, GOk K W g1 σ2 → P g1 σ2 → (∀ ws : List Nat, (∀ i ∈ t.slots, i ∈ ws) → L2.wipe σ2 ws = L2.wipe σ ws) → Q σ2 W.H) : gOf K t x σ W.H Q := by
  unfold asgD at e
  split at e
  · cases e
    exact q _ (h.setOk r) (hP _ _ _ _ _ hp) fun ws hs => wipe_in (hs _ (by simp [TgT.slots]))
  · split at e
    · split at e <;> cases e
      rename_i is ds hl
      cases r with
      | @tup a vs _ ha rr => exact ⟨a, vs, rfl, ha.sq, by rw [← rr.length]; exact hl, gNs_okP P hP rr hl h hp fun σ2 h2 hp2 hw => q σ2 h2 hp2 hw⟩
    · cases e
theorem gOf_ok {t : TgT} {d : D} {x : V} {g1 : Slots} {Q : L2.St → Hp → Prop} (r : Rep K W d x) (h : GOk K W g σ) (e : asgD t g d = some g1)
    (q : ∀ σ2, GOk K W g1 σ2 → (∀ ws : List Nat, (∀ i ∈ t.slots, i ∈ ws) → L2.wipe σ2 ws = L2.wipe σ ws) → Q σ2 W.H) : gOf K t x σ W.H Q :=
  gOf_okP (fun _ _ => True) (fun _ _ _ _ _ _ => trivial) r h trivial e fun σ2 h2 _ hw => q σ2 h2 hw

/-! ### a list that grows -/
theorem Stp.pend (s : Stp W W') {D : Addr} {o : HO} (nf : ¬ W.F D) (ni : D ∉ W.ι) (h : W.H D = some o) : ¬ W'.F D ∧ D ∉ W'.ι ∧ W'.H D = some o := by
  refine ⟨fun z => ?_, fun z => ?_, s.h D o h ni⟩
  · rcases s.g D z with z | z
    · exact nf z
    · rw [z] at h; cases h
  · obtain ⟨r', e', hr⟩ := s.p
    rw [e'] at z
    rcases List.mem_append.mp z with z | z
    · exact ni z
    · rw [hr D z] at h; cases h
theorem ne_ff {a p : Addr} (nf : ¬ W.F p) (h : W.F a) : a ≠ p := fun e => by subst e; exact nf h
mutual
theorem rep_put {p : Addr} {vs : List V} (nf : ¬ W.F p) : ∀ (d : D) (v : V), Rep K W d v → Rep K (W.lst p vs) d v
  | _, _, .non => .non
  | _, _, .bl b => .bl b
  | _, _, .int i => .int i
  | _, _, .str x hx => .str x hx
  | _, _, .tup h r => .tup (h.elim (fun z => .inl ⟨z.1, (upd_ne (ne_ff nf z.1)).trans z.2⟩) .inr) (repl_put nf _ _ r)
  | _, _, .lst h1 h2 r => .lst h1 ((upd_ne (ne_ff nf h1)).trans h2) (repl_put nf _ _ r)
  | _, _, .dct0 h1 h2 => .dct0 h1 ((upd_ne (ne_ff nf h1)).trans h2)
  | _, _, .mut h => .mut h
  | _, _, .scr h => .scr (h.elim (fun ⟨h, r⟩ => .inl ⟨h, r.imp (fun z => (upd_ne (ne_ff nf h)).trans z) fun ⟨o, z⟩ => ⟨o, (upd_ne (ne_ff nf h)).trans z⟩⟩) .inr)
theorem repl_put {p : Addr} {vs : List V} (nf : ¬ W.F p) : ∀ (ds : List D) (us : List V), RepL K W ds us → RepL K (W.lst p vs) ds us
  | _, _, .nil => .nil
  | _, _, .cons h r => .cons (rep_put nf _ _ h) (repl_put nf _ _ r)
end
theorem wok_put (ok : Wok W) {p : Addr} {vs us : List V} (h : W.H p = some (.lst us)) (hz : vs.length ≤ 16777216) : Wok (W.lst p vs) :=
  ⟨fun a z => by
    obtain ⟨o, e⟩ := ok.f a z
    by_cases e2 : a = p
    · subst e2; exact ⟨_, upd_same⟩
    · exact ⟨o, (upd_ne e2).trans e⟩, fun a z => ⟨(ok.i a z).1, by
    obtain ⟨xs, e⟩ := (ok.i a z).2
    by_cases e2 : a = p
    · subst e2; exact ⟨_, upd_same⟩
    · exact ⟨xs, (upd_ne e2).trans e⟩⟩, ok.nd, upd_len ok.z fun ws q => by
      rcases q with q | q <;> cases q
      exact hz⟩
theorem mu_put {μ : Mu} (mu : MuOk K W μ) {p : Addr} {vs : List V} (nf : ¬ W.F p) (ni : p ∉ W.ι) : MuOk K (W.lst p vs) μ :=
  ⟨mu.len, fun i l e => let ⟨a, us, h1, h2, h3⟩ := mu.at_ i l e; ⟨a, us, h1, (upd_ne (fun e => by subst e; exact ni (List.mem_of_getElem? h1))).trans h2, repl_put nf _ _ h3⟩⟩
/-- from before p was there -/
theorem stp_put (s : Stp W W') {p : Addr} {vs : List V} (n : W.H p = none) : Stp W (W'.lst p vs) :=
  ⟨s.f, fun a o h hi => (upd_ne (ne_of_none h n)).trans (s.h a o h hi), s.g, s.p⟩
end

section
variable {X : Cx}
theorem dg_name {i : Nat} {x : Str} {pos : Pos} (hN : X.N.Nodup) (hi : X.N[i]? = some x) (hx : Loc X.env.scope x) (hf : X.fn x = true ∨ X.env.scope.names.lookup x = some .local) : PG X (.Name x pos) (gOf X.K (.name i)) := pg_name hN hi hx hf
theorem dg_tup {es : List Expr} {k : Nat} {is : List Nat} {pos : Pos} (hc : X.calm = true) (h : PGs X es (gNs is)) (hn : (assignEach es X.env).length = is.length) (hst : (assignEach es X.env).findIdx? (·.1) = none) : PG X (.Tuple es k pos) (gOf X.K (.tup is)) := pg_tup hc h hn hst
def lcF (own : List (Str × Nat)) (k : IK) (t : TgT) (fsrc : Slots → Mu → RE (List DK)) (fc : Slots → Mu → RE Bool) (fe : Slots → Mu → RE DK) : Slots → Mu → RE DK := fun g μ => (fsrc g μ).bind fun xs μ1 => match iterD k (xs.map (·.1)) with
  | none => .no
  | some items => (lcGo t fc fe (wipeG g (own.map (·.2))) items [] μ1).bind fun r μ2 => .ok (.lst r, .fr) μ2
theorem lc_reads {own : List (Str × Nat)} {k : IK} {t : TgT} {fsrc : Slots → Mu → RE (List DK)} {fc : Slots → Mu → RE Bool} {fe : Slots → Mu → RE DK} (ht : ∀ i ∈ t.slots, i ∈ own.map (·.2)) {σ : L2.St} {H : Hp} {Q : L2.VK}
    (h : TEv X.K (lcF own k t fsrc fc fe) σ H Q) : tLc (TIv X.K k fsrc) (gOf X.K t) (TTv X.K fc) (TEv X.K fe) (own.map (·.2)) σ H Q := by
    obtain ⟨W, g, μ, d, kd, μ', st, e, q⟩ := h
    obtain ⟨xs, μ1, e1, e⟩ := RE.bind_ok e
    cases hit : iterD k (xs.map (·.1)) with
    | none => rw [hit] at e; cases e
    | some items =>
    rw [hit] at e
    obtain ⟨res, μ2, e2, e3⟩ := RE.bind_ok e
    cases e3
    generalize hvs : own.map (·.2) = vs at *
    refine ⟨W, g, μ, xs, items, μ1, st, e1, hit, fun W1 J A s1 ok1 mu1 hA hz hY => ?_⟩
    have gok1 := st.g.mono s1 st.ok
    have kept : ∀ W2, Stp W1 W2 → Kept X.K A W1 W2 := fun W2 s2 => ⟨fun a ha o h => by
      rcases (hA a ha).2 with z | ⟨i, x, hx, hb, ⟨l, hg1⟩, hσ⟩
      · exact s2.keepF ok1 z h
      · refine s2.h a o h fun hi => ?_
        obtain ⟨p, vs, e, _, ni, _⟩ := gok1.at_ i _ _ hg1 hσ
        cases e
        exact ni hi, fun d v => Rep.mono s2 ok1 d v⟩
    intro D n
    have nf1 := ok1.fNone n
    have ni1 := ok1.iNone n
    refine ⟨fun i m H => m = items.length - i ∧ i ≤ items.length ∧ ∃ Wc μc acc ys, Wc.H = H ∧ Stp W1 Wc ∧ Wok Wc ∧ MuOk X.K Wc μc ∧ ¬ Wc.F D ∧ D ∉ Wc.ι ∧ Wc.H D = some (.lst ys) ∧ RepL X.K Wc acc ys ∧ acc.length ≤ i ∧
      lcGo t fc fe (wipeG g vs) (items.drop i) acc μc = .ok res μ', ⟨items.length, by simp, Nat.zero_le _, W1.lst D [], μ1, [], [], rfl, (grw_lst n).stp, wok_lst ok1 n (Nat.zero_le _), mu1.grw (grw_lst n) ok1, nf1, ni1, upd_same, .nil, Nat.zero_le _, by simpa using e2⟩, ?_⟩
    rintro i m H2 ⟨rfl, hi2, Wc, μc, acc, ys, rfl, sc, okc, muc, nfc, nic, hD, rr, hacc, go⟩
    have Y := hY Wc (kept Wc sc) okc
    by_cases hlt : i < items.length
    · have hd : items[i]? = some items[i] := List.getElem?_eq_getElem hlt
      obtain ⟨hgo, hyl⟩ := Y.go i _ hd
      rw [List.drop_eq_getElem_cons hlt] at go
      unfold lcGo at go
      refine .inr ⟨hgo, fun H3 => ∃ Wc μc acc ys, Wc.H = H3 ∧ Stp W1 Wc ∧ Wok Wc ∧ MuOk X.K Wc μc ∧ ¬ Wc.F D ∧ D ∉ Wc.ι ∧ Wc.H D = some (.lst ys) ∧ RepL X.K Wc acc ys ∧ acc.length ≤ i + 1 ∧ lcGo t fc fe (wipeG g vs) (items.drop (i + 1)) acc μc = .ok res μ',
        fun H3 h3 => ⟨items.length - (i + 1), by omega, rfl, hlt, h3⟩, fun x H3 hy => ?_⟩
      obtain ⟨W2, rfl, g2, ok2, r2⟩ := hyl x H3 hy
      cases ha : asgD t (wipeG g vs) items[i] with
      | none => rw [ha] at go; cases go
      | some g1 =>
      rw [ha] at go
      obtain ⟨b, μa, ec, go⟩ := RE.bind_ok go
      have s12 := sc.trans okc g2.stp
      have gokw : GOk X.K W2 (wipeG g vs) (L2.wipe σ vs) := (gok1.mono s12 ok1).wipe vs
      refine gOf_ok r2 gokw ha fun σ2 gok2 hw => ⟨?_, ?_⟩
      · rw [hw vs ht, wipe_wipe vs vs σ fun _ h => h]
      · refine ⟨W2, g1, μc, b, μa, ⟨rfl, ok2, muc.grw g2 okc, gok2⟩, ec, fun W3 s3 ok3 mu3 => ?_⟩
        have p2 := g2.stp.pend nfc nic hD
        have p3 := s3.pend p2.1 p2.2.1 p2.2.2
        have s13 := s12.trans ok2 s3
        cases b with
        | false =>
          rw [if_neg Bool.false_ne_true] at go
          exact iteF ⟨W3, μa, acc, ys, rfl, s13, ok3, mu3, p3.1, p3.2.1, p3.2.2, RepL.mono s3 ok2 _ _ (RepL.mono g2.stp okc _ _ rr), by omega, go⟩
        | true =>
          rw [if_pos rfl] at go
          obtain ⟨y, μb, ee, go⟩ := RE.bind_ok go
          refine iteT ⟨W3, g1, μa, y.1, y.2, μb, ⟨rfl, ok3, mu3, gok2.mono s3 ok2⟩, ee, fun W4 v s4 ok4 mu4 r4 => ?_⟩
          have nb : ∀ j, y.2 ≠ .bo j := fun j z => by rw [z] at go; cases go
          have go : lcGo t fc fe (wipeG g vs) (items.drop (i + 1)) (acc ++ [y.1]) μb = .ok res μ' := by
            cases hk : y.2 with
            | bo j => exact absurd hk (nb j)
            | pl => rw [hk] at go; exact go
            | fr => rw [hk] at go; exact go
          obtain ⟨W5, pw⟩ := r4.plain s4 ok3 ok4 mu4 (gok2.mono s3 ok2) nb
          have p5 := pw.s.pend p3.1 p3.2.1 p3.2.2
          have hl5 : (ys ++ [v]).length ≤ 16777216 := by
            rw [List.length_append, ← rr.length]
            show acc.length + 1 ≤ _
            omega
          refine ⟨ys, by rw [← pw.h]; exact p5.2.2, by rw [← rr.length, ← sz_eq]; show acc.length < 16777216; omega, ?_⟩
          have r5 : RepL X.K W5 acc ys := RepL.mono pw.s ok3 _ _ (RepL.mono s3 ok2 _ _ (RepL.mono g2.stp okc _ _ rr))
          refine ⟨W5.lst D (ys ++ [v]), μb, acc ++ [y.1], ys ++ [v], ?_, stp_put (s13.trans ok3 pw.s) n, wok_put pw.ok p5.2.2 hl5, mu_put pw.mu p5.1 p5.2.1, p5.1, p5.2.1, upd_same, repl_put p5.1 _ _ (r5.append (.cons pw.r .nil)), ?_, go⟩
          · show upd W5.H D _ = _
            rw [pw.h]
          · rw [List.length_append]
            show acc.length + 1 ≤ _
            omega
    · have hi3 : i = items.length := by omega
      subst hi3
      rw [List.drop_length] at go
      unfold lcGo at go
      cases go
      refine .inl ⟨Y.stop, q Wc _ (s1.trans ok1 sc) okc muc ⟨D, ys, _, rfl, rfl, s1.free ok1 n, nfc, nic, hD, rr⟩⟩
theorem de_lc {elt tg iter : Expr} {ifs : List Expr} {scope : Scope} {own : List (Str × Nat)} {pos : Pos} {k : IK} {t : TgT} {fsrc : Slots → Mu → RE (List DK)} {fc : Slots → Mu → RE Bool} {fe : Slots → Mu → RE DK}
    (hc : X.calm = true) (hN : X.N.Nodup) (hi : DI X tg iter k fsrc) (ok : BlkOk X.N X.env.scope scope own) (ht : ∀ i ∈ t.slots, i ∈ own.map (·.2))
    (hg : ∀ (s : Shared) (H : Hp) (C : Addr) (cl : List (Str × Addr)) (fp : List Addr), PG (X.blk s H scope (compEnvC scope cl C X.env) fp) tg (gOf X.K t))
    (hts : ∀ (s : Shared) (H : Hp) (C : Addr) (cl : List (Str × Addr)) (fp : List Addr), PTs (X.blk s H scope (compEnvC scope cl C X.env) fp) ifs (TTv X.K fc))
    (he : ∀ (s : Shared) (H : Hp) (C : Addr) (cl : List (Str × Addr)) (fp : List Addr), PE (X.blk s H scope (compEnvC scope cl C X.env) fp) elt (TEv X.K fe)) (hs : ∀ x, foldedSetIterable iter X.env x = pure x) :
    DE X (.ListComp elt [⟨tg, iter, ifs, 0⟩] scope pos) (lcF own k t fsrc fc fe) := PE.imp (pe_lc hc hN hi ok hg hts he hs) fun σ H Q h => lc_reads ht h
end
end NT

set_option Elab.async false
set_option linter.all false
set_option maxRecDepth 100000
set_option maxHeartbeats 1000000
set_option autoImplicit false
/-! Calls, changeable things, statements. -/
namespace NT
open PySem PySem.Spec PyProof.Rows L2

/-! ### calls -/
def kOf (b : Bool) : Kd := if b then .fr else .pl
/-- a def's promise: it computes what its number computes -/
def spD (K : PySem.W.Frag) (C : Cs) (f n : Nat) : Sp := fun vs H Q _ => vs.length = n ∧ ∃ W ds μ d b μ', W.H = H ∧ Wok W ∧ MuOk K W μ ∧ RepL K W ds vs ∧ C f ds μ = .ok (d, b) μ' ∧
  ∀ W' v, Stp W W' → Wok W' → MuOk K W' μ' → VN K W W' d (kOf b) v → Q v W'.H

section
variable {K : PySem.W.Frag} {W W' W'' W0 : Wr} {g : Slots} {σ : L2.St}
theorem rep_flat (hi : W'.ι = W.ι) : ∀ (d : D) (v : V), d.flat = true → Rep K W d v → Rep K W' d v
  | _, _, _, .non => .non
  | _, _, _, .bl b => .bl b
  | _, _, _, .int i => .int i
  | _, _, _, .str x h => .str x h
  | _, _, _, .mut h => .mut (by rw [hi]; exact h)
  | _, _, h, .tup _ _ => by cases h
  | _, _, h, .lst _ _ _ => by cases h
  | _, _, h, .dct0 _ _ => by cases h
  | _, _, h, .scr _ => by cases h
theorem repl_flat (hi : W'.ι = W.ι) : ∀ (ds : List D) (vs : List V), ds.all D.flat = true → RepL K W ds vs → RepL K W' ds vs
  | _, _, _, .nil => .nil
  | _, _, h, .cons r1 r2 => by
    rw [List.all_cons, Bool.and_eq_true] at h
    exact .cons (rep_flat hi _ _ h.1 r1) (repl_flat hi _ _ h.2 r2)
/-- borrowed lists among the arguments -/
def bos (σ : L2.St) : List DK → Addr → Prop := fun xs a => ∃ x ∈ xs, ∃ i, x.2 = .bo i ∧ σ[i]? = some (some (.ref a))
theorem repl_of (hr : ∀ d v, Rep K W d v → Rep K W' d v) : ∀ {ds : List D} {vs : List V}, RepL K W ds vs → RepL K W' ds vs
  | _, _, .nil => .nil
  | _, _, .cons h r => .cons (hr _ _ h) (repl_of hr r)
theorem VAs.lend (gok : GOk K W g σ) (W2 : Wr) (hH : W2.H = W.H) (hi : W2.ι = W.ι) (hF : ∀ a, W.F a → W2.F a) (hr : ∀ d v, Rep K W d v → Rep K W2 d v) :
    ∀ {xs : List DK} {vs : List V}, (∀ a, bos σ xs a → W2.F a) → VAs K W g σ xs vs → RepL K W2 (xs.map (·.1)) vs
  | [], _, _, h => by cases h; exact .nil
  | x :: xs, _, hb, ⟨v, r, e, h1, h2⟩ => by
    subst e
    refine .cons ?_ (VAs.lend gok W2 hH hi hF hr (fun a ⟨y, hy, i, h⟩ => hb a ⟨y, List.mem_cons_of_mem _ hy, i, h⟩) h2)
    unfold VA at h1
    split at h1
    · rename_i i hk
      obtain ⟨l, e1, hg, hσ⟩ := h1
      obtain ⟨p, vs, e2, nf, ni, hp, rr⟩ := gok.at_ _ _ _ hg hσ
      cases e2
      show Rep K W2 x.1 _
      rw [e1]
      refine .lst (hb p ⟨x, List.mem_cons_self, i, hk, hσ⟩) (by rw [hH]; exact hp) ?_
      exact repl_of hr rr
    · exact hr _ _ h1
mutual
theorem rep_more (hf : ∀ a, W.F a → W'.F a) (hh : W'.H = W.H) (hi : W'.ι = W.ι) : ∀ (d : D) (v : V), Rep K W d v → Rep K W' d v
  | _, _, .non => .non
  | _, _, .bl b => .bl b
  | _, _, .int i => .int i
  | _, _, .str x h => .str x h
  | _, _, .tup h r => .tup (h.elim (fun z => .inl ⟨hf _ z.1, by rw [hh]; exact z.2⟩) .inr) (repl_more hf hh hi _ _ r)
  | _, _, .lst h1 h2 r => .lst (hf _ h1) (by rw [hh]; exact h2) (repl_more hf hh hi _ _ r)
  | _, _, .dct0 h1 h2 => .dct0 (hf _ h1) (by rw [hh]; exact h2)
  | _, _, .mut h => .mut (by rw [hi]; exact h)
  | _, _, .scr h => .scr (h.elim (fun z => .inl ⟨hf _ z.1, by rw [hh]; exact z.2⟩) .inr)
theorem repl_more (hf : ∀ a, W.F a → W'.F a) (hh : W'.H = W.H) (hi : W'.ι = W.ι) : ∀ (ds : List D) (vs : List V), RepL K W ds vs → RepL K W' ds vs
  | _, _, .nil => .nil
  | _, _, .cons h r => .cons (rep_more hf hh hi _ _ h) (repl_more hf hh hi _ _ r)
end
theorem GOk.bos (gok : GOk K W g σ) {xs : List DK} {vs : List V} (h : VAs K W g σ xs vs) {a : Addr} (hb : NT.bos σ xs a) : ¬ W.F a ∧ a ∉ W.ι ∧ ∃ us, W.H a = some (.lst us) := by
  induction xs generalizing vs with
  | nil => obtain ⟨x, hx, _⟩ := hb; cases hx
  | cons x xs ih =>
    obtain ⟨v, r, e, h1, h2⟩ := h
    obtain ⟨y, hy, i, hk, hσ⟩ := hb
    rcases List.mem_cons.mp hy with rfl | hy
    · unfold VA at h1
      rw [hk] at h1
      obtain ⟨l, _, hg, _⟩ := h1
      obtain ⟨p, vs, e2, nf, ni, hp, _⟩ := gok.at_ _ _ _ hg hσ
      cases e2
      exact ⟨nf, ni, _, hp⟩
    · exact ih h2 ⟨y, hy, i, hk, hσ⟩
end

section
variable {X : Cx} {e a b : Expr} {es : List Expr} {fe fa fb : Slots → Mu → RE DK} {fs : Slots → Mu → RE (List DK)} {pos p : Pos} {x : Str}
def callF (C : Cs) (f : Nat) (fs : Slots → Mu → RE (List DK)) : Slots → Mu → RE DK := fun g μ => (fs g μ).bind fun xs μ1 => (C f (xs.map (·.1)) μ1).bind fun r μ2 =>
  if noBo xs then .ok (r.1, if r.2 then .fr else .pl) μ2 else if r.1.flat && !r.2 && μ2.all (·.all D.flat) then .ok (r.1, .pl) μ2 else .no
theorem de_callT {C : Cs} {f n : Nat} {E : XK} (hlen : ∀ ds μ r μ', C f ds μ = .ok r μ' → ds.length = n) {σ : L2.St} {H : Hp} {Q : L2.VK} (h : TEv X.K (callF C f fs) σ H Q) : tCall (spD X.K C f n) [] E (TAv X.K fs) σ H Q := by
  obtain ⟨W, g, μ, d, k, μ', s, e, q⟩ := h
  obtain ⟨xs, μ1, e1, e⟩ := RE.bind_ok e
  obtain ⟨r, μ2, e2, e⟩ := RE.bind_ok e
  refine ⟨W, g, μ, xs, μ1, s, e1, fun W1 vs s1 ok1 mu1 r1 => ?_⟩
  have gok1 := s.g.mono s1 s.ok
  show spD X.K C f n (vs ++ []) W1.H Q E
  rw [List.append_nil]
  by_cases hb : noBo xs = true
  · rw [if_pos hb] at e
    cases e
    have rr := VAs.rep hb r1
    refine ⟨by rw [← rr.length]; exact hlen _ _ _ _ e2, W1, _, μ1, r.1, r.2, _, rfl, ok1, mu1, rr, e2, fun W2 v s2 ok2 mu2 r2 => ?_⟩
    exact q W2 v (s1.trans ok1 s2) ok2 mu2 (r2.vr s1 ok1)
  · rw [if_neg hb] at e
    split at e <;> cases e
    rename_i hc
    simp only [Bool.and_eq_true, Bool.not_eq_true'] at hc
    obtain ⟨⟨hf, hr⟩, hm⟩ := hc
    have gb : ∀ a, bos σ xs a → ¬ W1.F a ∧ a ∉ W1.ι ∧ ∃ us, W1.H a = some (.lst us) := fun a ha => gok1.bos r1 ha
    generalize hW2 : ({ W1 with F := fun a => W1.F a ∨ bos σ xs a } : Wr) = W2
    have hH : W2.H = W1.H := by rw [← hW2]
    have hi : W2.ι = W1.ι := by rw [← hW2]
    have hF : ∀ a, W1.F a → W2.F a := fun a h => by rw [← hW2]; exact .inl h
    have hF2 : ∀ a, W2.F a → W1.F a ∨ bos σ xs a := fun a h => by rw [← hW2] at h; exact h
    have ok2 : Wok W2 := ⟨fun a h => by
      rw [hH]
      rcases hF2 a h with z | z
      · exact ok1.f a z
      · obtain ⟨_, _, us, h3⟩ := gb a z; exact ⟨_, h3⟩, fun a h => by
      rw [hi] at h
      rw [hH]
      refine ⟨fun z => ?_, (ok1.i a h).2⟩
      rcases hF2 a z with z | z
      · exact (ok1.i a h).1 z
      · exact (gb a z).2.1 h, by rw [hi]; exact ok1.nd, by rw [hH]; exact ok1.z⟩
    have more := fun d v => rep_more (K := X.K) hF hH hi d v
    have rr : RepL X.K W2 (xs.map (·.1)) vs := VAs.lend gok1 W2 hH hi hF more (fun a ha => by rw [← hW2]; exact .inr ha) r1
    have mu2 : MuOk X.K W2 μ1 := ⟨by rw [hi]; exact mu1.len, fun i l e => let ⟨a, us, h1, h2, h3⟩ := mu1.at_ i l e; ⟨a, us, by rw [hi]; exact h1, by rw [hH]; exact h2, repl_more hF hH hi _ _ h3⟩⟩
    rw [← hH]
    refine ⟨by rw [← rr.length]; exact hlen _ _ _ _ e2, W2, _, μ1, r.1, r.2, _, rfl, ok2, mu2, rr, e2, fun W3 v s3 ok3 mu3 r3 => ?_⟩
    rw [hr] at r3
    have r3 : Rep X.K W3 r.1 v := r3
    -- the lent lists are given back
    generalize hW4 : ({ W3 with F := W1.F } : Wr) = W4
    have hH4 : W4.H = W3.H := by rw [← hW4]
    have hi4 : W4.ι = W3.ι := by rw [← hW4]
    have hF4 : W4.F = W1.F := by rw [← hW4]
    rw [← hH4]
    refine q W4 v (s1.trans ok1 ?_) ?_ ?_ (rep_flat hi4 _ _ hf r3)
    · refine ⟨fun a h => by rw [hF4]; exact h, fun a o h hn => by rw [hH4]; exact s3.h a o (by rw [hH]; exact h) (by rw [hi]; exact hn), fun a h => by rw [hF4] at h; exact .inl h, ?_⟩
      obtain ⟨rr, e1, e2⟩ := s3.p
      exact ⟨rr, by rw [hi4, e1, hi], fun a ha => by rw [← hH]; exact e2 a ha⟩
    · refine ⟨fun a h => ?_, fun a h => ?_, by rw [hi4]; exact ok3.nd, by rw [hH4]; exact ok3.z⟩
      · rw [hF4] at h
        rw [hH4]
        exact ok3.f a (s3.f a (hF a h))
      · rw [hi4] at h
        rw [hF4, hH4]
        exact ⟨fun z => (ok3.i a h).1 (s3.f a (hF a z)), (ok3.i a h).2⟩
    · refine ⟨by rw [hi4]; exact mu3.len, fun i l e => ?_⟩
      obtain ⟨a, us, h1, h2, h3⟩ := mu3.at_ i l e
      refine ⟨a, us, by rw [hi4]; exact h1, by rw [hH4]; exact h2, repl_flat hi4 _ _ ?_ h3⟩
      exact List.all_eq_true.mp hm l (List.mem_of_getElem? e)
theorem de_call {C : Cs} {f n k : Nat} {fA : Addr} {fd : FuncData} {ps : List Str} (F : FnOk X.prog X.w X.K X.mg X.base CX0 k fA fd ps (spD X.K C f n)) (hr : Room k X.A) (hg : Gl X x) (hm : X.mg x = some (.ref fA)) (hk : PySem.W.keepIn X.K (.ref fA) = true) (hb : Binds X.K fd ps [])
    (hlen : ∀ ds μ r μ', C f ds μ = .ok r μ' → ds.length = n) (ha : DA X (e :: es) fs) (hdb : (x == ("__debug__" : Str)) = false)
    (he : starEach (e :: es) X.env = (false, eval e X.env) :: starEach es X.env) (hpl : (backTo pos (starEach es X.env)).any (·.1) = false) : DE X (.Call (.Name x p) (e :: es) [] pos) (callF C f fs) :=
  PE.imp (pe_call F hr hg hm hk hb .nil pass0 ha hdb he hpl) fun _ _ _ h => de_callT hlen h
/-! built-in functions, types -/
theorem de_biB {f : BI} {id : String} (hc : CallR X (.builtin id) (rBi X.K (biD f))) (hg : Gl X x) (hm : X.mg x = none) (hv : bootBuiltins x = some (.builtin id)) (ha : DA X (e :: es) fs) (hn : x ≠ "__name__") (hdb : (x == ("__debug__" : Str)) = false)
    (he : starEach (e :: es) X.env = (false, eval e X.env) :: starEach es X.env) (hpl : (backTo pos (starEach es X.env)).any (·.1) = false) :
    DE X (.Call (.Name x p) (e :: es) [] pos) fun g μ => (fs g μ).bind fun xs μ1 => .of (biD f (xs.map (·.1))) μ1 :=
  PE.imp (pe_callB hc hg hm hv ha hn hdb he hpl) fun _ _ _ h => tav_bi h
theorem de_biT {f : BI} {T : String} (hc : CallR X (.type T) (rBi X.K (biD f))) (hg : Gl X x) (hm : X.mg x = none) (hv : bootBuiltins x = some (.type T)) (ha : DA X (e :: es) fs) (hn : x ≠ "__name__") (hdb : (x == ("__debug__" : Str)) = false)
    (he : starEach (e :: es) X.env = (false, eval e X.env) :: starEach es X.env) (hpl : (backTo pos (starEach es X.env)).any (·.1) = false) :
    DE X (.Call (.Name x p) (e :: es) [] pos) fun g μ => (fs g μ).bind fun xs μ1 => .of (biD f (xs.map (·.1))) μ1 :=
  PE.imp (pe_callTy hc hg hm hv ha hn hdb he hpl) fun _ _ _ h => tav_bi h
end
end NT

set_option Elab.async false
set_option linter.all false
set_option maxRecDepth 100000
set_option maxHeartbeats 1000000
set_option autoImplicit false
/-! Statements. -/
namespace NT
open PySem PySem.Spec PyProof.Rows L2

/-- lists of one's own are younger than the entry -/
def Own (W0 : Wr) (g : Slots) (σ : L2.St) : Prop := ∀ (i : Nat) (l : List D) (p : Addr), g[i]? = some (.own l) → σ[i]? = some (some (.ref p)) → W0.H p = none
/-- what was frozen stays -/
structure Kp (W W' : Wr) : Prop where
  f : ∀ a, W.F a → W'.F a
  h : ∀ a o, W.F a → W.H a = some o → W'.H a = some o
  p : ∃ r, W'.ι = W.ι ++ r
theorem Kp.refl {W : Wr} : Kp W W := ⟨fun _ h => h, fun _ _ _ h => h, [], by simp⟩
theorem Kp.trans {W W' W'' : Wr} (a : Kp W W') (b : Kp W' W'') : Kp W W'' := ⟨fun x h => b.f x (a.f x h), fun x o hf h => b.h x o (a.f x hf) (a.h x o hf h), by
  obtain ⟨r, e⟩ := a.p
  obtain ⟨r', e'⟩ := b.p
  exact ⟨r ++ r', by rw [e', e, List.append_assoc]⟩⟩
theorem Stp.kp {W W' : Wr} (s : Stp W W') (ok : Wok W) : Kp W W' := ⟨s.f, fun a o hf h => s.keepF ok hf h, let ⟨r, e, _⟩ := s.p; ⟨r, e⟩⟩
theorem kp_put {W : Wr} {p : Addr} {vs : List V} (nf : ¬ W.F p) : Kp W (W.lst p vs) := ⟨fun _ h => h, fun a o hf h => (upd_ne (ne_ff nf hf)).trans h, [], by simp [Wr.lst]⟩
theorem kp_more {W W' : Wr} (hf : ∀ a, W.F a → W'.F a) (hh : W'.H = W.H) (hi : W'.ι = W.ι) : Kp W W' := ⟨hf, fun a o _ h => by rw [hh]; exact h, [], by rw [hi]; simp⟩
mutual
theorem Rep.kp {K : PySem.W.Frag} {W W' : Wr} (k : Kp W W') : ∀ (d : D) (v : V), Rep K W d v → Rep K W' d v
  | _, _, .non => .non
  | _, _, .bl b => .bl b
  | _, _, .int i => .int i
  | _, _, .str x h => .str x h
  | _, _, .tup h r => .tup (h.elim (fun z => .inl ⟨k.f _ z.1, k.h _ _ z.1 z.2⟩) .inr) (RepL.kp k _ _ r)
  | _, _, .lst h1 h2 r => .lst (k.f _ h1) (k.h _ _ h1 h2) (RepL.kp k _ _ r)
  | _, _, .dct0 h1 h2 => .dct0 (k.f _ h1) (k.h _ _ h1 h2)
  | _, _, .mut h => .mut (by
    obtain ⟨r, e⟩ := k.p
    rw [e, List.getElem?_append_left (List.getElem?_eq_some_iff.mp h).1]
    exact h)
  | _, _, .scr h => .scr (h.elim (fun ⟨h, r⟩ => .inl ⟨k.f _ h, r.imp (fun z => k.h _ _ h z) fun ⟨o, z⟩ => ⟨o, k.h _ _ h z⟩⟩) .inr)
theorem RepL.kp {K : PySem.W.Frag} {W W' : Wr} (k : Kp W W') : ∀ (ds : List D) (vs : List V), RepL K W ds vs → RepL K W' ds vs
  | _, _, .nil => .nil
  | _, _, .cons h r => .cons (Rep.kp k _ _ h) (RepL.kp k _ _ r)
end
/-- what is wanted behind a statement that ends so -/
def Aft (K : PySem.W.Frag) (W0 W : Wr) (D : Ends) (μ' : Mu) : Fl → Prop
  | .nx g' => ∀ W' σ', Kp W W' → Stp W0 W' → Sta K W' g' μ' σ' W'.H → Own W0 g' σ' → D.nx σ' W'.H
  | .bk g' => ∀ W' σ', Kp W W' → Stp W0 W' → Sta K W' g' μ' σ' W'.H → Own W0 g' σ' → D.bk σ' W'.H
  | .ct g' => ∀ W' σ', Kp W W' → Stp W0 W' → Sta K W' g' μ' σ' W'.H → Own W0 g' σ' → D.ct σ' W'.H
  | .rt d b => ∀ W' v, Stp W0 W' → Wok W' → MuOk K W' μ' → VN K W0 W' d (kOf b) v → D.rt v W'.H
def tEx (K : PySem.W.Frag) (f : Slots → Mu → RE Fl) : TS := fun D σ H => ∃ W0 W g μ fl μ', Sta K W g μ σ H ∧ Stp W0 W ∧ Own W0 g σ ∧ f g μ = .ok fl μ' ∧ Aft K W0 W D μ' fl
abbrev DS (X : Cx) (st : Stmt) (f : Slots → Mu → RE Fl) : Prop := PS X st (tEx X.K f)
abbrev DSs (X : Cx) (st : List Stmt) (f : Slots → Mu → RE Fl) : Prop := PSs X st (tEx X.K f)
theorem Aft.kp {K : PySem.W.Frag} {W0 W W2 : Wr} {D : Ends} {μ' : Mu} {fl : Fl} (h : Aft K W0 W D μ' fl) (k : Kp W W2) : Aft K W0 W2 D μ' fl := by
  cases fl with
  | nx g' => exact fun W' σ' kp => h W' σ' (k.trans kp)
  | bk g' => exact fun W' σ' kp => h W' σ' (k.trans kp)
  | ct g' => exact fun W' σ' kp => h W' σ' (k.trans kp)
  | rt d b => exact h
theorem PS.imp {X : Cx} {st : Stmt} {t t' : TS} (h : PS X st t) (i : ∀ D σ H, t' D σ H → t D σ H) : PS X st t' := ⟨fun pins s σ H D I q => h.run pins s σ H D I (i _ _ _ q)⟩
theorem PSs.imp {X : Cx} {st : List Stmt} {t t' : TS} (h : PSs X st t) (i : ∀ D σ H, t' D σ H → t D σ H) : PSs X st t' := ⟨fun pins s σ H D I q => h.run pins s σ H D I (i _ _ _ q)⟩

section
variable {X : Cx} {st : Stmt} {rest : List Stmt} {e : Expr} {f f2 : Slots → Mu → RE Fl} {fe : Slots → Mu → RE DK} {fs : Slots → Mu → RE (List DK)} {pos p : Pos}
def seqF (f f2 : Slots → Mu → RE Fl) : Slots → Mu → RE Fl := fun g μ => (f g μ).bind fun fl μ1 => match fl with | .nx g' => f2 g' μ1 | fl => .ok fl μ1
theorem ds_nil : DSs X [] fun g μ => .ok (.nx g) μ := PSs.imp pss_nil fun D σ H ⟨W0, W, g, μ, fl, μ', s, st, ow, e, q⟩ => by
  cases e
  show D.nx σ H
  rw [← s.h]
  exact q W σ .refl st ⟨rfl, s.ok, s.mu, s.g⟩ ow
theorem ds_cons (h1 : DS X st f) (h2 : DSs X rest f2) : DSs X (st :: rest) (seqF f f2) :=
  PSs.imp (pss_cons h1 h2) fun D σ H ⟨W0, W, g, μ, fl, μ', s, st, ow, e, q⟩ => by
    obtain ⟨fl1, μ1, e1, e⟩ := RE.bind_ok e
    refine ⟨W0, W, g, μ, fl1, μ1, s, st, ow, e1, ?_⟩
    cases fl1 with
    | nx g' => exact fun W' σ' kp st' s' ow' => ⟨W0, W', g', μ1, fl, μ', s', st', ow', e, q.kp kp⟩
    | bk g' => cases e; exact q
    | ct g' => cases e; exact q
    | rt d b => cases e; exact q
theorem ds_pass : DS X (.Pass pos) fun g μ => .ok (.nx g) μ := PS.imp ps_pass fun D σ H ⟨W0, W, g, μ, fl, μ', s, st, ow, e, q⟩ => by
  cases e
  show D.nx σ H
  rw [← s.h]
  exact q W σ .refl st ⟨rfl, s.ok, s.mu, s.g⟩ ow
theorem ds_never : DS X st fun _ _ => .no := PS.imp ps_never fun D σ H ⟨W0, W, g, μ, fl, μ', s, st, ow, e, q⟩ => by cases e
theorem Own.stp {W0 W : Wr} {g : Slots} {σ : L2.St} (h : Own W0 g σ) : Own W0 g σ := h
theorem ds_expr (he : DE X e fe) (hs : swapsWith e none pos.line X.env = pure false) : DS X (.Expr e pos) fun g μ => (fe g μ).bind fun _ μ1 => .ok (.nx g) μ1 :=
  PS.imp (ps_expr he hs) fun D σ H ⟨W0, W, g, μ, fl, μ', s, st, ow, e, q⟩ => by
    obtain ⟨x, μ1, e1, e⟩ := RE.bind_ok e
    cases e
    exact ⟨W, g, μ, x.1, x.2, _, s, e1, fun W1 v s1 ok1 mu1 r1 => q W1 σ (s1.kp s.ok) (st.trans s.ok s1) ⟨rfl, ok1, mu1, s.g.mono s1 s.ok⟩ ow⟩
theorem VR.ret {K : PySem.W.Frag} {W0 W W' : Wr} {g : Slots} {σ : L2.St} {d : D} {k : Kd} {v : V} (st : Stp W0 W) (ok : Wok W) (gok' : GOk K W' g σ) (ow : Own W0 g σ) (h : VR K W W' g σ d k v) : VN K W0 W' d (kOf (decide (k ≠ .pl))) v := by
  cases k with
  | pl => exact h
  | fr =>
    obtain ⟨p, vs, l, e, ev, n, r⟩ := h
    exact ⟨p, vs, l, e, ev, st.free ok n, r⟩
  | bo i =>
    obtain ⟨l, e, h1, h2⟩ := h
    obtain ⟨p, vs, e2, nf, ni, hp, rr⟩ := gok'.at_ i _ _ h1 h2
    cases e2
    exact ⟨p, vs, l, e, rfl, ow i l p h1 h2, nf, ni, hp, rr⟩
theorem ds_ret (he : DE X e fe) : DS X (.Return (some e) pos) fun g μ => (fe g μ).bind fun x μ1 => .ok (.rt x.1 (decide (x.2 ≠ .pl))) μ1 :=
  PS.imp (ps_ret he) fun D σ H ⟨W0, W, g, μ, fl, μ', s, st, ow, e, q⟩ => by
    obtain ⟨x, μ1, e1, e⟩ := RE.bind_ok e
    cases e
    exact ⟨W, g, μ, x.1, x.2, _, s, e1, fun W1 v s1 ok1 mu1 r1 => q W1 v (st.trans s.ok s1) ok1 mu1 (r1.ret st s.ok (s.g.mono s1 s.ok) ow)⟩
theorem ds_retN : DS X (.Return none pos) fun _ μ => .ok (.rt .non false) μ := PS.imp ps_retN fun D σ H ⟨W0, W, g, μ, fl, μ', s, st, ow, e, q⟩ => by
  cases e
  show D.rt .non H
  rw [← s.h]
  exact q W .non st s.ok s.mu .non
def ifF (fe : Slots → Mu → RE DK) (f f2 : Slots → Mu → RE Fl) : Slots → Mu → RE Fl := fun g μ => (fe g μ).bind fun x μ1 => match truD x.1 with | some true => f g μ1 | some false => f2 g μ1 | none => .no
theorem ds_if {a b : List Stmt} (hc : DT X e (tstV fe)) (ha : DSs X a f) (hb : DSs X b f2) : DS X (.If e a b pos) (ifF fe f f2) :=
  PS.imp (ps_if hc ha hb) fun D σ H ⟨W0, W, g, μ, fl, μ', s, st, ow, e, q⟩ => by
    obtain ⟨x, μ1, e1, e⟩ := RE.bind_ok e
    have next : ∀ W1, Stp W W1 → Wok W1 → MuOk X.K W1 μ1 → ∀ f : Slots → Mu → RE Fl, f g μ1 = .ok fl μ' → tEx X.K f D σ W1.H := fun W1 s1 ok1 mu1 f ef =>
      ⟨W0, W1, g, μ1, fl, μ', s.step s1 ok1 mu1, st.trans s.ok s1, ow, ef, q.kp (s1.kp s.ok)⟩
    split at e
    · rename_i hx
      exact ⟨W, g, μ, true, μ1, s, by unfold tstV; rw [e1]; show RE.of (truD x.1) _ = _; rw [hx]; rfl, fun W1 s1 ok1 mu1 => iteT (next W1 s1 ok1 mu1 _ e)⟩
    · rename_i hx
      exact ⟨W, g, μ, false, μ1, s, by unfold tstV; rw [e1]; show RE.of (truD x.1) _ = _; rw [hx]; rfl, fun W1 s1 ok1 mu1 => iteF (next W1 s1 ok1 mu1 _ e)⟩
    · cases e
end

section
variable {K : PySem.W.Frag} {W W' W'' W0 : Wr} {g : Slots} {σ : L2.St}
theorem set_some {α : Type} {l : List α} {i j : Nat} {x y : α} (h : (l.set i x)[j]? = some y) : (i = j ∧ j < l.length ∧ y = x) ∨ (i ≠ j ∧ l[j]? = some y) := by
  by_cases hj : i = j
  · subst hj
    by_cases hi : i < l.length
    · rw [List.getElem?_set_self hi] at h
      exact .inl ⟨rfl, hi, (Option.some.inj h).symm⟩
    · rw [List.getElem?_eq_none (by simpa using Nat.le_of_not_lt hi)] at h; cases h
  · rw [List.getElem?_set_ne hj] at h
    exact .inr ⟨hj, h⟩
/-- a list of one's own put into a slot -/
theorem GOk.setOwn {i : Nat} {l : List D} {p : Addr} {vs : List V} (h : GOk K W g σ) (nf : ¬ W.F p) (ni : p ∉ W.ι) (hp : W.H p = some (.lst vs)) (r : RepL K W l vs)
    (hn : ∀ (j : Nat) (l' : List D), i ≠ j → g[j]? = some (.own l') → σ[j]? ≠ some (some (.ref p))) : GOk K W (g.set i (.own l)) (σ.set i (some (.ref p))) := by
  refine ⟨by simp [h.len], fun j s o e1 e2 => ?_, fun j k l1 l2 q e1 e2 e3 e4 => ?_⟩
  · rcases set_some e1 with ⟨rfl, hj, rfl⟩ | ⟨hj, e1⟩
    · rcases set_some e2 with ⟨_, _, rfl⟩ | ⟨hj2, _⟩
      · exact ⟨p, vs, rfl, nf, ni, hp, r⟩
      · exact absurd rfl hj2
    · rw [List.getElem?_set_ne hj] at e2
      exact h.at_ j s o e1 e2
  · rcases set_some e1 with ⟨rfl, _, _⟩ | ⟨hj, e1⟩
    · rcases set_some e2 with ⟨rfl, _, _⟩ | ⟨hk, e2⟩
      · rfl
      · rcases set_some e3 with ⟨_, _, e3⟩ | ⟨hj3, _⟩
        · cases e3
          rw [List.getElem?_set_ne hk] at e4
          exact absurd e4 (hn k l2 hk e2)
        · exact absurd rfl hj3
    · rw [List.getElem?_set_ne hj] at e3
      rcases set_some e2 with ⟨rfl, _, _⟩ | ⟨hk, e2⟩
      · rcases set_some e4 with ⟨_, _, e4⟩ | ⟨hj4, _⟩
        · cases e4
          exact absurd e3 (hn j l1 hj e1)
        · exact absurd rfl hj4
      · rw [List.getElem?_set_ne hk] at e4
        exact h.apart j k l1 l2 q e1 e2 e3 e4
theorem Own.setOk {i : Nat} {d : D} {o : Option V} (h : Own W0 g σ) : Own W0 (g.set i (.ok d)) (σ.set i o) := fun j l p e1 e2 => by
  rcases set_some e1 with ⟨_, _, e⟩ | ⟨hj, e1⟩
  · cases e
  · rw [List.getElem?_set_ne hj] at e2
    exact h j l p e1 e2
theorem Own.setOwn {i : Nat} {l : List D} {p : Addr} (h : Own W0 g σ) (n : W0.H p = none) : Own W0 (g.set i (.own l)) (σ.set i (some (.ref p))) := fun j l' q e1 e2 => by
  rcases set_some e1 with ⟨rfl, _, _⟩ | ⟨hj, e1⟩
  · rcases set_some e2 with ⟨_, _, e⟩ | ⟨hj2, _⟩
    · cases e; exact n
    · exact absurd rfl hj2
  · rw [List.getElem?_set_ne hj] at e2
    exact h j l' q e1 e2
/-- no list of one's own stands at an address that was free -/
theorem GOk.nown (h : GOk K W g σ) {p : Addr} (n : W.H p = none) : ∀ (j : Nat) (l' : List D), g[j]? = some (.own l') → σ[j]? ≠ some (some (.ref p)) := fun j l' e1 e2 => by
  obtain ⟨q, vs, e, _, _, hq, _⟩ := h.at_ j _ _ e1 e2
  cases e
  rw [n] at hq; cases hq
/-- a value stored into a slot -/
theorem store_slot {i : Nat} {d : D} {k : Kd} {v : V} (gok : GOk K W g σ) (s1 : Stp W W') (ok : Wok W) (st : Stp W0 W) (ow : Own W0 g σ) (hb : isBo k = false) (r : VR K W W' g σ d k v) :
    GOk K W' (g.set i (slOf (d, k))) (σ.set i (some v)) ∧ Own W0 (g.set i (slOf (d, k))) (σ.set i (some v)) := by
  have gok' := gok.mono s1 ok
  cases k with
  | pl =>
    have e : slOf (d, .pl) = .ok d := by unfold slOf; split <;> rename_i h <;> cases h; rfl
    rw [e]
    exact ⟨gok'.setOk r, ow.setOk⟩
  | fr =>
    obtain ⟨p, vs, l, rfl, rfl, n, nf, ni, hp, rr⟩ := r
    exact ⟨gok'.setOwn nf ni hp rr fun j l' _ e1 => gok.nown n j l' e1, ow.setOwn (st.free ok n)⟩
  | bo i => cases hb
end

section
variable {X : Cx} {st : Stmt} {rest : List Stmt} {e tg : Expr} {f f2 : Slots → Mu → RE Fl} {fe fo fi fv : Slots → Mu → RE DK} {fs : Slots → Mu → RE (List DK)} {pos p : Pos} {x : Str}
def asgF (i : Nat) (fe : Slots → Mu → RE DK) : Slots → Mu → RE Fl := fun g μ => (fe g μ).bind fun x μ1 => if isBo x.2 then .no else .ok (.nx (g.set i (slOf x))) μ1
theorem asg_reads {i : Nat} {D : Ends} {σ : L2.St} {H : Hp} (h : tEx X.K (asgF i fe) D σ H) : tAsg (TEv X.K fe) (gName i) D σ H := by
  obtain ⟨W0, W, g, μ, fl, μ', s, st, ow, e, q⟩ := h
  obtain ⟨x, μ1, e1, e⟩ := RE.bind_ok e
  split at e <;> cases e
  rename_i hb
  refine ⟨W, g, μ, x.1, x.2, _, s, e1, fun W1 v s1 ok1 mu1 r1 => ?_⟩
  obtain ⟨h1, h2⟩ := store_slot (i := i) s.g s1 s.ok st ow (by simpa using hb) r1
  exact q W1 _ (s1.kp s.ok) (st.trans s.ok s1) ⟨rfl, ok1, mu1, h1⟩ h2
theorem ds_set {i : Nat} {pos' : Pos} (hN : X.N.Nodup) (hi : X.N[i]? = some x) (hx : Loc X.env.scope x) (he : DE X e fe) (hs : swapsWith e (some (.Name x pos')) pos.line X.env = pure false) (hf : X.fn x = true ∨ X.env.scope.names.lookup x = some .local) :
    DS X (.Assign [.Name x pos'] e pos) (asgF i fe) := PS.imp (ps_set hN hi hx he hs hf) fun _ _ _ h => asg_reads h
/-- targets of a tuple -/
theorem ds_asgT {t : TgT} (he : DE X e fe) (hg : PG X tg (gOf X.K t)) (hs : swapsWithSole [tg] e pos.line X.env = pure false) (hw : swappedStores [tg] e X.env = pure none)
    (h1 : (assignEach [tg] X.env).map (·.2) = [assign tg X.env]) : DS X (.Assign [tg] e pos) fun g μ => (fe g μ).bind fun x μ1 => match x.2 with
      | .pl => match asgD t g x.1 with | some g' => .ok (.nx g') μ1 | none => .no
      | _ => .no := PS.imp (ps_asg he hg hs hw h1) fun D σ H ⟨W0, W, g, μ, fl, μ', s, st, ow, e, q⟩ => by
  obtain ⟨x, μ1, e1, e⟩ := RE.bind_ok e
  refine ⟨W, g, μ, x.1, x.2, μ1, s, e1, fun W1 v s1 ok1 mu1 r1 => ?_⟩
  split at e
  · rename_i hk
    rw [hk] at r1
    split at e <;> cases e
    rename_i g' ha
    exact gOf_okP (fun g σ => Own W0 g σ) (fun _ _ _ _ _ h => h.setOk) r1 (s.g.mono s1 s.ok) ow ha fun σ2 h2 ow2 _ => q W1 σ2 (s1.kp s.ok) (st.trans s.ok s1) ⟨rfl, ok1, mu1, h2⟩ ow2
  · cases e
theorem ds_setLc {elt tg' iter : Expr} {ifs : List Expr} {scope : Scope} {own : List (Str × Nat)} {i : Nat} {py : Pos} {spos : Pos} {k : IK} {t : TgT} {fsrc : Slots → Mu → RE (List DK)} {fc : Slots → Mu → RE Bool} {fel : Slots → Mu → RE DK}
    (hc : X.calm = true) (hN : X.N.Nodup) (hy : X.N[i]? = some x) (hyl : X.env.scope.names.lookup x = some .local) (hsw : swapsWith (.ListComp elt [⟨tg', iter, ifs, 0⟩] scope pos) (some (.Name x py)) spos.line X.env = pure true)
    (hi : DI X tg' iter k fsrc) (ok : BlkOk X.N X.env.scope scope own) (ht : ∀ i ∈ t.slots, i ∈ own.map (·.2))
    (hg : ∀ (s : Shared) (H : Hp) (C : Addr) (cl : List (Str × Addr)) (fp : List Addr), PG (X.blk s H scope (compEnvC scope cl C X.env) fp) tg' (gOf X.K t))
    (hts : ∀ (s : Shared) (H : Hp) (C : Addr) (cl : List (Str × Addr)) (fp : List Addr), PTs (X.blk s H scope (compEnvC scope cl C X.env) fp) ifs (TTv X.K fc))
    (he : ∀ (s : Shared) (H : Hp) (C : Addr) (cl : List (Str × Addr)) (fp : List Addr), PE (X.blk s H scope (compEnvC scope cl C X.env) fp) elt (TEv X.K fel)) (hs : ∀ x, foldedSetIterable iter X.env x = pure x) :
    DS X (.Assign [.Name x py] (.ListComp elt [⟨tg', iter, ifs, 0⟩] scope pos) spos) (asgF i (lcF own k t fsrc fc fel)) :=
  PS.imp (ps_setLc hc hN hy hyl hsw hi ok hg hts he hs) fun D σ H h => lc_reads ht (asg_reads h)
end
end NT

set_option Elab.async false
set_option linter.all false
set_option maxRecDepth 100000
set_option maxHeartbeats 1000000
set_option autoImplicit false
/-! Loops, freezing, changeable things, methods that change. -/
namespace NT
open PySem PySem.Spec PyProof.Rows L2

section
variable {X : Cx} {st : Stmt} {rest sts : List Stmt} {e tg : Expr} {f f2 : Slots → Mu → RE Fl} {fe fo fi fv : Slots → Mu → RE DK} {fs : Slots → Mu → RE (List DK)} {pos p : Pos} {x : Str}
/-! ### while -/
theorem ds_while {body : List Stmt} (hp : PassesOwn (model X.prog X.w) X.A X.env X.xe) (hc : DT X e (tstV fe)) (hb : DSs X body f) : DS X (.While e body [] pos) fun g μ => whlGo (tstV fe) f TURNS g μ :=
  PS.imp (ps_while hp hc hb) fun D σ H ⟨W0, W, g, μ, fl, μ', s, st, ow, e, q⟩ => by
    refine ⟨fun n σ H => ∃ W1 g μ, Kp W W1 ∧ Sta X.K W1 g μ σ H ∧ Stp W0 W1 ∧ Own W0 g σ ∧ whlGo (tstV fe) f n g μ = .ok fl μ', ⟨TURNS, W, g, μ, .refl, s, st, ow, e⟩, ?_⟩
    rintro n σ1 H1 ⟨W1, g1, μ1, kp1, s1, st1, ow1, e1⟩
    cases n with
    | zero => cases e1
    | succ n =>
      unfold whlGo at e1
      obtain ⟨b, μ2, e2, e1⟩ := RE.bind_ok e1
      refine ⟨W1, g1, μ1, b, μ2, s1, e2, fun W2 s2 ok2 mu2 => ?_⟩
      have st2 := st1.trans s1.ok s2
      cases b with
      | false =>
        rw [if_neg Bool.false_ne_true] at e1
        cases e1
        exact iteF (q W2 σ1 (kp1.trans (s2.kp s1.ok)) st2 (s1.step s2 ok2 mu2) ow1)
      | true =>
        rw [if_pos rfl] at e1
        obtain ⟨fl1, μ3, e3, e1⟩ := RE.bind_ok e1
        have kp2 := kp1.trans (s2.kp s1.ok)
        refine iteT ⟨fun σ H => ∃ W1 g μ, Kp W W1 ∧ Sta X.K W1 g μ σ H ∧ Stp W0 W1 ∧ Own W0 g σ ∧ whlGo (tstV fe) f n g μ = .ok fl μ', fun σ' H' h => ⟨n, Nat.lt_succ_self n, h⟩, W0, W2, g1, μ2, fl1, μ3, s1.step s2 ok2 mu2, st2, ow1, e3, ?_⟩
        cases fl1 with
        | nx g' => exact fun W' σ' kp st' s' ow' => ⟨W', g', μ3, kp2.trans kp, s', st', ow', e1⟩
        | ct g' => exact fun W' σ' kp st' s' ow' => ⟨W', g', μ3, kp2.trans kp, s', st', ow', e1⟩
        | bk g' => cases e1; exact fun W' σ' kp st' s' ow' => q W' σ' (kp2.trans kp) st' s' ow'
        | rt d b => cases e1; exact q

/-! ### freezing -/
theorem frz_step {K : PySem.W.Frag} {W0 W : Wr} {g : Slots} {μ : Mu} {σ : L2.St} {H : Hp} (i : Nat) (s : Sta K W g μ σ H) (st : Stp W0 W) (ow : Own W0 g σ) :
    ∃ W', W'.H = W.H ∧ (∀ a, W.F a → W'.F a) ∧ W'.ι = W.ι ∧ Sta K W' (frzSlot g i) μ σ H ∧ Stp W0 W' ∧ Own W0 (frzSlot g i) σ ∧ ∀ l p, g[i]? = some (.own l) → σ[i]? = some (some (.ref p)) → W'.F p := by
  unfold frzSlot
  cases hg : g[i]? with
  | none => exact ⟨W, rfl, fun _ h => h, rfl, s, st, ow, fun l p h => by cases h⟩
  | some sl =>
    cases sl with
    | no => exact ⟨W, rfl, fun _ h => h, rfl, s, st, ow, fun l p h => by cases h⟩
    | ok d => exact ⟨W, rfl, fun _ h => h, rfl, s, st, ow, fun l p h => by cases h⟩
    | own l =>
      have hi : i < g.length := (List.getElem?_eq_some_iff.mp hg).1
      have hσ : i < σ.length := by rw [← s.g.len]; exact hi
      obtain ⟨p, vs, e, nf, ni, hp, rr⟩ := s.g.at_ i _ _ hg (List.getElem?_eq_getElem hσ)
      have hσ2 : σ[i]? = some (some (.ref p)) := by rw [List.getElem?_eq_getElem hσ, e]
      have n0 := ow i l p hg hσ2
      have hset : σ.set i (some (.ref p)) = σ := by
        apply List.ext_getElem?
        intro j
        by_cases hj : i = j
        · subst hj; rw [List.getElem?_set_self hσ, hσ2]
        · rw [List.getElem?_set_ne hj]
      have gok : GOk K (W.frz p) (g.set i (.ok (.lst l))) σ := by
        have h1 : GOk K (W.frz p) (g.set i .no) (σ.set i (some (.ref p))) := by
          have h0 : GOk K W (g.set i .no) (σ.set i (some (.ref p))) := s.g.setNo
          refine ⟨h0.len, fun j x o e1 e2 => ?_, h0.apart⟩
          have := h0.at_ j x o e1 e2
          cases x with
          | no => trivial
          | ok d => obtain ⟨v, e3, r3⟩ := this; exact ⟨v, e3, Rep.frz p _ _ r3⟩
          | own l' =>
            obtain ⟨p', vs', e3, nf', ni', hp', rr'⟩ := this
            refine ⟨p', vs', e3, fun z => ?_, ni', hp', RepL.frz p _ _ rr'⟩
            rcases z with z | z
            · exact nf' z
            · subst z
              rcases set_some e1 with ⟨_, _, e4⟩ | ⟨hj, e4⟩
              · cases e4
              · rw [List.getElem?_set_ne hj] at e2
                rw [e3] at e2
                exact hj (s.g.apart i j l l' p' hg e4 hσ2 e2)
        have h2 := h1.setOk (i := i) (d := .lst l) (v := .ref p) (.lst (.inr rfl) hp (RepL.frz p _ _ rr))
        rw [List.set_set, List.set_set, hset] at h2
        exact h2
      refine ⟨W.frz p, rfl, fun _ h => .inl h, rfl, ⟨s.h, wok_frz s.ok hp ni, s.mu.frz p, gok⟩, stp_frz st n0, ?_, fun l' p' h1 h2 => ?_⟩
      · have := ow.setOk (i := i) (d := .lst l) (o := some (.ref p))
        rw [hset] at this
        exact this
      · rw [hσ2] at h2; cases h2; exact .inr rfl
theorem ds_frz {i : Nat} (h : DSs X sts f) : DSs X sts (seqF (fun g μ => .ok (.nx (frzSlot g i)) μ) f) :=
  PSs.imp h fun D σ H ⟨W0, W, g, μ, fl, μ', s, st, ow, e, q⟩ => by
    obtain ⟨W', hH, hF, hI, s', st', ow', _⟩ := frz_step i s st ow
    exact ⟨W0, W', frzSlot g i, μ, fl, μ', s', st', ow', e, q.kp (kp_more hF hH hI)⟩
/-! ### for -/
/-- all the lists of one's own that are walked are frozen -/
theorem frz_all {K : PySem.W.Frag} {W0 : Wr} {σ : L2.St} {H : Hp} : ∀ (xs : List DK) {W : Wr} {g : Slots} {μ : Mu}, Sta K W g μ σ H → Stp W0 W → Own W0 g σ →
    ∃ W', W'.H = W.H ∧ (∀ a, W.F a → W'.F a) ∧ W'.ι = W.ι ∧ Sta K W' (frzBo g xs) μ σ H ∧ Stp W0 W' ∧ Own W0 (frzBo g xs) σ ∧
      ∀ x ∈ xs, ∀ i l p, x.2 = .bo i → g[i]? = some (.own l) → σ[i]? = some (some (.ref p)) → W'.F p
  | [], W, g, μ, s, st, ow => ⟨W, rfl, fun _ h => h, rfl, s, st, ow, fun x hx => by cases hx⟩
  | (d, .pl) :: r, W, g, μ, s, st, ow => by
    obtain ⟨W', h1, h2, h3, h4, h5, h6, h7⟩ := frz_all r s st ow
    refine ⟨W', h1, h2, h3, h4, h5, h6, fun x hx i l p hk => ?_⟩
    rcases List.mem_cons.mp hx with rfl | hx
    · cases hk
    · exact h7 x hx i l p hk
  | (d, .fr) :: r, W, g, μ, s, st, ow => by
    obtain ⟨W', h1, h2, h3, h4, h5, h6, h7⟩ := frz_all r s st ow
    refine ⟨W', h1, h2, h3, h4, h5, h6, fun x hx i l p hk => ?_⟩
    rcases List.mem_cons.mp hx with rfl | hx
    · cases hk
    · exact h7 x hx i l p hk
  | (d, .bo j) :: r, W, g, μ, s, st, ow => by
    obtain ⟨W1, a1, a2, a3, a4, a5, a6, a7⟩ := frz_step j s st ow
    obtain ⟨W', h1, h2, h3, h4, h5, h6, h7⟩ := frz_all r a4 a5 a6
    refine ⟨W', h1.trans a1, fun a h => h2 a (a2 a h), h3.trans a3, h4, h5, h6, fun x hx i l p hk hg hσ => ?_⟩
    rcases List.mem_cons.mp hx with rfl | hx
    · cases hk
      exact h2 p (a7 l p hg hσ)
    · by_cases hij : i = j
      · subst hij
        exact h2 p (a7 l p hg hσ)
      · refine h7 x hx i l p hk ?_ hσ
        unfold frzSlot
        split
        · rw [List.getElem?_set_ne (Ne.symm hij)]; exact hg
        · exact hg
def forF (k : IK) (t : TgT) (fs : Slots → Mu → RE (List DK)) (f : Slots → Mu → RE Fl) : Slots → Mu → RE Fl := fun g μ => (fs g μ).bind fun xs μ1 => match iterD k (xs.map (·.1)) with
  | none => .no
  | some items => forGo t f items (frzBo g xs) μ1
theorem ds_for {iter : Expr} {body : List Stmt} {k : IK} {t : TgT} (hp : PassesOwn (model X.prog X.w) X.A X.env X.xe) (hc : X.calm = true) (hi : DI X tg iter k fs) (hg : PG X tg (gOf X.K t)) (hb : DSs X body f) (hs : ∀ x, foldedSetIterable iter X.env x = pure x) :
    DS X (.For tg iter body [] pos) (forF k t fs f) :=
  PS.imp (ps_for hp hc hi hg hb hs) fun D σ H ⟨W0, W, g, μ, fl, μ', s, st, ow, e, q⟩ => by
    obtain ⟨xs, μ1, e1, e⟩ := RE.bind_ok e
    cases hit : iterD k (xs.map (·.1)) with
    | none => rw [hit] at e; cases e
    | some items =>
    rw [hit] at e
    refine ⟨W, g, μ, xs, items, μ1, s, e1, hit, fun W1 J A s1 ok1 mu1 hA hz hY => ?_⟩
    have sta1 := s.step s1 ok1 mu1
    have st1 := st.trans s.ok s1
    obtain ⟨W2, b1, b2, b3, b4, b5, b6, b7⟩ := frz_all xs sta1 st1 ow
    have kp02 : Kp W W2 := (s1.kp s.ok).trans (kp_more b2 b1 b3)
    have hAF : ∀ a ∈ A, W2.F a := fun a ha => by
      rcases (hA a ha).2 with z | ⟨i, x, hx, hb, ⟨l, hg1⟩, hσ⟩
      · exact b2 a z
      · exact b7 x hx i l a hb hg1 hσ
    have kept : ∀ W3, Kp W2 W3 → Kept X.K A W1 W3 := fun W3 k3 => ⟨fun a ha o h => k3.h a o (hAF a ha) (by rw [b1]; exact h), fun d v h => Rep.kp ((kp_more b2 b1 b3).trans k3) d v h⟩
    refine ⟨fun i m σ H => m = items.length - i ∧ i ≤ items.length ∧ ∃ W3 g3 μ3, Kp W2 W3 ∧ Sta X.K W3 g3 μ3 σ H ∧ Stp W0 W3 ∧ Own W0 g3 σ ∧ forGo t f (items.drop i) g3 μ3 = .ok fl μ', ⟨items.length, by simp, Nat.zero_le _, W2, _, μ1, .refl, b4, b5, b6, by simpa using e⟩, ?_⟩
    rintro i m σ3 H3 ⟨rfl, hi2, W3, g3, μ3, k3, s3, st3, ow3, go⟩
    have Y := hY W3 (kept W3 k3) s3.ok
    have hH3 := s3.h
    subst hH3
    by_cases hlt : i < items.length
    · have hd : items[i]? = some items[i] := List.getElem?_eq_getElem hlt
      obtain ⟨hgo, hyl⟩ := Y.go i _ hd
      rw [List.drop_eq_getElem_cons hlt] at go
      unfold forGo at go
      refine .inr ⟨hgo, fun σ H => ∃ W3 g3 μ3, Kp W2 W3 ∧ Sta X.K W3 g3 μ3 σ H ∧ Stp W0 W3 ∧ Own W0 g3 σ ∧ forGo t f (items.drop (i + 1)) g3 μ3 = .ok fl μ', fun σ' H' h => ⟨items.length - (i + 1), by omega, rfl, hlt, h⟩, fun x H' hy => ?_⟩
      obtain ⟨W4, rfl, g4, ok4, r4⟩ := hyl x H' hy
      cases ha : asgD t g3 items[i] with
      | none => rw [ha] at go; cases go
      | some g1 =>
      rw [ha] at go
      obtain ⟨fl1, μ5, e5, go⟩ := RE.bind_ok go
      have k4 : Kp W2 W4 := k3.trans (g4.stp.kp s3.ok)
      refine gOf_okP (fun g σ => Own W0 g σ) (fun _ _ _ _ _ h => h.setOk) r4 (s3.g.mono g4.stp s3.ok) ow3 ha fun σ2 gok2 ow2 _ => ?_
      refine ⟨W0, W4, g1, μ3, fl1, μ5, ⟨rfl, ok4, s3.mu.grw g4 s3.ok, gok2⟩, st3.trans s3.ok g4.stp, ow2, e5, ?_⟩
      cases fl1 with
      | nx g' => exact fun W' σ' kp st' s' ow' => ⟨W', g', μ5, k4.trans kp, s', st', ow', go⟩
      | ct g' => exact fun W' σ' kp st' s' ow' => ⟨W', g', μ5, k4.trans kp, s', st', ow', go⟩
      | bk g' => cases go; exact fun W' σ' kp st' s' ow' => q W' σ' (kp02.trans (k4.trans kp)) st' s' ow'
      | rt d b => cases go; exact q
    · have hi3 : i = items.length := by omega
      subst hi3
      rw [List.drop_length] at go
      unfold forGo at go
      cases go
      exact .inl ⟨Y.stop, q W3 σ3 (kp02.trans k3) st3 ⟨rfl, s3.ok, s3.mu, s3.g⟩ ow3⟩
end
end NT

set_option Elab.async false
set_option linter.all false
set_option maxRecDepth 100000
set_option maxHeartbeats 1000000
set_option autoImplicit false
/-! Methods that change a list of one's own; stores by place; a changeable thing; parallel assignment; match. -/
namespace NT
open PySem PySem.Spec PyProof.Rows L2

section
variable {K : PySem.W.Frag} {W W' W'' W0 : Wr} {g : Slots} {σ : L2.St} {μ : Mu} {H : Hp}
/-- the list of one's own in slot i, changed -/
theorem own_upd {i : Nat} {l l2 : List D} {p : Addr} {vs vs2 : List V} (s : Sta K W g μ σ H) (st : Stp W0 W) (ow : Own W0 g σ) (hg : g[i]? = some (.own l)) (hσ : σ[i]? = some (some (.ref p))) (hp : W.H p = some (.lst vs)) (nf : ¬ W.F p) (ni : p ∉ W.ι)
    (r : RepL K W l2 vs2) (hz : vs2.length ≤ 16777216) : Kp W (W.lst p vs2) ∧ Stp W0 (W.lst p vs2) ∧ Sta K (W.lst p vs2) (g.set i (.own l2)) μ σ (W.lst p vs2).H ∧ Own W0 (g.set i (.own l2)) σ := by
  have hi : i < σ.length := (List.getElem?_eq_some_iff.mp hσ).1
  have hset : σ.set i (some (.ref p)) = σ := by
    apply List.ext_getElem?
    intro j
    by_cases hj : i = j
    · subst hj; rw [List.getElem?_set_self hi, hσ]
    · rw [List.getElem?_set_ne hj]
  have n0 := ow i l p hg hσ
  refine ⟨kp_put nf, stp_put st n0, ⟨rfl, wok_put s.ok hp hz, mu_put s.mu nf ni, ?_⟩, ?_⟩
  · refine ⟨by simp [s.g.len], fun j x o e1 e2 => ?_, fun j k l1 l3 q e1 e2 e3 e4 => ?_⟩
    · rcases set_some e1 with ⟨rfl, _, rfl⟩ | ⟨hj, e1⟩
      · rw [hσ] at e2
        cases e2
        exact ⟨p, vs2, rfl, nf, ni, upd_same, repl_put nf _ _ r⟩
      · have := s.g.at_ j x o e1 e2
        cases x with
        | no => trivial
        | ok d => obtain ⟨v, e3, r3⟩ := this; exact ⟨v, e3, rep_put nf _ _ r3⟩
        | own l' =>
          obtain ⟨q, us, e3, nf', ni', hq, rr⟩ := this
          subst e3
          have hne : q ≠ p := fun z => by
            subst z
            exact hj (s.g.apart i j l l' q hg e1 hσ e2)
          exact ⟨q, us, rfl, nf', ni', (upd_ne hne).trans hq, repl_put nf _ _ rr⟩
    · rcases set_some e1 with ⟨rfl, _, _⟩ | ⟨hj, e1⟩
      · rcases set_some e2 with ⟨rfl, _, _⟩ | ⟨hk, e2⟩
        · rfl
        · exact s.g.apart i k l l3 q hg e2 e3 e4
      · rcases set_some e2 with ⟨rfl, _, _⟩ | ⟨hk, e2⟩
        · exact s.g.apart j i l1 l q e1 hg e3 e4
        · exact s.g.apart j k l1 l3 q e1 e2 e3 e4
  · intro j l' q e1 e2
    rcases set_some e1 with ⟨rfl, _, _⟩ | ⟨hj, e1⟩
    · rw [hσ] at e2; cases e2; exact n0
    · exact ow j l' q e1 e2
theorem own_at {i : Nat} {l : List D} (gok : GOk K W g σ) (hg : g[i]? = some (.own l)) : ∃ p vs, σ[i]? = some (some (.ref p)) ∧ ¬ W.F p ∧ p ∉ W.ι ∧ W.H p = some (.lst vs) ∧ RepL K W l vs := by
  have hi : i < g.length := (List.getElem?_eq_some_iff.mp hg).1
  have hσ : i < σ.length := by rw [← gok.len]; exact hi
  obtain ⟨p, vs, e, r⟩ := gok.at_ i _ _ hg (List.getElem?_eq_getElem hσ)
  exact ⟨p, vs, by rw [List.getElem?_eq_getElem hσ, e], r⟩
end

section
variable {X : Cx} {st : Stmt} {rest sts : List Stmt} {e o i v tg : Expr} {f f2 : Slots → Mu → RE Fl} {fe fo fi fv : Slots → Mu → RE DK} {fs : Slots → Mu → RE (List DK)} {pos p p2 p3 apos : Pos} {x y m : Str}
/-! ### methods of a list in a slot, one argument: the common part of the call -/
structure MSide (X : Cx) (o e : Expr) (m : Str) (apos pos : Pos) : Prop where
  base : attributeBase o m X.env (eval o X.env) = eval o X.env
  few : ((backTo pos (starEach [e] X.env)).all (fun x => !x.1) && (backToKw pos (keywordEach [] X.env)).all (fun x => x.1.isSome)
      && decide (([e] : List Expr).length + ([] : List Keyword).length + (if ([] : List Keyword).isEmpty then 0 else 1) < 30)) = true
  line : (apos.endLine == pos.line) = true
  st : starEach [e] X.env = (false, eval e X.env) :: starEach [] X.env
  pl : (backTo pos (starEach [] X.env)).any (·.1) = false
def one (fe : Slots → Mu → RE DK) : Slots → Mu → RE (List DK) := fun g μ => (fe g μ).bind fun x μ1 => .ok [x] μ1
theorem da_one (he : DE X e fe) (hs : starEach [e] X.env = (false, eval e X.env) :: starEach [] X.env) : DA X [e] (one fe) := da_cons he da_nil hs
theorem tyv_lst {K : PySem.W.Frag} {H : Hp} {p : Addr} {vs : List V} (h : H p = some (.lst vs)) : tyV K "list" (.ref p) H := Or.inl ⟨rfl, _, Or.inl (Or.inl h)⟩
theorem pe_m1 {id : String} {i : Nat} {r : V → List V → Hp → L2.VK → Prop} (slot : PySem.Slot "list" m id) (hty : typeOf (.builtin id) = pure (.type "method_descriptor")) (hm : MtM X id r) (hN : X.N[i]? = some x) (hv : Vis X.env.scope x) (hd : (x == ("__debug__" : Str)) = false) (hcd : (x == ("__classdict__" : Str)) = false)
    (he : DE X e fe) (sd : MSide X (.Name x p) e m apos pos) : PE X (.Call (.Attribute (.Name x p) m apos) [e] [] pos) (tBM X.K "list" r (tVar i) (TAv X.K (one fe))) :=
  pe_bm PySem.F.plainAttrs_list slot hty hm (pe_var hN hv hd hcd) (da_one he sd.st) sd.base sd.few sd.line sd.st sd.pl
/-- x.append(e) -/
def appF (i : Nat) (fe : Slots → Mu → RE DK) : Slots → Mu → RE Fl := fun g μ => (fe g μ).bind fun x μ1 => match g[i]? with
    | some (.own l) => if !isBo x.2 && decide (l.length < SZ) then .ok (.nx (g.set i (.own (l ++ [x.1])))) μ1 else .no
    | _ => .no
theorem ds_app {i : Nat} (hm : m = "append") (hN : X.N[i]? = some x) (hv : Vis X.env.scope x) (hd : (x == ("__debug__" : Str)) = false) (hcd : (x == ("__classdict__" : Str)) = false) (he : DE X e fe) (sd : MSide X (.Name x p) e m apos p2) :
    DS X (.Expr (.Call (.Attribute (.Name x p) m apos) [e] [] p2) pos) (appF i fe) := by
  subst hm
  refine PS.imp (ps_expr (pe_m1 (i := i) PySem.F.slot_list_append PySem.F.type_list_append mt_append hN hv hd hcd he sd)) fun D σ H ⟨W0, W, g, μ, fl, μ', s, st, ow, e, q⟩ => ?_
  obtain ⟨z, μ1, e1, e⟩ := RE.bind_ok e
  split at e
  · rename_i l hg
    split at e <;> cases e
    rename_i hc
    simp only [Bool.and_eq_true, Bool.not_eq_true', decide_eq_true_eq] at hc
    obtain ⟨p, vs, hσ, nf, ni, hp, rr⟩ := own_at s.g hg
    refine ⟨.ref p, hσ, tyv_lst (by rw [← s.h]; exact hp), W, g, μ, [z], _, s, by unfold one; rw [e1]; rfl, fun W1 us s1 ok1 mu1 r1 => ?_⟩
    obtain ⟨u, rfl, ru⟩ := vas1 r1
    have sta1 := s.step s1 ok1 mu1
    obtain ⟨nf1, ni1, hp1⟩ := s1.pend nf ni hp
    have rr1 := RepL.mono s1 s.ok _ _ rr
    have ru : Rep X.K W1 z.1 u := by
      unfold VA at ru
      split at ru
      · rename_i j hk; rw [hk] at hc; exact absurd hc.1 (by simp [isBo])
      · exact ru
    have hl : l.length < 16777216 := hc.2
    refine ⟨p, vs, u, rfl, rfl, hp1, by rw [← rr.length, ← sz_eq]; exact hl, ?_⟩
    obtain ⟨k1, k2, k3, k4⟩ := own_upd sta1 (st.trans s.ok s1) ow hg hσ hp1 nf1 ni1 (rr1.append (.cons ru .nil)) (by rw [List.length_append, ← rr.length]; show l.length + 1 ≤ _; omega)
    exact q _ σ ((s1.kp s.ok).trans k1) k2 k3 k4
  · cases e
/-- x.extend(e), e a new list -/
def extF (i : Nat) (fe : Slots → Mu → RE DK) : Slots → Mu → RE Fl := fun g μ => (fe g μ).bind fun x μ1 => match g[i]?, x with
    | some (.own l), (.lst r, .fr) => if l.length + r.length ≤ SZ then .ok (.nx (g.set i (.own (l ++ r)))) μ1 else .no
    | _, _ => .no
theorem ds_ext {i : Nat} (hm : m = "extend") (hN : X.N[i]? = some x) (hv : Vis X.env.scope x) (hd : (x == ("__debug__" : Str)) = false) (hcd : (x == ("__classdict__" : Str)) = false) (he : DE X e fe) (sd : MSide X (.Name x p) e m apos p2) :
    DS X (.Expr (.Call (.Attribute (.Name x p) m apos) [e] [] p2) pos) (extF i fe) := by
  subst hm
  refine PS.imp (ps_expr (pe_m1 (i := i) PySem.F.slot_list_extend PySem.F.type_list_extend mt_extend hN hv hd hcd he sd)) fun D σ H ⟨W0, W, g, μ, fl, μ', s, st, ow, e, q⟩ => ?_
  obtain ⟨z, μ1, e1, e⟩ := RE.bind_ok e
  split at e
  · rename_i l r hg
    split at e <;> cases e
    rename_i hc
    obtain ⟨p, vs, hσ, nf, ni, hp, rr⟩ := own_at s.g hg
    refine ⟨.ref p, hσ, tyv_lst (by rw [← s.h]; exact hp), W, g, μ, [_], _, s, by unfold one; rw [e1]; rfl, fun W1 us s1 ok1 mu1 r1 => ?_⟩
    obtain ⟨u, rfl, ru⟩ := vas1 r1
    have sta1 := s.step s1 ok1 mu1
    obtain ⟨nf1, ni1, hp1⟩ := s1.pend nf ni hp
    have rr1 := RepL.mono s1 s.ok _ _ rr
    have ru : Rep X.K W1 (.lst r) u := ru
    cases ru with
    | @lst b zs _ hf hb rz =>
      refine ⟨p, b, vs, zs, rfl, rfl, hp1, hb, by rw [← rr.length, ← rz.length, ← sz_eq]; exact hc, ?_⟩
      obtain ⟨k1, k2, k3, k4⟩ := own_upd sta1 (st.trans s.ok s1) ow hg hσ hp1 nf1 ni1 (rr1.append rz) (by rw [List.length_append, ← rr.length, ← rz.length]; exact hc)
      exact q _ σ ((s1.kp s.ok).trans k1) k2 k3 k4
  · cases e
/-- y = x.pop(e) -/
def popF (j i : Nat) (fe : Slots → Mu → RE DK) : Slots → Mu → RE Fl := fun g μ => (fe g μ).bind fun x μ1 => match g[i]?, x.1 with
    | some (.own l), .int k => match popL l k with | some (d, r) => .ok (.nx ((g.set i (.own r)).set j (.ok d))) μ1 | none => .no
    | _, _ => .no
theorem popL_ok {l : List D} {k : Int} {d : D} {r : List D} (h : popL l k = some (d, r)) : ∃ n, seqIndex? k l.length = some n ∧ l[n]? = some d ∧ r = l.eraseIdx n ∧ -(2 ^ 63) ≤ k ∧ k < 2 ^ 63 := by
  unfold popL at h
  split at h
  · rename_i hk
    obtain ⟨n, h1, h2⟩ := Option.bind_eq_some_iff.mp h
    obtain ⟨d', h3, h4⟩ := Option.map_eq_some_iff.mp h2
    cases h4
    exact ⟨n, (ixN_seq h1).1, h3, rfl, by omega, by omega⟩
  · cases h
theorem rep_erase_len {vs : List V} {n : Nat} (h : vs.length ≤ 16777216) : (vs.eraseIdx n).length ≤ 16777216 := Nat.le_trans (List.length_eraseIdx_le _ _) h
theorem ds_popTo {i j : Nat} {py : Pos} (hm : m = "pop") (hND : X.N.Nodup) (hj : X.N[j]? = some y) (hy : Loc X.env.scope y) (hf : X.fn y = true ∨ X.env.scope.names.lookup y = some .local)
    (hN : X.N[i]? = some x) (hv : Vis X.env.scope x) (hd : (x == ("__debug__" : Str)) = false) (hcd : (x == ("__classdict__" : Str)) = false) (he : DE X e fe) (sd : MSide X (.Name x p) e m apos p2) :
    DS X (.Assign [.Name y py] (.Call (.Attribute (.Name x p) m apos) [e] [] p2) pos) (popF j i fe) := by
  subst hm
  refine PS.imp (ps_set hND hj hy (pe_m1 (i := i) PySem.F.slot_list_pop PySem.F.type_list_pop mt_popAt hN hv hd hcd he sd) (by rfl) hf) fun D σ H ⟨W0, W, g, μ, fl, μ', s, st, ow, e, q⟩ => ?_
  obtain ⟨z, μ1, e1, e⟩ := RE.bind_ok e
  split at e
  · rename_i l k hg hk
    split at e <;> cases e
    rename_i d r hpop
    obtain ⟨n, h1, h2, rfl, h3, h4⟩ := popL_ok hpop
    obtain ⟨p, vs, hσ, nf, ni, hp, rr⟩ := own_at s.g hg
    refine ⟨.ref p, hσ, tyv_lst (by rw [← s.h]; exact hp), W, g, μ, [z], _, s, by unfold one; rw [e1]; rfl, fun W1 us s1 ok1 mu1 r1 => ?_⟩
    obtain ⟨u, rfl, ru⟩ := vas1 r1
    have sta1 := s.step s1 ok1 mu1
    obtain ⟨nf1, ni1, hp1⟩ := s1.pend nf ni hp
    have rr1 := RepL.mono s1 s.ok _ _ rr
    obtain rfl := va_int sta1.g ru hk
    obtain ⟨w, hw, rw1⟩ := rr1.get h2
    refine ⟨p, vs, k, n, w, rfl, rfl, hp1, h3, h4, by rw [← rr.length]; exact h1, hw, ?_⟩
    obtain ⟨k1, k2, k3, k4⟩ := own_upd sta1 (st.trans s.ok s1) ow hg hσ hp1 nf1 ni1 (rr1.eraseIdx n) (rep_erase_len (ok1.z _ _ (.inl hp1)))
    exact q _ _ ((s1.kp s.ok).trans k1) k2 ⟨rfl, k3.ok, k3.mu, k3.g.setOk (rep_put nf1 _ _ rw1)⟩ k4.setOk
  · cases e
/-- x.append(z.pop(e)) -/
def appPopF (j i : Nat) (fe : Slots → Mu → RE DK) : Slots → Mu → RE Fl := fun g μ => (fe g μ).bind fun x μ1 => match g[i]?, g[j]?, x.1 with
    | some (.own l), some (.own m), .int k => if i = j then .no else match popL l k with
      | some (d, r) => if m.length < SZ then .ok (.nx ((g.set i (.own r)).set j (.own (m ++ [d])))) μ1 else .no
      | none => .no
    | _, _, _ => .no
theorem ds_appPop {i j : Nat} {m2 : Str} {px pz ap2 pp : Pos} (hm : m = "append") (hm2 : m2 = "pop") (hN : X.N[j]? = some x) (hv : Vis X.env.scope x) (hd : (x == ("__debug__" : Str)) = false) (hcd : (x == ("__classdict__" : Str)) = false)
    (hN2 : X.N[i]? = some y) (hv2 : Vis X.env.scope y) (hd2 : (y == ("__debug__" : Str)) = false) (hcd2 : (y == ("__classdict__" : Str)) = false) (he : DE X e fe) (sd : MSide X (.Name y pz) e m2 ap2 pp)
    (sd2 : MSide X (.Name x px) (.Call (.Attribute (.Name y pz) m2 ap2) [e] [] pp) m apos p2) :
    DS X (.Expr (.Call (.Attribute (.Name x px) m apos) [.Call (.Attribute (.Name y pz) m2 ap2) [e] [] pp] [] p2) pos) (appPopF j i fe) := by
  subst hm hm2
  have inner := pe_m1 (i := i) PySem.F.slot_list_pop PySem.F.type_list_pop mt_popAt hN2 hv2 hd2 hcd2 he sd
  refine PS.imp (ps_expr (pe_bm PySem.F.plainAttrs_list PySem.F.slot_list_append PySem.F.type_list_append mt_append (pe_var hN hv hd hcd) (pa_cons inner pa_nil sd2.st) sd2.base sd2.few sd2.line sd2.st sd2.pl)) fun D σ H ⟨W0, W, g, μ, fl, μ', s, st, ow, e, q⟩ => ?_
  obtain ⟨z, μ1, e1, e⟩ := RE.bind_ok e
  split at e
  · rename_i l m k hg hg2 hk
    split at e
    · cases e
    rename_i hij
    split at e
    · rename_i d r hpop
      split at e <;> cases e
      rename_i hc
      obtain ⟨n, h1, h2, rfl, h3, h4⟩ := popL_ok hpop
      obtain ⟨p, vs, hσ, nf, ni, hp, rr⟩ := own_at s.g hg
      obtain ⟨p', vs', hσ', nf', ni', hp', rr'⟩ := own_at s.g hg2
      refine ⟨.ref p', hσ', tyv_lst (by rw [← s.h]; exact hp'), .ref p, hσ, tyv_lst (by rw [← s.h]; exact hp), W, g, μ, [z], _, s, by unfold one; rw [e1]; rfl, fun W1 us s1 ok1 mu1 r1 => ?_⟩
      obtain ⟨u, rfl, ru⟩ := vas1 r1
      have sta1 := s.step s1 ok1 mu1
      obtain ⟨nf1, ni1, hp1⟩ := s1.pend nf ni hp
      have rr1 := RepL.mono s1 s.ok _ _ rr
      obtain rfl := va_int sta1.g ru hk
      obtain ⟨w, hw, rw1⟩ := rr1.get h2
      refine ⟨p, vs, k, n, w, rfl, rfl, hp1, h3, h4, by rw [← rr.length]; exact h1, hw, ?_⟩
      obtain ⟨k1, k2, k3, k4⟩ := own_upd sta1 (st.trans s.ok s1) ow hg hσ hp1 nf1 ni1 (rr1.eraseIdx n) (rep_erase_len (ok1.z _ _ (.inl hp1)))
      have hg3 : (g.set i (.own (l.eraseIdx n)))[j]? = some (.own m) := by rw [List.getElem?_set_ne hij]; exact hg2
      obtain ⟨p3, vs3, hσ3, nf3, ni3, hp3, rr3⟩ := own_at k3.g hg3
      rw [hσ'] at hσ3
      cases hσ3
      have hl : m.length < 16777216 := hc
      refine ⟨p', vs3, w, rfl, rfl, hp3, by rw [← rr3.length, ← sz_eq]; exact hl, ?_⟩
      obtain ⟨j1, j2, j3, j4⟩ := own_upd k3 k2 k4 hg3 hσ' hp3 nf3 ni3 (rr3.append (.cons (rep_put nf1 _ _ rw1) .nil)) (by rw [List.length_append, ← rr3.length]; show m.length + 1 ≤ _; omega)
      exact q _ σ (((s1.kp s.ok).trans k1).trans j1) j2 j3 j4
    · cases e
  · cases e
end
end NT

set_option Elab.async false
set_option linter.all false
set_option maxRecDepth 100000
set_option maxHeartbeats 1000000
set_option autoImplicit false
/-! Stores by place; a changeable thing; parallel assignment; match. -/
namespace NT
open PySem PySem.Spec PyProof.Rows L2

section
variable {K : PySem.W.Frag} {W W' W'' W0 : Wr} {g : Slots} {σ : L2.St} {μ : Mu} {H : Hp}
/-- a changeable list, changed -/
theorem mu_upd {j : Nat} {l l2 : List D} {p : Addr} {vs vs2 : List V} (s : Sta K W g μ σ H) (st : Stp W0 W) (ow : Own W0 g σ) (hj : μ[j]? = some l) (hi : W.ι[j]? = some p) (hp : W.H p = some (.lst vs))
    (r : RepL K W l2 vs2) (hz : vs2.length ≤ 16777216) : Kp W (W.lst p vs2) ∧ Stp W0 (W.lst p vs2) ∧ Sta K (W.lst p vs2) g (μ.set j l2) σ (W.lst p vs2).H ∧ Own W0 g σ := by
  have hin : p ∈ W.ι := List.mem_of_getElem? hi
  have nf : ¬ W.F p := (s.ok.i p hin).1
  refine ⟨kp_put nf, ?_, ⟨rfl, wok_put s.ok hp hz, ?_, ?_⟩, ow⟩
  · refine ⟨st.f, fun a o h hn => ?_, st.g, st.p⟩
    have h1 := st.h a o h hn
    by_cases e : a = p
    · subst e
      obtain ⟨rr, e2, hr⟩ := st.p
      rw [e2] at hin
      rcases List.mem_append.mp hin with z | z
      · exact absurd z hn
      · rw [hr a z] at h; cases h
    · exact (upd_ne e).trans h1
  · refine ⟨by rw [List.length_set]; exact s.mu.len, fun k m e => ?_⟩
    rcases set_some e with ⟨rfl, _, rfl⟩ | ⟨hk, e⟩
    · exact ⟨p, vs2, hi, upd_same, repl_put nf _ _ r⟩
    · obtain ⟨a, us, h1, h2, h3⟩ := s.mu.at_ k m e
      refine ⟨a, us, h1, (upd_ne fun z => ?_).trans h2, repl_put nf _ _ h3⟩
      subst z
      have hjl : j < W.ι.length := (List.getElem?_eq_some_iff.mp hi).1
      have hkl : k < W.ι.length := (List.getElem?_eq_some_iff.mp h1).1
      have e1 := (List.getElem?_eq_some_iff.mp hi).2
      have e2 := (List.getElem?_eq_some_iff.mp h1).2
      exact hk ((List.getElem_inj s.ok.nd).mp (e1.trans e2.symm))
  · refine ⟨s.g.len, fun k x o e1 e2 => ?_, s.g.apart⟩
    have := s.g.at_ k x o e1 e2
    cases x with
    | no => trivial
    | ok d => obtain ⟨v, e3, r3⟩ := this; exact ⟨v, e3, rep_put nf _ _ r3⟩
    | own l' =>
      obtain ⟨q, us, e3, nf', ni', hq, rr⟩ := this
      exact ⟨q, us, e3, nf', ni', (upd_ne fun z => ni' (by rw [z]; exact hin)).trans hq, repl_put nf _ _ rr⟩
end

section
variable {X : Cx} {st : Stmt} {rest sts : List Stmt} {e o i v tg a b c : Expr} {f f2 : Slots → Mu → RE Fl} {fe fo fi fv fa fb fc : Slots → Mu → RE DK} {fs : Slots → Mu → RE (List DK)} {pos p p2 p3 apos : Pos} {x y m : Str}
def setIF (fo fi fv : Slots → Mu → RE DK) : Slots → Mu → RE Fl := fun g μ => (fv g μ).bind fun x μ1 => (fo g μ1).bind fun y μ2 => (fi g μ2).bind fun z μ3 => match x, y, z with
    | (d, .pl), (.mut j, _), (.int k, _) => match μ3[j]? with
      | some l => match ixN l.length k with | some n => .ok (.nx g) (μ3.set j (l.set n d)) | none => .no
      | none => .no
    | (d, .pl), (_, .bo s), (.int k, _) => match g[s]? with
      | some (.own l) => match ixN l.length k with | some n => .ok (.nx (g.set s (.own (l.set n d)))) μ3 | none => .no
      | _ => .no
    | _, _, _ => .no
theorem ds_setI (ho : DE X o fo) (hi : DE X i fi) (hv : DE X v fv)
    (ha : ∀ v, assign (.Subscript o i p) X.env v = (do
      let ov ← holding [v] (eval o X.env)
      let iv ← holding [v, ov] (eval i X.env)
      standAt p
      holding [v, ov, iv] (setItem ov iv v)
      release [v, ov, iv] []) )
    (hs : swapsWithSole [.Subscript o i p] v pos.line X.env = pure false) (hw : swappedStores [.Subscript o i p] v X.env = pure none)
    (h1 : (assignEach [.Subscript o i p] X.env).map (·.2) = [assign (.Subscript o i p) X.env]) : DS X (.Assign [.Subscript o i p] v pos) (setIF fo fi fv) :=
  PS.imp (ps_asg hv (pg_sub ho hi set_list ha) hs hw h1) fun D σ H ⟨W0, W, g, μ, fl, μ', s, st, ow, e, q⟩ => by
    obtain ⟨x, μ1, e1, e'⟩ := RE.bind_ok e
    clear e
    have e := e'
    clear e'
    obtain ⟨y, μ2, e2, e'⟩ := RE.bind_ok e
    clear e
    have e := e'
    clear e'
    obtain ⟨z, μ3, e3, e'⟩ := RE.bind_ok e
    clear e
    have e := e'
    clear e'
    refine ⟨W, g, μ, x.1, x.2, μ1, s, e1, fun W1 vv s1 ok1 mu1 r1 => ?_⟩
    have st1 := s.step s1 ok1 mu1
    refine ⟨W1, g, μ1, y.1, y.2, μ2, st1, e2, fun W2 vo s2 ok2 mu2 r2 => ?_⟩
    have st2 := st1.step s2 ok2 mu2
    refine ⟨W2, g, μ2, z.1, z.2, μ3, st2, e3, fun W3 vi s3 ok3 mu3 r3 => ?_⟩
    have st3 := st2.step s3 ok3 mu3
    have st03 : Stp W W3 := (s1.trans ok1 s2).trans ok2 s3
    have gok3 := st3.g
    split at e
    · rename_i d j kj k kk
      split at e
      · rename_i l hj
        split at e <;> cases e
        rename_i n hn
        have rv : Rep X.K W3 d vv := Rep.mono s3 ok2 _ _ (Rep.mono s2 ok1 _ _ r1)
        obtain rfl : vi = .int k := vr_int r3
        have ro := (r2.mono s3 ok2).rd gok3
        have ro : Rep X.K W3 (.mut j) vo := by
          rcases ro with h | ⟨_, _, _, e, _⟩
          · exact h
          · cases e
        cases ro with
        | «mut» hia =>
        rename_i pa
        obtain ⟨a, vs, h1, h2, h3⟩ := mu3.at_ j l hj
        rw [hia] at h1
        cases h1
        refine ⟨pa, vs, k, n, rfl, rfl, h2, by rw [← h3.length]; exact hn, ?_⟩
        obtain ⟨k1, k2, k3, k4⟩ := mu_upd st3 (st.trans s.ok st03) ow hj hia h2 (RepL.set n rv h3) (by rw [List.length_set]; exact ok3.z _ _ (.inl h2))
        exact q _ σ ((st03.kp s.ok).trans k1) k2 k3 k4
      · cases e
    · rename_i d dy sl k kk _
      split at e
      · rename_i l hg
        split at e <;> cases e
        rename_i n hn
        have rv : Rep X.K W3 d vv := Rep.mono s3 ok2 _ _ (Rep.mono s2 ok1 _ _ r1)
        obtain rfl : vi = .int k := vr_int r3
        obtain ⟨l', _, hg', hσ⟩ := r2
        obtain ⟨p, vs, hσ2, nf, ni, hp, rr⟩ := own_at gok3 hg
        rw [hσ] at hσ2
        cases hσ2
        refine ⟨p, vs, k, n, rfl, rfl, hp, by rw [← rr.length]; exact hn, ?_⟩
        obtain ⟨k1, k2, k3, k4⟩ := own_upd st3 (st.trans s.ok st03) ow hg hσ hp nf ni (RepL.set n rv rr) (by rw [List.length_set]; exact ok3.z _ _ (.inl hp))
        exact q _ σ ((st03.kp s.ok).trans k1) k2 k3 k4
      · cases e
    · cases e

/-! ### parallel assignment to plain locals -/
theorem VR.fromN {K : PySem.W.Frag} {W W' : Wr} {g g' : Slots} {σ σ' : L2.St} {d : D} {k : Kd} {v : V} (hb : isBo k = false) (h : VR K W W' g σ d k v) : VR K W W' g' σ' d k v := by
  cases k with
  | pl => exact h
  | fr => exact h
  | bo i => cases hb
def parF2 (i j : Nat) (fa fb : Slots → Mu → RE DK) : Slots → Mu → RE Fl := fun g μ => (fa g μ).bind fun x μ1 => (fb g μ1).bind fun y μ2 => if isBo x.2 || isBo y.2 then .no else .ok (.nx ((g.set i (slOf x)).set j (slOf y))) μ2
theorem ds_par2 {i j : Nat} {px py pt : Pos} {kt k2 pt2} (hc : X.calm = true) (hN : X.N.Nodup) (hi : X.N[i]? = some x) (hj : X.N[j]? = some y) (hij : i ≠ j)
    (hx : X.env.scope.names.lookup x = some .local) (hy : X.env.scope.names.lookup y = some .local) (ha : DE X a fa) (hb : DE X b fb)
    (hs1 : starEach [a, b] X.env = (false, eval a X.env) :: starEach [b] X.env) (hs2 : starEach [b] X.env = (false, eval b X.env) :: starEach [] X.env)
    (hw : swappedStores [.Tuple [.Name x px, .Name y py] kt pt] (.Tuple [a, b] k2 pt2) X.env = pure (some [x, y]))
    (hs : swapsWithSole [.Tuple [.Name x px, .Name y py] kt pt] (.Tuple [a, b] k2 pt2) pos.line X.env = pure false) :
    DS X (.Assign [.Tuple [.Name x px, .Name y py] kt pt] (.Tuple [a, b] k2 pt2) pos) (parF2 i j fa fb) :=
  PS.imp (ps_par hc hN hi hj hij hx hy (pa_cons ha (pa_cons hb pa_nil hs2) hs1) hw hs) fun D σ H ⟨W0, W, g, μ, fl, μ', s, st, ow, e, q⟩ => by
    obtain ⟨x, μ1, e1, e'⟩ := RE.bind_ok e
    clear e
    have e := e'
    clear e'
    obtain ⟨y, μ2, e2, e'⟩ := RE.bind_ok e
    clear e
    have e := e'
    clear e'
    split at e <;> cases e
    rename_i hbo
    simp only [Bool.or_eq_true, not_or, Bool.not_eq_true] at hbo
    refine ⟨W, g, μ, x.1, x.2, μ1, s, e1, fun W1 u s1 ok1 mu1 r1 => ?_⟩
    refine ⟨W1, g, μ1, y.1, y.2, _, s.step s1 ok1 mu1, e2, fun W2 v s2 ok2 mu2 r2 => ⟨u, v, rfl, ?_⟩⟩
    obtain ⟨g1, o1⟩ := store_slot (i := i) s.g s1 s.ok st ow hbo.1 r1
    obtain ⟨g2, o2⟩ := store_slot (i := j) g1 s2 ok1 (st.trans s.ok s1) o1 hbo.2 (r2.fromN hbo.2)
    have s12 := s1.trans ok1 s2
    exact q W2 _ (s12.kp s.ok) (st.trans s.ok s12) ⟨rfl, ok2, mu2, g2⟩ o2
def parF3 (i j l : Nat) (fa fb fc : Slots → Mu → RE DK) : Slots → Mu → RE Fl := fun g μ => (fa g μ).bind fun x μ1 => (fb g μ1).bind fun y μ2 => (fc g μ2).bind fun z μ3 => if isBo x.2 || isBo y.2 || isBo z.2 then .no else .ok (.nx (((g.set i (slOf x)).set j (slOf y)).set l (slOf z))) μ3
theorem ds_par3 {i j l : Nat} {z : Str} {px py pz pt : Pos} {kt k2 pt2} (hc : X.calm = true) (hN : X.N.Nodup) (hi : X.N[i]? = some x) (hj : X.N[j]? = some y) (hl : X.N[l]? = some z) (hij : i ≠ j) (hil : i ≠ l) (hjl : j ≠ l)
    (hx : X.env.scope.names.lookup x = some .local) (hy : X.env.scope.names.lookup y = some .local) (hz : X.env.scope.names.lookup z = some .local) (ha : DE X a fa) (hb : DE X b fb) (hcc : DE X c fc)
    (hs1 : starEach [a, b, c] X.env = (false, eval a X.env) :: starEach [b, c] X.env) (hs2 : starEach [b, c] X.env = (false, eval b X.env) :: starEach [c] X.env) (hs3 : starEach [c] X.env = (false, eval c X.env) :: starEach [] X.env)
    (hw : swappedStores [.Tuple [.Name x px, .Name y py, .Name z pz] kt pt] (.Tuple [a, b, c] k2 pt2) X.env = pure (some [x, y, z]))
    (hs : swapsWithSole [.Tuple [.Name x px, .Name y py, .Name z pz] kt pt] (.Tuple [a, b, c] k2 pt2) pos.line X.env = pure false) :
    DS X (.Assign [.Tuple [.Name x px, .Name y py, .Name z pz] kt pt] (.Tuple [a, b, c] k2 pt2) pos) (parF3 i j l fa fb fc) :=
  PS.imp (ps_par3 hc hN hi hj hl hij hil hjl hx hy hz (pa_cons ha (pa_cons hb (pa_cons hcc pa_nil hs3) hs2) hs1) hw hs) fun D σ H ⟨W0, W, g, μ, fl, μ', s, st, ow, e, q⟩ => by
    obtain ⟨x, μ1, e1, e'⟩ := RE.bind_ok e
    clear e
    have e := e'
    clear e'
    obtain ⟨y, μ2, e2, e'⟩ := RE.bind_ok e
    clear e
    have e := e'
    clear e'
    obtain ⟨z, μ3, e3, e'⟩ := RE.bind_ok e
    clear e
    have e := e'
    clear e'
    split at e <;> cases e
    rename_i hbo
    simp only [Bool.or_eq_true, not_or, Bool.not_eq_true] at hbo
    refine ⟨W, g, μ, x.1, x.2, μ1, s, e1, fun W1 u s1 ok1 mu1 r1 => ?_⟩
    refine ⟨W1, g, μ1, y.1, y.2, μ2, s.step s1 ok1 mu1, e2, fun W2 v s2 ok2 mu2 r2 => ?_⟩
    refine ⟨W2, g, μ2, z.1, z.2, _, (s.step s1 ok1 mu1).step s2 ok2 mu2, e3, fun W3 w s3 ok3 mu3 r3 => ⟨u, v, w, rfl, ?_⟩⟩
    obtain ⟨g1, o1⟩ := store_slot (i := i) s.g s1 s.ok st ow hbo.1.1 r1
    obtain ⟨g2, o2⟩ := store_slot (i := j) g1 s2 ok1 (st.trans s.ok s1) o1 hbo.1.2 (r2.fromN hbo.1.2)
    have s12 := s1.trans ok1 s2
    obtain ⟨g3, o3⟩ := store_slot (i := l) g2 s3 ok2 (st.trans s.ok s12) o2 hbo.2 (r3.fromN hbo.2)
    have s13 := s12.trans ok2 s3
    exact q W3 _ (s13.kp s.ok) (st.trans s.ok s13) ⟨rfl, ok3, mu3, g3⟩ o3

/-! ### a new list as a changeable thing -/
theorem de_newMut (ha : DE X a fa) : DE X a fun g μ => (fa g μ).bind fun x μ1 => match x with | (.lst l, .fr) => .ok (.mut μ1.length, .pl) (μ1 ++ [l]) | _ => .no :=
  PE.imp ha fun σ H Q ⟨W, g, μ, d, k, μ', s, e, q⟩ => by
    obtain ⟨x, μ1, e1, e'⟩ := RE.bind_ok e
    clear e
    have e := e'
    clear e'
    refine ⟨W, g, μ, x.1, x.2, μ1, s, e1, fun W1 v s1 ok1 mu1 r1 => ?_⟩
    split at e <;> cases e
    rename_i l
    obtain ⟨p, vs, l', e1, rfl, n, nf, ni, hp, rr⟩ := r1
    cases e1
    generalize hW2 : ({ W1 with ι := W1.ι ++ [p] } : Wr) = W2
    have hF : W2.F = W1.F := by rw [← hW2]
    have hH : W2.H = W1.H := by rw [← hW2]
    have hI : W2.ι = W1.ι ++ [p] := by rw [← hW2]
    have kp : Kp W1 W2 := ⟨fun a h => by rw [hF]; exact h, fun a o _ h => by rw [hH]; exact h, ⟨[p], hI⟩⟩
    rw [← hH]
    refine q W2 _ ⟨fun a h => by rw [hF]; exact s1.f a h, fun a o h hn => by rw [hH]; exact s1.h a o h hn, fun a h => s1.g a (by rw [← hF]; exact h), ?_⟩ ?_ ?_ (.mut ?_)
    · obtain ⟨r, e, hr⟩ := s1.p
      refine ⟨r ++ [p], by rw [hI, e, List.append_assoc], fun a ha => ?_⟩
      rcases List.mem_append.mp ha with z | z
      · exact hr a z
      · rw [List.mem_singleton.mp z]; exact n
    · refine ⟨fun a h => by rw [hH]; exact ok1.f a (by rw [← hF]; exact h), fun a h => ?_, ?_, by rw [hH]; exact ok1.z⟩
      · rw [hI] at h
        rw [hF, hH]
        rcases List.mem_append.mp h with z | z
        · exact ok1.i a z
        · rw [List.mem_singleton.mp z]; exact ⟨nf, vs, hp⟩
      · rw [hI]
        refine List.nodup_append.mpr ⟨ok1.nd, by simp, fun a ha b hb => ?_⟩
        rw [List.mem_singleton.mp hb]
        intro z
        exact ni (z ▸ ha)
    · refine ⟨by rw [hI, List.length_append, List.length_append, mu1.len]; rfl, fun i m e => ?_⟩
      by_cases hi : i < μ1.length
      · rw [List.getElem?_append_left hi] at e
        obtain ⟨a, us, h1, h2, h3⟩ := mu1.at_ i m e
        exact ⟨a, us, by rw [hI, List.getElem?_append_left (by rw [← mu1.len]; exact hi)]; exact h1, by rw [hH]; exact h2, RepL.kp kp _ _ h3⟩
      · rw [List.getElem?_append_right (by omega)] at e
        have hi0 : i - μ1.length = 0 := by
          by_cases z : i - μ1.length = 0
          · exact z
          · rw [List.getElem?_eq_none (by simp; omega)] at e; cases e
        rw [hi0] at e
        cases e
        have : i = μ1.length := by omega
        subst this
        exact ⟨p, vs, by rw [hI, mu1.len, List.getElem?_append_right (Nat.le_refl _)]; simp, by rw [hH]; exact hp, RepL.kp kp _ _ rr⟩
    · rw [hI, mu1.len, List.getElem?_append_right (Nat.le_refl _)]; simp

/-! ### match over texts -/
inductive PatV : List Str → List Pattern → Prop
  | nil : PatV [] []
  | cons {z : Str} {zs : List Str} {ps : List Pattern} {j} {p pos : Pos} : PatV zs ps → PatV (z :: zs) (.MatchValue (.Constant (.str z) j p) pos :: ps)
inductive PatS : List Str → Pattern → Prop
  | one {z : Str} {j} {p pos : Pos} : PatS [z] (.MatchValue (.Constant (.str z) j p) pos)
  | or {zs : List Str} {ps : List Pattern} {pos : Pos} : PatV zs ps → PatS zs (.MatchOr ps pos)
theorem pat_val {z y : Str} {j} {p1 pos1 : Pos} {pins : List (Addr × Obj)} {σ : L2.St} {H : Hp} {s : Shared} {t : Tok} {Q : Option (List (Str × Value)) → Shared → Prop} (I : Inv X pins σ H s)
    (h : ∀ s', Inv X pins σ H s' → Q (if z = y then some [] else none) s') : wpAny (model X.prog X.w) X.A (matchPattern (.MatchValue (.Constant (.str y) j p1) pos1) X.env (.str z t)) Q X.xe s := by
  refine wpAny_matchPattern_Value (thn (pe_str.run pins s σ H (fun v H' => v = .str y ∧ H' = H) I ⟨rfl, rfl⟩) fun v s1 ⟨x, H1, I1, r1, e1, e2⟩ => ?_)
  subst e1 e2
  refine thn (op_eq pins s1 σ _ (.str z) (.str y) _ v (fun v H' => v = .bl (decide (V.str z = V.str y)) ∧ H' = H1) I1 ⟨t, rfl⟩ r1 ⟨rfl, rfl, rfl⟩) fun c s2 ⟨x2, H2, I2, r2, e1, e2⟩ => ?_
  subst e1 e2
  cases (show c = Value.bool _ from r2)
  refine wpAny_truthy_bool ?_
  have := h s2 I2
  by_cases e : z = y
  · subst e; simpa using this
  · simpa [e] using this
theorem pat_first {z : Str} {pins : List (Addr × Obj)} {σ : L2.St} {H : Hp} {t : Tok} {Q : Option (List (Str × Value)) → Shared → Prop} : ∀ {zs : List Str} {ps : List Pattern} {s : Shared}, PatV zs ps → Inv X pins σ H s →
    (∀ s', Inv X pins σ H s' → Q (if zs.contains z then some [] else none) s') → wpAny (model X.prog X.w) X.A (matchFirst ps X.env (.str z t)) Q X.xe s
  | _, _, s, .nil, I, h => wpAny_matchFirst_nil (h s I)
  | _, _, s, .cons (z := y) (zs := zs) r, I, h => by
    refine wpAny_matchFirst_cons (pat_val I fun s' I' => ?_)
    by_cases e : z = y
    · subst e
      rw [if_pos rfl]
      have := h s' I'
      simpa using this
    · rw [if_neg e]
      refine pat_first r I' fun s2 I2 => ?_
      have := h s2 I2
      simpa [e] using this
theorem pat_str {z : Str} {pins : List (Addr × Obj)} {σ : L2.St} {H : Hp} {t : Tok} {Q : Option (List (Str × Value)) → Shared → Prop} {zs : List Str} {pt : Pattern} {s : Shared} (hp : PatS zs pt) (I : Inv X pins σ H s)
    (h : ∀ s', Inv X pins σ H s' → Q (if zs.contains z then some [] else none) s') : wpAny (model X.prog X.w) X.A (matchPattern pt X.env (.str z t)) Q X.xe s := by
  cases hp with
  | @one y j p1 pos1 =>
    refine pat_val I fun s' I' => ?_
    have := h s' I'
    by_cases e : z = y
    · subst e; simpa using this
    · simpa [e] using this
  | or r =>
    refine wpAny_matchPattern_Or (pat_first r I fun s' I' => ?_)
    have := h s' I'
    by_cases e : zs.contains z = true
    · rw [if_pos e] at this
      rw [if_pos e]
      cases r with
      | nil => exact this
      | cons _ => exact this
    · rw [if_neg e] at this
      rw [if_neg e]
      exact this
/-- the cases: the texts, the body's reading -/
inductive Cas (X : Cx) : List (List Str × (Slots → Mu → RE Fl)) → List MatchCase → Prop
  | nil : Cas X [] []
  | cons {zs : List Str} {pt : Pattern} {body : List Stmt} {f : Slots → Mu → RE Fl} {cs : List (List Str × (Slots → Mu → RE Fl))} {ms : List MatchCase} : PatS zs pt → DSs X body f → Cas X cs ms → Cas X ((zs, f) :: cs) (⟨pt, none, body⟩ :: ms)
def casF (z : Str) : List (List Str × (Slots → Mu → RE Fl)) → Slots → Mu → RE Fl
  | [], g, μ => .ok (.nx g) μ
  | (zs, f) :: r, g, μ => if zs.contains z then f g μ else casF z r g μ
theorem cas_run {z : Str} {t : Tok} {pins : List (Addr × Obj)} {D : Ends} {σ : L2.St} {H : Hp} : ∀ {cs : List (List Str × (Slots → Mu → RE Fl))} {ms : List MatchCase} {s : Shared} {first : Bool}, Cas X cs ms → Inv X pins σ H s →
    tEx X.K (casF z cs) D σ H → wpAny (model X.prog X.w) X.A (matchCases ms X.env (.str z t) first) (SP X pins D) X.xe s
  | _, _, s, first, .nil, I, ⟨W0, W, g, μ, fl, μ', sta, st, ow, e, q⟩ => by
    cases e
    refine wpAny_matchCases_nil ⟨σ, H, I, ?_⟩
    rw [← sta.h]
    exact q W σ .refl st ⟨rfl, sta.ok, sta.mu, sta.g⟩ ow
  | _, _, s, first, .cons (zs := zs) hp hb r, I, ⟨W0, W, g, μ, fl, μ', sta, st, ow, e, q⟩ => by
    unfold casF at e
    refine wpAny_matchCases_cons (pat_str hp I fun s' I' => ?_)
    by_cases hz : zs.contains z = true
    · rw [if_pos hz] at e
      rw [if_pos hz]
      exact wpAny_assignInOrder_none (hb.run pins s' σ H D I' ⟨W0, W, g, μ, fl, μ', sta, st, ow, e, q⟩)
    · rw [if_neg hz] at e
      rw [if_neg hz]
      exact cas_run r I' ⟨W0, W, g, μ, fl, μ', sta, st, ow, e, q⟩
theorem ds_match {cs : List (List Str × (Slots → Mu → RE Fl))} {ms : List MatchCase} (he : DE X e fe) (hm : Cas X cs ms) :
    DS X (.Match e ms pos) fun g μ => (fe g μ).bind fun x μ1 => match x.1 with | .str z => casF z cs g μ1 | _ => .no := by
  refine ⟨fun pins s σ H D I ⟨W0, W, g, μ, fl, μ', sta, st, ow, e, q⟩ => ?_⟩
  obtain ⟨x, μ1, e1, e'⟩ := RE.bind_ok e
  clear e
  have e := e'
  clear e'
  refine wpAny_Match (thn (he.run pins s σ H (fun v H' => ∃ z W1, x.1 = .str z ∧ v = .str z ∧ W1.H = H' ∧ Stp W W1 ∧ Wok W1 ∧ MuOk X.K W1 μ1) I ⟨W, g, μ, x.1, x.2, μ1, sta, e1, fun W1 v s1 ok1 mu1 r1 => ?_⟩) fun v s1 ⟨y, H1, I1, r1, z, W1, ex, ey, eH, s2, ok2, mu2⟩ => ?_)
  · split at e
    · rename_i z hz
      have := r1.rd (sta.g.mono s1 sta.ok)
      rw [hz] at this
      exact ⟨z, W1, hz, rd_str this, rfl, s1, ok1, mu1⟩
    · cases e
  · subst ey eH
    rw [ex] at e
    obtain ⟨t, rfl⟩ := r1
    exact cas_run hm I1 ⟨W0, W1, g, μ1, fl, μ', sta.step s2 ok2 mu2, st.trans sta.ok s2, ow, e, q.kp (s2.kp sta.ok)⟩
end
end NT

set_option Elab.async false
set_option linter.all false
set_option maxRecDepth 100000
set_option maxHeartbeats 1000000
set_option autoImplicit false
/-! The rules in the small language's own words; a def keeps its promise. -/
namespace NT
open PySem PySem.Spec PyProof.Rows L2

/-- a def under its name -/
structure NtDef (P : Program) (w : World) (K : PySem.W.Frag) (mg : Str → Option Value) (base : Heap) (C : Cs) (k : Nat) (x : Str) (i n : Nat) : Prop where
  ex : ∃ (fA : Addr) (fd : FuncData) (ps : List Str), FnOk P w K mg base CX0 k fA fd ps (spD K C i n) ∧ mg x = some (.ref fA) ∧ PySem.W.keepIn K (.ref fA) = true ∧ Binds K fd ps []
  len : ∀ ds μ r μ', C i ds μ = .ok r μ' → ds.length = n

theorem evs_len {C : Cs} : ∀ {l : List E} {g : Slots} {μ μ' : Mu} {xs : List DK}, evs C l g μ = .ok xs μ' → xs.length = l.length
  | [], _, _, _, _, h => by simp only [evs] at h; cases h; rfl
  | e :: es, g, μ, μ', xs, h => by
    simp only [evs] at h
    obtain ⟨x, μ1, e1, h⟩ := RE.bind_ok h
    obtain ⟨ys, μ2, e2, h⟩ := RE.bind_ok h
    cases h
    simp [evs_len e2]

section
variable {X : Cx} {C : Cs} {e a b c o tg : Expr} {es : List Expr} {i ia ib ic io : E} {is : List E} {pos p p2 apos : Pos} {x y : Str}
theorem x_var {j : Nat} (hN : X.N[j]? = some x) (hv : Vis X.env.scope x) (hd : (x == ("__debug__" : Str)) = false := by decide) (hcd : (x == ("__classdict__" : Str)) = false := by decide) : DE X (.Name x pos) (ev C (.var j)) := de_var hN hv hd hcd
theorem x_non {j} : DE X (.Constant .none j pos) (ev C (.c .non)) := de_c pe_non fun _ _ => .non
theorem x_bl {v : Bool} {j} : DE X (.Constant (.bool v) j pos) (ev C (.c (.bl v))) := de_c pe_bl fun _ _ => .bl v
theorem x_int {v : Int} {j} : DE X (.Constant (.int v) j pos) (ev C (.c (.int v))) := de_c pe_int fun _ _ => .int v
theorem x_str {v : Str} {j} (h : decide (v.length ≤ 16777216) = true := by decide) : DE X (.Constant (.str v) j pos) (ev C (.c (.str v))) := de_c pe_str fun _ _ => .str v (of_decide_eq_true h)
theorem x_gstr {v : Str} (hg : Gl X x) (hm : ∃ t, X.mg x = some (.str v t)) (h : decide (v.length ≤ 16777216) = true := by decide) (hd : (x == ("__debug__" : Str)) = false := by decide) : DE X (.Name x pos) (ev C (.c (.str v))) := by
  obtain ⟨t, hm⟩ := hm
  exact de_c (pe_glob (v := .str v) hg hm ⟨t, rfl⟩ hd) fun _ _ => .str v (of_decide_eq_true h)
theorem x_gint {v : Int} (hg : Gl X x) (hm : ∃ t, X.mg x = some (.int v t)) (hd : (x == ("__debug__" : Str)) = false := by decide) : DE X (.Name x pos) (ev C (.c (.int v))) := by
  obtain ⟨t, hm⟩ := hm
  exact de_c (pe_glob (v := .int v) hg hm ⟨t, rfl⟩ hd) fun _ _ => .int v
/-- a new dict -/
def Wr.dic (W : Wr) (p : Addr) : Wr := { W with F := fun a => W.F a ∨ a = p, H := upd W.H p (.dK []) }
theorem x_dnew : DE X (.Dict [] [] pos) (ev C (.c (.dct []))) := PE.imp pe_dnewK fun σ H Q ⟨W, g, μ, d, k, μ', s, e, q⟩ => by
  simp only [ev] at e
  cases e
  intro p n
  rw [← s.h] at n ⊢
  have gw : Grw W (W.dic p) := ⟨fun _ h => .inl h, upd_keep n, fun a h => by
    rcases h with h | h
    · exact .inl h
    · subst h; exact .inr n, rfl⟩
  refine q (W.dic p) _ gw.stp ⟨fun a h => ?_, fun a h => ⟨fun z => ?_, let ⟨xs, e⟩ := (s.ok.i a h).2; ⟨xs, upd_keep n a _ e⟩⟩, s.ok.nd, upd_len s.ok.z fun us h => ?_⟩ (s.mu.grw gw s.ok) (.dct0 (.inr rfl) upd_same)
  · rcases h with h | h
    · obtain ⟨o, e⟩ := s.ok.f a h; exact ⟨o, upd_keep n a o e⟩
    · subst h; exact ⟨_, upd_same⟩
  · rcases z with z | z
    · exact (s.ok.i a h).1 z
    · subst z; exact s.ok.iNone n h
  · rcases h with h | h <;> cases h
theorem x_bin {op : Operator} (ha : DE X a (ev C ia)) (hb : DE X b (ev C ib)) : DE X (.BinOp a op b pos) (ev C (.bin op ia ib)) := de_bin ha hb
theorem x_neg (ha : DE X a (ev C ia)) : DE X (.UnaryOp .USub a pos) (ev C (.neg ia)) := de_neg ha
theorem x_not (ha : DE X a (ev C ia)) : DE X (.UnaryOp .Not a pos) (ev C (.not ia)) := de_not ha
theorem x_and {rest : List Expr} (ha : DE X a (ev C ia)) (hb : DE X (.BoolOp .And (b :: rest) pos) (ev C ib)) : DE X (.BoolOp .And (a :: b :: rest) pos) (ev C (.and ia ib)) := de_and ha hb
theorem x_or {rest : List Expr} (ha : DE X a (ev C ia)) (hb : DE X (.BoolOp .Or (b :: rest) pos) (ev C ib)) : DE X (.BoolOp .Or (a :: b :: rest) pos) (ev C (.or ia ib)) := de_or ha hb
theorem x_one {op : BoolOp} (ha : DE X a (ev C ia)) : DE X (.BoolOp op [a] pos) (ev C ia) := de_one ha
theorem x_cmp {op : CmpOp} {k : Nat} (hr : Room k X.A) (ha : DE X a (ev C ia)) (hb : DE X b (ev C ib)) (hm : behindInMarks op b = false := by rfl) : DE X (.Compare a [op] [b] pos) (ev C (.cmp op ia ib)) :=
  de_cmp (by have := hr.un; omega) ha hb hm
theorem x_cmp2 {o1 o2 : CmpOp} {k : Nat} (hr : Room k X.A) (ha : DE X a (ev C ia)) (hb : DE X b (ev C ib)) (hc : DE X c (ev C ic)) (hm : lastMarks [o1, o2] [b, c] = false := by rfl) : DE X (.Compare a [o1, o2] [b, c] pos) (ev C (.cmp2 o1 o2 ia ib ic)) :=
  de_cmp2 (by have := hr.un; omega) ha hb hc hm
theorem x_ite (ht : DT X c (tstV (ev C ic))) (ha : DE X a (ev C ia)) (hb : DE X b (ev C ib)) : DE X (.IfExp c a b pos) (ev C (.ite ic ia ib)) := de_ite ht ha hb
theorem xa_nil : DA X [] (evs C []) := da_nil
theorem xa_cons (h : DE X e (ev C i)) (r : DA X es (evs C is)) (hs : starEach (e :: es) X.env = (false, eval e X.env) :: starEach es X.env := by rfl) : DA X (e :: es) (evs C (i :: is)) := da_cons h r hs
theorem x_tup {k : Nat} (h : DA X es (evs C is)) : DE X (.Tuple es k pos) (ev C (.tup is)) := de_tup h
theorem x_lst (h : DA X es (evs C is)) : DE X (.List es pos) (ev C (.lst is)) := de_lst h
theorem x_idx (ha : DE X a (ev C ia)) (hb : DE X b (ev C ib)) (hs : PlainIx b := by intro _ _; rfl) : DE X (.Subscript a b pos) (ev C (.idx ia ib)) := de_idx ha hb hs
theorem xo_none : DO X none (evo C none) := do_none
theorem xo_some (h : DE X e (ev C i)) : DO X (some e) (evo C (some i)) := do_some h
theorem x_cut {lo hi : Option Expr} {il ih : Option E} (ha : DE X a (ev C ia)) (hl : DO X lo (evo C il)) (hh : DO X hi (evo C ih)) : DE X (.Subscript a (.Slice lo hi none p2) pos) (ev C (.cut ia il ih)) := de_cut ha hl hh

/-! tests -/
theorem xt_val (h : DE X e (ev C i)) (he : ∀ whole, isTrue e X.env whole = (do let v ← whole; standAt e.pos; holding [v] (truthy v)) := by intros; rfl) : DT X e (tstV (ev C i)) := dt_val h he
theorem xt_cmp {op : CmpOp} {k : Nat} (hr : Room k X.A) (ha : DE X a (ev C ia)) (hb : DE X b (ev C ib)) (hm : behindInMarks op b = false := by rfl) : DT X (.Compare a [op] [b] pos) (tstV (ev C (.cmp op ia ib))) :=
  dt_cmp (by have := hr.un; omega) ha hb hm
theorem xt_cmp2 {o1 o2 : CmpOp} {k : Nat} (hr : Room k X.A) (ha : DE X a (ev C ia)) (hb : DE X b (ev C ib)) (hc : DE X c (ev C ic)) (hm : lastMarks [o1, o2] [b, c] = false := by rfl) : DT X (.Compare a [o1, o2] [b, c] pos) (tstV (ev C (.cmp2 o1 o2 ia ib ic))) :=
  dt_cmp2 (by have := hr.un; omega) ha hb hc hm
theorem xt_not (ha : DT X a (tstV (ev C ia))) : DT X (.UnaryOp .Not a pos) (tstV (ev C (.not ia))) := dt_not ha
theorem xw_and1 (ha : DT X a (tstV (ev C ia))) : DW X (.BoolOp .And [a] pos) (tstV (ev C ia)) := dw_and1 ha
theorem xw_or1 (ha : DT X a (tstV (ev C ia))) : DW X (.BoolOp .Or [a] pos) (tstV (ev C ia)) := dw_or1 ha
theorem xw_and {rest : List Expr} (ha : DT X a (tstV (ev C ia))) (hb : DW X (.BoolOp .And (b :: rest) pos) (tstV (ev C ib))) : DW X (.BoolOp .And (a :: b :: rest) pos) (tstV (ev C (.and ia ib))) := dw_and ha hb
theorem xw_or {rest : List Expr} (ha : DT X a (tstV (ev C ia))) (hb : DW X (.BoolOp .Or (b :: rest) pos) (tstV (ev C ib))) : DW X (.BoolOp .Or (a :: b :: rest) pos) (tstV (ev C (.or ia ib))) := dw_or ha hb
theorem xt_w (h : DW X e (tstV (ev C i))) : DT X e (tstV (ev C i)) := dt_w h

/-! calls -/
theorem x_call {k f n : Nat} (c : NtDef X.prog X.w X.K X.mg X.base C k x f n) (hr : Room k X.A) (ha : DA X (e :: es) (evs C is)) (hg : Gl X x := by exact rfl) (hdb : (x == ("__debug__" : Str)) = false := by decide)
    (he : starEach (e :: es) X.env = (false, eval e X.env) :: starEach es X.env := by rfl) (hpl : (backTo pos (starEach es X.env)).any (·.1) = false := by rfl) : DE X (.Call (.Name x p) (e :: es) [] pos) (ev C (.call f is)) := by
  obtain ⟨fA, fd, ps, F, hm, hk, hb⟩ := c.ex
  exact de_call F hr hg hm hk hb c.len ha hdb he hpl
theorem x_biB {f : BI} {id : String} (hc : CallR X (.builtin id) (rBi X.K (biD f))) (hv : bootBuiltins x = some (.builtin id)) (hm : X.mg x = none) (ha : DA X (e :: es) (evs C is)) (hg : Gl X x := by exact rfl) (hn : x ≠ "__name__" := by decide) (hdb : (x == ("__debug__" : Str)) = false := by decide)
    (he : starEach (e :: es) X.env = (false, eval e X.env) :: starEach es X.env := by rfl) (hpl : (backTo pos (starEach es X.env)).any (·.1) = false := by rfl) : DE X (.Call (.Name x p) (e :: es) [] pos) (ev C (.bi f is)) := de_biB hc hg hm hv ha hn hdb he hpl
theorem x_biT {f : BI} {T : String} (hc : CallR X (.type T) (rBi X.K (biD f))) (hv : bootBuiltins x = some (.type T)) (hm : X.mg x = none) (ha : DA X (e :: es) (evs C is)) (hg : Gl X x := by exact rfl) (hn : x ≠ "__name__" := by decide) (hdb : (x == ("__debug__" : Str)) = false := by decide)
    (he : starEach (e :: es) X.env = (false, eval e X.env) :: starEach es X.env := by rfl) (hpl : (backTo pos (starEach es X.env)).any (·.1) = false := by rfl) : DE X (.Call (.Name x p) (e :: es) [] pos) (ev C (.bi f is)) := de_biT hc hg hm hv ha hn hdb he hpl
theorem bb_len : bootBuiltins "len" = some (.builtin "len") := by decide +kernel
theorem bb_abs : bootBuiltins "abs" = some (.builtin "abs") := by decide +kernel
theorem bb_max : bootBuiltins "max" = some (.builtin "max") := by decide +kernel
theorem bb_min : bootBuiltins "min" = some (.builtin "min") := by decide +kernel
theorem bb_sorted : bootBuiltins "sorted" = some (.builtin "sorted") := by decide +kernel
theorem bb_all : bootBuiltins "all" = some (.builtin "all") := by decide +kernel
theorem bb_any : bootBuiltins "any" = some (.builtin "any") := by decide +kernel
theorem bb_repr : bootBuiltins "repr" = some (.builtin "repr") := by decide +kernel
theorem bb_int : bootBuiltins "int" = some (.type "int") := by decide +kernel
theorem bb_list : bootBuiltins "list" = some (.type "list") := by decide +kernel
theorem bb_tuple : bootBuiltins "tuple" = some (.type "tuple") := by decide +kernel
theorem cb_sortedR {k : Nat} (hr : Room k X.A) : CallR X (.builtin "sorted") (rBi X.K (biD .sorted)) := cb_sorted (by have := hr.un; omega)
theorem x_isi {T : Str} (t : Ty) (hm : X.mg "isinstance" = none) (hmT : X.mg T = none) (he : DE X e (ev C i)) (hT : T = t.nm := by rfl) (hg : Gl X "isinstance" := by exact rfl) (hgT : Gl X T := by exact rfl)
    (hs1 : starEach [e, .Name T p2] X.env = (false, eval e X.env) :: starEach [.Name T p2] X.env := by rfl) (hpl : (backTo pos (starEach [.Name T p2] X.env)).any (·.1) = false := by rfl) :
    DE X (.Call (.Name "isinstance" p) [e, .Name T p2] [] pos) (ev C (.bi (.isi t) [i])) := PE.imp (de_isi rfl hg hm hT hgT hmT he hs1 hpl) fun σ H Q ⟨W, g, μ, d, k, μ', s, e, q⟩ => by
  refine ⟨W, g, μ, d, k, μ', s, ?_, q⟩
  simp only [ev, evs] at e
  obtain ⟨xs, μ1, e1, e⟩ := RE.bind_ok e
  obtain ⟨y, μ2, e2, e3⟩ := RE.bind_ok e1
  cases e3
  show (ev C i g μ).bind _ = _
  rw [e2]
  exact e
theorem x_join {nm : Str} (ho : DE X o (ev C io)) (ha : DA X [e] (evs C [i])) (hn : nm = "join" := by rfl)
    (hbase : attributeBase o nm X.env (eval o X.env) = eval o X.env := by rfl)
    (hfew : ((backTo pos (starEach [e] X.env)).all (fun x => !x.1) && (backToKw pos (keywordEach [] X.env)).all (fun x => x.1.isSome)
      && decide (([e] : List Expr).length + ([] : List Keyword).length + (if ([] : List Keyword).isEmpty then 0 else 1) < 30)) = true := by rfl)
    (hline : (apos.endLine == pos.line) = true := by rfl) (hs : starEach [e] X.env = (false, eval e X.env) :: starEach [] X.env := by rfl) (hplain : (backTo pos (starEach [] X.env)).any (·.1) = false := by rfl) :
    DE X (.Call (.Attribute o nm apos) [e] [] pos) (ev C (.mi .join io [i])) := de_join hn ho ha hbase hfew hline hs hplain
theorem x_newMut (ha : DE X a (ev C ia)) : DE X a (ev C (.newMut ia)) := de_newMut ha

/-! what is walked, comprehensions -/
theorem xi_seq (h : DE X e (ev C i)) : DI X tg e .seq (evs C [i]) := di_seq h
theorem xi_en {elts : List Expr} {kk : Nat} {tpos : Pos} (hm : X.mg "enumerate" = none) (ha : DE X e (ev C i)) (hg : Gl X "enumerate" := by exact rfl) (hs : starEach [e] X.env = [(false, eval e X.env)] := by rfl) :
    DI X (.Tuple elts kk tpos) (.Call (.Name "enumerate" p) [e] [] pos) .enum (evs C [i]) := di_en rfl hg hm (xa_cons ha xa_nil hs) hs
theorem xi_zp {elts : List Expr} {kk : Nat} {tpos : Pos} (hm : X.mg "zip" = none) (ha : DE X a (ev C ia)) (hb : DE X b (ev C ib)) (hg : Gl X "zip" := by exact rfl) (hs : starEach [a, b] X.env = (false, eval a X.env) :: starEach [b] X.env := by rfl) (hs2 : starEach [b] X.env = (false, eval b X.env) :: starEach [] X.env := by rfl)
    (hpl : (backTo pos (starEach [b] X.env)).any (·.1) = false := by rfl) : DI X (.Tuple elts kk tpos) (.Call (.Name "zip" p) [a, b] [] pos) .zip (evs C [ia, ib]) := di_zp rfl hg hm (xa_cons ha (xa_cons hb xa_nil hs2) hs) hs hpl
theorem xi_r1 (hm : X.mg "range" = none) (ha : DE X a (ev C ia)) (hg : Gl X "range" := by exact rfl) (hs : starEach [a] X.env = [(false, eval a X.env)] := by rfl) : DI X tg (.Call (.Name "range" p) [a] [] pos) .range (evs C [ia]) :=
  di_r1 rfl hg hm (xa_cons ha xa_nil hs) hs fun _ _ _ _ h => evs_len h
theorem xi_r2 (hm : X.mg "range" = none) (ha : DE X a (ev C ia)) (hb : DE X b (ev C ib)) (hg : Gl X "range" := by exact rfl) (hs : starEach [a, b] X.env = [(false, eval a X.env), (false, eval b X.env)] := by rfl) (hs2 : starEach [b] X.env = [(false, eval b X.env)] := by rfl) :
    DI X tg (.Call (.Name "range" p) [a, b] [] pos) .range (evs C [ia, ib]) := di_r2 rfl hg hm (xa_cons ha (xa_cons hb xa_nil hs2) (by rw [hs, hs2])) hs hs2 fun _ _ _ _ h => evs_len h
theorem xp_none : PTs X [] (TTv X.K fun g μ => evc C none g μ) := ⟨fun pins s σ H Q I q => pts_nil.run pins s σ H Q I (by
  obtain ⟨W, g, μ, b, μ', s, e, q⟩ := q
  simp only [evc] at e
  cases e
  show Q true H
  rw [← s.h]
  exact q W .refl s.ok s.mu)⟩
theorem xp_one (h : DT X c (tstV (ev C ic))) : PTs X [c] (TTv X.K fun g μ => evc C (some ic) g μ) := pts_one h
theorem xg_name {j : Nat} (hN : X.N.Nodup) (hi : X.N[j]? = some x) (hx : Loc X.env.scope x := by first | exact Or.inl rfl | exact Or.inr rfl) (hf : X.fn x = true ∨ X.env.scope.names.lookup x = some .local := by first | exact .inl rfl | exact .inr rfl) : PG X (.Name x pos) (gOf X.K (.name j)) := dg_name hN hi hx hf
theorem xgs_nil : PGs X [] (gNs []) := pgs_nil
theorem xgs_cons {j : Nat} {js : List Nat} (hN : X.N.Nodup) (hi : X.N[j]? = some x) (r : PGs X es (gNs js)) (hx : Loc X.env.scope x := by first | exact Or.inl rfl | exact Or.inr rfl) (hf : X.fn x = true ∨ X.env.scope.names.lookup x = some .local := by first | exact .inl rfl | exact .inr rfl)
    (hs : (assignEach (.Name x pos :: es) X.env).map (·.2) = assign (.Name x pos) X.env :: (assignEach es X.env).map (·.2) := by rfl) : PGs X (.Name x pos :: es) (gNs (j :: js)) := pgs_cons (dg_name hN hi hx hf) r hs
theorem xg_tup {k : Nat} {js : List Nat} (h : PGs X es (gNs js)) (hc : X.calm = true := by rfl) (hn : (assignEach es X.env).length = js.length := by rfl) (hst : (assignEach es X.env).findIdx? (·.1) = none := by rfl) : PG X (.Tuple es k pos) (gOf X.K (.tup js)) := dg_tup hc h hn hst
theorem x_lc {elt iter : Expr} {ifs : List Expr} {scope : Scope} (own : List (Str × Nat)) {k : IK} {src : List E} {t : TgT} {cond : Option E} {el : E} {os : List Nat} (hN : X.N.Nodup) (ok : BlkOk X.N X.env.scope scope own) (hi : DI X tg iter k (evs C src))
    (hg : ∀ (s : Shared) (H : Hp) (C' : Addr) (cl : List (Str × Addr)) (fp : List Addr), PG (X.blk s H scope (compEnvC scope cl C' X.env) fp) tg (gOf X.K t))
    (hts : ∀ (s : Shared) (H : Hp) (C' : Addr) (cl : List (Str × Addr)) (fp : List Addr), PTs (X.blk s H scope (compEnvC scope cl C' X.env) fp) ifs (TTv X.K fun g μ => evc C cond g μ))
    (he : ∀ (s : Shared) (H : Hp) (C' : Addr) (cl : List (Str × Addr)) (fp : List Addr), DE (X.blk s H scope (compEnvC scope cl C' X.env) fp) elt (ev C el))
    (hos : own.map (·.2) = os := by rfl) (ht : t.slots.all (os.contains ·) = true := by rfl) (hc : X.calm = true := by rfl) (hs : ∀ x, foldedSetIterable iter X.env x = pure x := by intro _; rfl) : DE X (.ListComp elt [⟨tg, iter, ifs, 0⟩] scope pos) (ev C (.lc os k src t cond el)) := by
  subst hos
  exact de_lc hc hN hi ok (fun i hi => by simpa using (List.all_eq_true.mp ht i hi)) hg hts he hs
/-! statements -/
theorem xs_nil : DSs X [] (exes C []) := ds_nil
theorem xs_cons {st : Stmt} {rest : List Stmt} {s : S} {ss : List S} (h : DS X st (exe C s)) (r : DSs X rest (exes C ss)) : DSs X (st :: rest) (exes C (s :: ss)) := ds_cons h r
theorem xs_frz {sts : List Stmt} {j : Nat} {ss : List S} (h : DSs X sts (exes C ss)) : DSs X sts (exes C (.frz j :: ss)) := ds_frz h
theorem xs_pass : DS X (.Pass pos) (exe C .pass) := ds_pass
theorem xs_never {st : Stmt} : DS X st (exe C .never) := ds_never
theorem xs_expr (he : DE X e (ev C i)) (hs : swapsWith e none pos.line X.env = pure false := by rfl) : DS X (.Expr e pos) (exe C (.expr i)) := ds_expr he hs
theorem xs_ret (he : DE X e (ev C i)) : DS X (.Return (some e) pos) (exe C (.ret i)) := ds_ret he
theorem xs_retN : DS X (.Return none pos) (exe C .retN) := ds_retN
theorem xs_if {st1 st2 : List Stmt} {s1 s2 : List S} (hc : DT X e (tstV (ev C i))) (h1 : DSs X st1 (exes C s1)) (h2 : DSs X st2 (exes C s2)) : DS X (.If e st1 st2 pos) (exe C (.ifs i s1 s2)) := ds_if hc h1 h2
theorem xs_set {j : Nat} {pos' : Pos} (hN : X.N.Nodup) (hi : X.N[j]? = some x) (he : DE X e (ev C i)) (hx : Loc X.env.scope x := by first | exact Or.inl rfl | exact Or.inr rfl) (hs : swapsWith e (some (.Name x pos')) pos.line X.env = pure false := by rfl)
    (hf : X.fn x = true ∨ X.env.scope.names.lookup x = some .local := by first | exact .inl rfl | exact .inr rfl) : DS X (.Assign [.Name x pos'] e pos) (exe C (.asg j i)) := ds_set hN hi hx he hs hf
theorem xs_setLc {elt iter : Expr} {ifs : List Expr} {scope : Scope} (own : List (Str × Nat)) {py spos : Pos} {k : IK} {src : List E} {t : TgT} {cond : Option E} {el : E} {os : List Nat} {j : Nat} (hN : X.N.Nodup) (hy : X.N[j]? = some x) (ok : BlkOk X.N X.env.scope scope own) (hi : DI X tg iter k (evs C src))
    (hg : ∀ (s : Shared) (H : Hp) (C' : Addr) (cl : List (Str × Addr)) (fp : List Addr), PG (X.blk s H scope (compEnvC scope cl C' X.env) fp) tg (gOf X.K t))
    (hts : ∀ (s : Shared) (H : Hp) (C' : Addr) (cl : List (Str × Addr)) (fp : List Addr), PTs (X.blk s H scope (compEnvC scope cl C' X.env) fp) ifs (TTv X.K fun g μ => evc C cond g μ))
    (he : ∀ (s : Shared) (H : Hp) (C' : Addr) (cl : List (Str × Addr)) (fp : List Addr), DE (X.blk s H scope (compEnvC scope cl C' X.env) fp) elt (ev C el))
    (hos : own.map (·.2) = os := by rfl) (ht : t.slots.all (os.contains ·) = true := by rfl) (hyl : X.env.scope.names.lookup x = some .local := by rfl) (hsw : swapsWith (.ListComp elt [⟨tg, iter, ifs, 0⟩] scope pos) (some (.Name x py)) spos.line X.env = pure true := by rfl)
    (hc : X.calm = true := by rfl) (hs : ∀ x, foldedSetIterable iter X.env x = pure x := by intro _; rfl) : DS X (.Assign [.Name x py] (.ListComp elt [⟨tg, iter, ifs, 0⟩] scope pos) spos) (exe C (.asg j (.lc os k src t cond el))) := by
  subst hos
  exact ds_setLc hc hN hy hyl hsw hi ok (fun i hi => by simpa using (List.all_eq_true.mp ht i hi)) hg hts he hs
theorem xs_asgT {t : TgT} (he : DE X e (ev C i)) (hg : PG X tg (gOf X.K t)) (hs : swapsWithSole [tg] e pos.line X.env = pure false := by rfl) (hw : swappedStores [tg] e X.env = pure none := by rfl)
    (h1 : (assignEach [tg] X.env).map (·.2) = [assign tg X.env] := by rfl) : DS X (.Assign [tg] e pos) (exe C (.asgT t i)) := ds_asgT he hg hs hw h1
theorem xs_setI (ho : DE X o (ev C io)) (hi : DE X b (ev C ib)) (hv : DE X a (ev C ia))
    (ha : ∀ v, assign (.Subscript o b p) X.env v = (do
      let ov ← holding [v] (eval o X.env)
      let iv ← holding [v, ov] (eval b X.env)
      standAt p
      holding [v, ov, iv] (setItem ov iv v)
      release [v, ov, iv] []) := by intro _; rfl)
    (hs : swapsWithSole [.Subscript o b p] a pos.line X.env = pure false := by rfl) (hw : swappedStores [.Subscript o b p] a X.env = pure none := by rfl)
    (h1 : (assignEach [.Subscript o b p] X.env).map (·.2) = [assign (.Subscript o b p) X.env] := by rfl) : DS X (.Assign [.Subscript o b p] a pos) (exe C (.setI io ib ia)) := ds_setI ho hi hv ha hs hw h1
theorem par2_eq {j k : Nat} : parF2 j k (ev C ia) (ev C ib) = exe C (.par [j, k] [ia, ib]) := by
  funext g μ
  simp only [exe, evs, parF2]
  cases ev C ia g μ with
  | ok x μ1 =>
    simp only [RE.ok_bind]
    cases ev C ib g μ1 with
    | ok y μ2 => cases hx : isBo x.2 <;> cases hy : isBo y.2 <;> simp [noBo, setSl, hx, hy]
    | ex c fs μ2 => rfl
    | no => rfl
  | ex c fs μ1 => rfl
  | no => rfl
theorem xs_par2 {j k : Nat} {px py pt : Pos} {kt k2 pt2} (hN : X.N.Nodup) (hj : X.N[j]? = some x) (hk : X.N[k]? = some y) (ha : DE X a (ev C ia)) (hb : DE X b (ev C ib)) (hjk : j ≠ k := by decide) (hc : X.calm = true := by rfl)
    (hx : X.env.scope.names.lookup x = some .local := by rfl) (hy : X.env.scope.names.lookup y = some .local := by rfl)
    (hs1 : starEach [a, b] X.env = (false, eval a X.env) :: starEach [b] X.env := by rfl) (hs2 : starEach [b] X.env = (false, eval b X.env) :: starEach [] X.env := by rfl)
    (hw : swappedStores [.Tuple [.Name x px, .Name y py] kt pt] (.Tuple [a, b] k2 pt2) X.env = pure (some [x, y]) := by rfl)
    (hs : swapsWithSole [.Tuple [.Name x px, .Name y py] kt pt] (.Tuple [a, b] k2 pt2) pos.line X.env = pure false := by rfl) : DS X (.Assign [.Tuple [.Name x px, .Name y py] kt pt] (.Tuple [a, b] k2 pt2) pos) (exe C (.par [j, k] [ia, ib])) := by
  rw [← par2_eq]
  exact ds_par2 hc hN hj hk hjk hx hy ha hb hs1 hs2 hw hs
theorem par3_eq {j k l : Nat} : parF3 j k l (ev C ia) (ev C ib) (ev C ic) = exe C (.par [j, k, l] [ia, ib, ic]) := by
  funext g μ
  simp only [exe, evs, parF3]
  cases ev C ia g μ with
  | ok x μ1 =>
    simp only [RE.ok_bind]
    cases ev C ib g μ1 with
    | ok y μ2 =>
      simp only [RE.ok_bind]
      cases ev C ic g μ2 with
      | ok z μ3 => cases hx : isBo x.2 <;> cases hy : isBo y.2 <;> cases hz : isBo z.2 <;> simp [noBo, setSl, hx, hy, hz]
      | ex c fs μ2 => rfl
      | no => rfl
    | ex c fs μ2 => rfl
    | no => rfl
  | ex c fs μ1 => rfl
  | no => rfl
theorem xs_par3 {j k l : Nat} {z : Str} {px py pz pt : Pos} {kt k2 pt2} (hN : X.N.Nodup) (hj : X.N[j]? = some x) (hk : X.N[k]? = some y) (hl : X.N[l]? = some z) (ha : DE X a (ev C ia)) (hb : DE X b (ev C ib)) (hcc : DE X c (ev C ic))
    (hjk : j ≠ k := by decide) (hjl : j ≠ l := by decide) (hkl : k ≠ l := by decide) (hc : X.calm = true := by rfl)
    (hx : X.env.scope.names.lookup x = some .local := by rfl) (hy : X.env.scope.names.lookup y = some .local := by rfl) (hz : X.env.scope.names.lookup z = some .local := by rfl)
    (hs1 : starEach [a, b, c] X.env = (false, eval a X.env) :: starEach [b, c] X.env := by rfl) (hs2 : starEach [b, c] X.env = (false, eval b X.env) :: starEach [c] X.env := by rfl) (hs3 : starEach [c] X.env = (false, eval c X.env) :: starEach [] X.env := by rfl)
    (hw : swappedStores [.Tuple [.Name x px, .Name y py, .Name z pz] kt pt] (.Tuple [a, b, c] k2 pt2) X.env = pure (some [x, y, z]) := by rfl)
    (hs : swapsWithSole [.Tuple [.Name x px, .Name y py, .Name z pz] kt pt] (.Tuple [a, b, c] k2 pt2) pos.line X.env = pure false := by rfl) : DS X (.Assign [.Tuple [.Name x px, .Name y py, .Name z pz] kt pt] (.Tuple [a, b, c] k2 pt2) pos) (exe C (.par [j, k, l] [ia, ib, ic])) := by
  rw [← par3_eq]
  exact ds_par3 hc hN hj hk hl hjk hjl hkl hx hy hz ha hb hcc hs1 hs2 hs3 hw hs
theorem mside {o e : Expr} {m : Str} (base : attributeBase o m X.env (eval o X.env) = eval o X.env := by rfl)
  (few : ((backTo pos (starEach [e] X.env)).all (fun x => !x.1) && (backToKw pos (keywordEach [] X.env)).all (fun x => x.1.isSome)
      && decide (([e] : List Expr).length + ([] : List Keyword).length + (if ([] : List Keyword).isEmpty then 0 else 1) < 30)) = true := by rfl)
  (line : (apos.endLine == pos.line) = true := by rfl) (st : starEach [e] X.env = (false, eval e X.env) :: starEach [] X.env := by rfl) (pl : (backTo pos (starEach [] X.env)).any (·.1) = false := by rfl) : MSide X o e m apos pos := ⟨base, few, line, st, pl⟩
theorem xs_app {j : Nat} {m : Str} (hN : X.N[j]? = some x) (hv : Vis X.env.scope x) (he : DE X e (ev C i)) (sd : MSide X (.Name x p) e m apos p2) (hm : m = "append" := by rfl) (hd : (x == ("__debug__" : Str)) = false := by decide) (hcd : (x == ("__classdict__" : Str)) = false := by decide) :
    DS X (.Expr (.Call (.Attribute (.Name x p) m apos) [e] [] p2) pos) (exe C (.app j i)) := ds_app hm hN hv hd hcd he sd
theorem xs_ext {j : Nat} {m : Str} (hN : X.N[j]? = some x) (hv : Vis X.env.scope x) (he : DE X e (ev C i)) (sd : MSide X (.Name x p) e m apos p2) (hm : m = "extend" := by rfl) (hd : (x == ("__debug__" : Str)) = false := by decide) (hcd : (x == ("__classdict__" : Str)) = false := by decide) :
    DS X (.Expr (.Call (.Attribute (.Name x p) m apos) [e] [] p2) pos) (exe C (.ext j i)) := ds_ext hm hN hv hd hcd he sd
theorem xs_popTo {j k : Nat} {m : Str} {py : Pos} (hND : X.N.Nodup) (hj : X.N[j]? = some y) (hN : X.N[k]? = some x) (hv : Vis X.env.scope x) (he : DE X e (ev C i)) (sd : MSide X (.Name x p) e m apos p2) (hm : m = "pop" := by rfl)
    (hy : Loc X.env.scope y := by first | exact Or.inl rfl | exact Or.inr rfl) (hf : X.fn y = true ∨ X.env.scope.names.lookup y = some .local := by first | exact .inl rfl | exact .inr rfl)
    (hd : (x == ("__debug__" : Str)) = false := by decide) (hcd : (x == ("__classdict__" : Str)) = false := by decide) :
    DS X (.Assign [.Name y py] (.Call (.Attribute (.Name x p) m apos) [e] [] p2) pos) (exe C (.popTo j k i)) := ds_popTo hm hND hj hy hf hN hv hd hcd he sd
theorem xs_appPop {j k : Nat} {m m2 : Str} {px pz ap2 pp : Pos} (hN : X.N[j]? = some x) (hv : Vis X.env.scope x) (hN2 : X.N[k]? = some y) (hv2 : Vis X.env.scope y) (he : DE X e (ev C i))
    (sd : MSide X (.Name y pz) e m2 ap2 pp) (sd2 : MSide X (.Name x px) (.Call (.Attribute (.Name y pz) m2 ap2) [e] [] pp) m apos p2) (hm : m = "append" := by rfl) (hm2 : m2 = "pop" := by rfl)
    (hd : (x == ("__debug__" : Str)) = false := by decide) (hcd : (x == ("__classdict__" : Str)) = false := by decide) (hd2 : (y == ("__debug__" : Str)) = false := by decide) (hcd2 : (y == ("__classdict__" : Str)) = false := by decide) :
    DS X (.Expr (.Call (.Attribute (.Name x px) m apos) [.Call (.Attribute (.Name y pz) m2 ap2) [e] [] pp] [] p2) pos) (exe C (.appPop j k i)) := ds_appPop hm hm2 hN hv hd hcd hN2 hv2 hd2 hcd2 he sd sd2
theorem xs_while {body : List Stmt} {ss : List S} (hc : DT X e (tstV (ev C i))) (hb : DSs X body (exes C ss)) (hp : PassesOwn (model X.prog X.w) X.A X.env X.xe := by exact PassesOwn.never) : DS X (.While e body [] pos) (exe C (.whl i ss)) := ds_while hp hc hb
theorem xs_for {iter : Expr} {body : List Stmt} {k : IK} {src : List E} {t : TgT} {ss : List S} (hi : DI X tg iter k (evs C src)) (hg : PG X tg (gOf X.K t)) (hb : DSs X body (exes C ss)) (hp : PassesOwn (model X.prog X.w) X.A X.env X.xe := by exact PassesOwn.never) (hc : X.calm = true := by rfl)
    (hs : ∀ x, foldedSetIterable iter X.env x = pure x := by intro _; rfl) : DS X (.For tg iter body [] pos) (exe C (.for_ k src t ss)) := ds_for hp hc hi hg hb hs
/-- the cases of a match -/
inductive XCas (X : Cx) (C : Cs) : List (List Str × List S) → List MatchCase → Prop
  | nil : XCas X C [] []
  | cons {zs : List Str} {pt : Pattern} {body : List Stmt} {ss : List S} {cs : List (List Str × List S)} {ms : List MatchCase} : PatS zs pt → DSs X body (exes C ss) → XCas X C cs ms → XCas X C ((zs, ss) :: cs) (⟨pt, none, body⟩ :: ms)
theorem XCas.cas {cs : List (List Str × List S)} {ms : List MatchCase} (h : XCas X C cs ms) : Cas X (cs.map fun y => (y.1, exes C y.2)) ms := by
  induction h with
  | nil => exact .nil
  | cons h1 h2 _ ih => exact .cons h1 h2 ih
theorem casF_eq {z : Str} : ∀ {cs : List (List Str × List S)} {g : Slots} {μ : Mu}, casF z (cs.map fun y => (y.1, exes C y.2)) g μ = exm C z cs g μ
  | [], g, μ => by simp [casF, exm]
  | (ps, b) :: r, g, μ => by
    simp only [List.map_cons, casF, exm]
    rw [casF_eq]
theorem xs_match {cs : List (List Str × List S)} {ms : List MatchCase} (he : DE X e (ev C i)) (hm : XCas X C cs ms) : DS X (.Match e ms pos) (exe C (.mtch i cs)) := by
  have h := ds_match (pos := pos) he hm.cas
  refine PS.imp h fun D σ H ⟨W0, W, g, μ, fl, μ', s, st, ow, e, q⟩ => ⟨W0, W, g, μ, fl, μ', s, st, ow, ?_, q⟩
  simp only [exe] at e
  obtain ⟨x, μ1, e1, e⟩ := RE.bind_ok e
  show (ev C i g μ).bind _ = _
  rw [e1]
  obtain ⟨xd, xk⟩ := x
  cases xd <;> first | (cases e; done) | skip
  case str z =>
    have e : exm C z cs g μ1 = .ok fl μ' := e
    rw [← casF_eq] at e
    exact e
end

/-! ### a def keeps its promise -/
section
variable {P : Program} {w : World} {K : PySem.W.Frag} {mg : Str → Option Value} {base : Heap}
theorem sl_start {W : Wr} : ∀ {ds : List D} {vs : List V} {n : Nat}, RepL K W ds vs → ∀ (i : Nat) (s : Slot) (o : Option V), (ds.map Slot.ok ++ List.replicate n .no)[i]? = some s → (vs.map some ++ List.replicate n none)[i]? = some o → SlOk K W s o
  | [], _, n, .nil, i, s, o, e1, e2 => by
    simp only [List.map_nil, List.nil_append] at e1
    rw [List.getElem?_replicate] at e1
    split at e1 <;> cases e1
    trivial
  | d :: ds, _, n, .cons (v := v) (vs := vs) h r, 0, s, o, e1, e2 => by
    simp at e1 e2
    subst e1 e2
    exact ⟨v, rfl, h⟩
  | d :: ds, _, n, .cons (v := v) (vs := vs) h r, i + 1, s, o, e1, e2 => sl_start r i s o (by simpa using e1) (by simpa using e2)
theorem gok_start {W : Wr} {ds : List D} {vs : List V} {N : List Str} (r : RepL K W ds vs) : GOk K W (ds.map Slot.ok ++ List.replicate (N.length - ds.length) .no) (start N vs) := by
  have hl := r.length
  refine ⟨by simp [L2.start, hl], fun i s o e1 e2 => ?_, fun i j l l' p e1 => ?_⟩
  · unfold L2.start at e2
    rw [hl] at e1
    exact sl_start r i s o e1 e2
  · exfalso
    have := List.mem_of_getElem? e1
    rcases List.mem_append.mp this with z | z
    · obtain ⟨d, _, e⟩ := List.mem_map.mp z; cases e
    · have := List.eq_of_mem_replicate z; cases this
theorem own_start {W : Wr} {ds : List D} {n : Nat} {σ : L2.St} : Own W (ds.map Slot.ok ++ List.replicate n .no) σ := fun i l p e1 _ => by
  exfalso
  have := List.mem_of_getElem? e1
  rcases List.mem_append.mp this with z | z
  · obtain ⟨d, _, e⟩ := List.mem_map.mp z; cases e
  · have := List.eq_of_mem_replicate z; cases this
theorem len0 {PP : Nat → Option Df} {i n : Nat} {df : Df} (hP : PP i = some df) (hn : df.ps = n) {k : Nat} : ∀ ds μ r μ', callN PP k i ds μ = .ok r μ' → ds.length = n := fun ds μ r μ' h => by
  cases k with
  | zero => simp only [callN] at h; cases h
  | succ k =>
    simp only [callN, hP, callDf] at h
    split at h
    · rename_i hd; rw [hd, hn]
    · cases h
/-- THE RULE: a def by its body -/
theorem df_ok {x qual : Str} {st : Stmt} {f : Addr} {fd : FuncData} {N ps : List Str} {k : Nat} {PP : Nat → Option Df} {i : Nat} {df : Df} (F : Fun K x qual st f fd) (S : FnScope N ps (defScope st)) (hP : PP i = some df) (hn : df.n = N.length) (hps : df.ps = ps.length)
    (hbody : ∀ (cdv : Value) (A : Around) (outer : List Env) (s : Shared) (H : Hp) (E : XK), Room k (A.deeper (envOfC qual (defScope st) s.heap.objs.size f cdv)) →
      DSs (cxOf CX0 P w K mg base N qual (defScope st) f cdv A outer s H E).nox (defBody st) (exes (callN PP k) df.body)) : FnOk P w K mg base CX0 (k + 1) f fd ps (spD K (callN PP (k + 1)) i ps.length) := by
  refine F.ok S (fun vs H Q E h => h.1) fun cdv A outer s H vs Q E hr h => ?_
  obtain ⟨hl, W, ds, μ, d, b, μ', hH, ok, mu, r, hc, q⟩ := h
  refine ⟨_, hbody cdv A outer s H E hr, ?_⟩
  have hdl : ds.length = df.ps := by rw [r.length, hl, hps]
  simp only [callN, hP, callDf] at hc
  rw [if_pos hdl] at hc
  obtain ⟨fl, μ1, e1, e2⟩ := RE.bind_ok hc
  refine ⟨W, W, _, μ, fl, μ1, ⟨hH, ok, mu, by rw [hn]; exact gok_start r⟩, .refl, own_start, e1, ?_⟩
  cases fl with
  | nx g' =>
    cases e2
    exact fun W' σ' kp st s' ow => q W' _ st s'.ok s'.mu .non
  | rt d k =>
    cases e2
    exact fun W' v st ok' mu' vn => q W' v st ok' mu' vn
  | bk g' => cases e2
  | ct g' => cases e2
theorem df_zero {fd : FuncData} {f : Addr} {ps : List Str} {PP : Nat → Option Df} {i : Nat} : FnOk P w K mg base CX0 0 f fd ps (spD K (callN PP 0) i ps.length) :=
  ⟨fun _ _ _ _ h => h.1, fun A outer s H args us vs Q E _ _ _ _ h => by
    obtain ⟨_, W, ds, μ, d, b, μ', hH, ok, mu, r, hc, q⟩ := h
    simp only [callN] at hc
    cases hc⟩
end
end NT

set_option Elab.async false
set_option linter.all false
set_option maxRecDepth 100000
set_option maxHeartbeats 1000000
set_option autoImplicit false
/-! The law's own end. -/
namespace NT
open PySem PySem.Spec PyProof.Rows L2
theorem sp_law {K : PySem.W.Frag} {C : Cs} {i : Nat} {a : Addr} {ns : List Int} {H : Hp} {b : Bool} {μ' : Mu} (hO : Only H) (hS : SqL K H a (ns.map V.int)) (h : C i [.scr ns] [] = .ok (.bl true, b) μ') : spD K C i 1 [.ref a] H (fun v _ => v = .bl true) fun _ _ _ => False := by
  refine ⟨rfl, ⟨fun a => H a ≠ none, H, []⟩, [.scr ns], [], .bl true, b, μ', rfl, ⟨fun a h => Option.ne_none_iff_exists'.mp h, fun a h => (by cases h), List.nodup_nil, fun c vs h => ?_⟩, ⟨rfl, fun i l e => (by simp at e)⟩, .cons (.scr ?_) .nil, h, fun W' v s ok' mu' r => ?_⟩
  · rcases hO c with z | ⟨o, xs, z⟩
    · rcases h with h | h <;> (have h : H c = _ := h) <;> rw [z] at h <;> cases h
    · rcases h with h | h <;> (have h : H c = _ := h) <;> rw [z] at h <;> cases h
  · rcases hS with h | h
    · refine .inl ⟨?_, h⟩
      show H a ≠ none
      rcases h with h | ⟨o, h⟩ <;> rw [h] <;> simp
    · exact .inr (.inr h)
  · cases b with
    | false =>
      have r : Rep K W' (.bl true) v := r
      cases r; rfl
    | true =>
      obtain ⟨p, vs, l, e, _⟩ := r
      cases e
end NT

set_option Elab.async false
set_option linter.all false
set_option maxRecDepth 100000
set_option maxHeartbeats 2000000
set_option autoImplicit false
/-! Plain: the small language's evaluation in steps that simp takes from the left. -/
namespace NT
open PySem PySem.Spec PyProof.Rows L2

section
variable {C : Cs} {g : Slots} {μ : Mu} {a b c o t e : E} {l : List E}
/-! continuations by name -/
def varK (i : Nat) (o : Option Slot) (μ : Mu) : RE DK := match o with | some (.ok d) => .ok (d, .pl) μ | some (.own l) => .ok (.lst l, .bo i) μ | _ => .no
@[simp] theorem varK_ok {i : Nat} {d : D} : varK i (some (.ok d)) μ = .ok (d, .pl) μ := rfl
@[simp] theorem varK_own {i : Nat} {l : List D} : varK i (some (.own l)) μ = .ok (.lst l, .bo i) μ := rfl
@[simp] theorem ev_var {i : Nat} : ev C (.var i) g μ = varK i g[i]? μ := id rfl
@[simp] theorem ev_c {d : D} : ev C (.c d) g μ = .ok (d, .pl) μ := id rfl
def binK2 (op : Operator) (x y : DK) (μ : Mu) : RE DK := .of (binD op x.1 y.1) μ
def binK (op : Operator) (k : Mu → RE DK) (x : DK) (μ : Mu) : RE DK := (k μ).bind (binK2 op x)
@[simp] theorem binK2_eq {op : Operator} {x y : DK} : binK2 op x y μ = .of (binD op x.1 y.1) μ := rfl
@[simp] theorem binK_eq {op : Operator} {k : Mu → RE DK} {x : DK} : binK op k x μ = (k μ).bind (binK2 op x) := rfl
@[simp] theorem ev_bin {op : Operator} : ev C (.bin op a b) g μ = (ev C a g μ).bind (binK op (ev C b g)) := id rfl
def negK (x : DK) (μ : Mu) : RE DK := match x.1 with | .int i => .ok (.int (-i), .pl) μ | _ => .no
@[simp] theorem negK_eq {i : Int} {k : Kd} : negK (.int i, k) μ = .ok (.int (-i), .pl) μ := rfl
@[simp] theorem ev_neg : ev C (.neg a) g μ = (ev C a g μ).bind negK := id rfl
def notK (x : DK) (μ : Mu) : RE DK := match truD x.1 with | some b => .ok (.bl (!b), .pl) μ | none => .no
@[simp] theorem notK_eq {v : Bool} {k : Kd} : notK (.bl v, k) μ = .ok (.bl (!v), .pl) μ := rfl
@[simp] theorem ev_not : ev C (.not a) g μ = (ev C a g μ).bind notK := id rfl
def andK (k : Mu → RE DK) (x : DK) (μ : Mu) : RE DK := match x.1 with | .bl true => k μ | .bl false => .ok (.bl false, .pl) μ | _ => .no
@[simp] theorem andK_t {k : Mu → RE DK} {q : Kd} : andK k (.bl true, q) μ = k μ := rfl
@[simp] theorem andK_f {k : Mu → RE DK} {q : Kd} : andK k (.bl false, q) μ = .ok (.bl false, .pl) μ := rfl
theorem andK_b {k : Mu → RE DK} {q : Kd} {v : Bool} : andK k (.bl v, q) μ = if v then k μ else .ok (.bl false, .pl) μ := by cases v <;> rfl
@[simp] theorem ev_and : ev C (.and a b) g μ = (ev C a g μ).bind (andK (ev C b g)) := id rfl
def orK (k : Mu → RE DK) (x : DK) (μ : Mu) : RE DK := match x.1 with | .bl true => .ok (.bl true, .pl) μ | .bl false => k μ | _ => .no
@[simp] theorem orK_t {k : Mu → RE DK} {q : Kd} : orK k (.bl true, q) μ = .ok (.bl true, .pl) μ := rfl
@[simp] theorem orK_f {k : Mu → RE DK} {q : Kd} : orK k (.bl false, q) μ = k μ := rfl
theorem orK_b {k : Mu → RE DK} {q : Kd} {v : Bool} : orK k (.bl v, q) μ = if v then .ok (.bl true, .pl) μ else k μ := by cases v <;> rfl
@[simp] theorem ev_or : ev C (.or a b) g μ = (ev C a g μ).bind (orK (ev C b g)) := id rfl
def cmpK2 (op : CmpOp) (x y : DK) (μ : Mu) : RE DK := .of ((cmpD op x.1 y.1).map fun b => (.bl b, .pl)) μ
def cmpK1 (op : CmpOp) (k : Mu → RE DK) (x : DK) (μ : Mu) : RE DK := (k μ).bind (cmpK2 op x)
@[simp] theorem cmpK2_eq {op : CmpOp} {x y : DK} : cmpK2 op x y μ = .of ((cmpD op x.1 y.1).map fun b => (.bl b, .pl)) μ := rfl
@[simp] theorem cmpK1_eq {op : CmpOp} {k : Mu → RE DK} {x : DK} : cmpK1 op k x μ = (k μ).bind (cmpK2 op x) := rfl
@[simp] theorem ev_cmp {op : CmpOp} : ev C (.cmp op a b) g μ = (ev C a g μ).bind (cmpK1 op (ev C b g)) := id rfl
def cmp2K3 (o2 : CmpOp) (y z : DK) (μ : Mu) : RE DK := .of ((cmpD o2 y.1 z.1).map fun b => (.bl b, .pl)) μ
def cmp2K2 (o2 : CmpOp) (kc : Mu → RE DK) (y : DK) (o : Option Bool) (μ : Mu) : RE DK := match o with | some true => (kc μ).bind (cmp2K3 o2 y) | some false => .ok (.bl false, .pl) μ | none => .no
def cmp2K1 (o1 o2 : CmpOp) (kc : Mu → RE DK) (x y : DK) (μ : Mu) : RE DK := cmp2K2 o2 kc y (cmpD o1 x.1 y.1) μ
def cmp2K (o1 o2 : CmpOp) (kb kc : Mu → RE DK) (x : DK) (μ : Mu) : RE DK := (kb μ).bind (cmp2K1 o1 o2 kc x)
@[simp] theorem cmp2K3_eq {o2 : CmpOp} {y z : DK} : cmp2K3 o2 y z μ = .of ((cmpD o2 y.1 z.1).map fun b => (.bl b, .pl)) μ := rfl
@[simp] theorem cmp2K2_t {o2 : CmpOp} {kc : Mu → RE DK} {y : DK} : cmp2K2 o2 kc y (some true) μ = (kc μ).bind (cmp2K3 o2 y) := rfl
@[simp] theorem cmp2K2_f {o2 : CmpOp} {kc : Mu → RE DK} {y : DK} : cmp2K2 o2 kc y (some false) μ = .ok (.bl false, .pl) μ := rfl
@[simp] theorem cmp2K1_eq {o1 o2 : CmpOp} {kc : Mu → RE DK} {x y : DK} : cmp2K1 o1 o2 kc x y μ = cmp2K2 o2 kc y (cmpD o1 x.1 y.1) μ := rfl
@[simp] theorem cmp2K_eq {o1 o2 : CmpOp} {kb kc : Mu → RE DK} {x : DK} : cmp2K o1 o2 kb kc x μ = (kb μ).bind (cmp2K1 o1 o2 kc x) := rfl
@[simp] theorem ev_cmp2 {o1 o2 : CmpOp} : ev C (.cmp2 o1 o2 a b c) g μ = (ev C a g μ).bind (cmp2K o1 o2 (ev C b g) (ev C c g)) := id rfl
def iteK {α : Type} (ka kb : Mu → RE α) (x : DK) (μ : Mu) : RE α := match truD x.1 with | some true => ka μ | some false => kb μ | none => .no
@[simp] theorem iteK_t {α : Type} {ka kb : Mu → RE α} {q : Kd} : iteK ka kb (.bl true, q) μ = ka μ := rfl
@[simp] theorem iteK_f {α : Type} {ka kb : Mu → RE α} {q : Kd} : iteK ka kb (.bl false, q) μ = kb μ := rfl
theorem iteK_b {α : Type} {ka kb : Mu → RE α} {q : Kd} {v : Bool} : iteK ka kb (.bl v, q) μ = if v then ka μ else kb μ := by cases v <;> rfl
@[simp] theorem ev_ite : ev C (.ite t a b) g μ = (ev C t g μ).bind (iteK (ev C a g) (ev C b g)) := id rfl
def tupK (xs : List DK) (μ : Mu) : RE DK := if noBo xs && decide (xs.length ≤ SZ) then .ok (.tup (xs.map (·.1)), .pl) μ else .no
@[simp] theorem tupK_eq {xs : List DK} : tupK xs μ = if noBo xs && decide (xs.length ≤ SZ) then .ok (.tup (xs.map (·.1)), .pl) μ else .no := rfl
@[simp] theorem ev_tup : ev C (.tup l) g μ = (evs C l g μ).bind tupK := id rfl
def lstK (xs : List DK) (μ : Mu) : RE DK := if noBo xs && decide (xs.length ≤ SZ) then .ok (.lst (xs.map (·.1)), .fr) μ else .no
@[simp] theorem lstK_eq {xs : List DK} : lstK xs μ = if noBo xs && decide (xs.length ≤ SZ) then .ok (.lst (xs.map (·.1)), .fr) μ else .no := rfl
@[simp] theorem ev_lst : ev C (.lst l) g μ = (evs C l g μ).bind lstK := id rfl
@[simp] theorem noBo_nil : noBo [] = true := rfl
@[simp] theorem noBo_cons {x : DK} {xs : List DK} : noBo (x :: xs) = (!isBo x.2 && noBo xs) := rfl
@[simp] theorem isBo_pl : isBo .pl = false := rfl
@[simp] theorem isBo_fr : isBo .fr = false := rfl
@[simp] theorem isBo_bo {i : Nat} : isBo (.bo i) = true := rfl
def idxK2 (x y : DK) (μ : Mu) : RE DK := .of ((idxD μ x.1 y.1).map fun d => (d, .pl)) μ
def idxK (k : Mu → RE DK) (x : DK) (μ : Mu) : RE DK := (k μ).bind (idxK2 x)
@[simp] theorem idxK2_eq {x y : DK} : idxK2 x y μ = .of ((idxD μ x.1 y.1).map fun d => (d, .pl)) μ := rfl
@[simp] theorem idxK_eq {k : Mu → RE DK} {x : DK} : idxK k x μ = (k μ).bind (idxK2 x) := rfl
@[simp] theorem ev_idx : ev C (.idx a b) g μ = (ev C a g μ).bind (idxK (ev C b g)) := id rfl
@[simp] theorem idxD_lst {l : List D} {k : Int} : idxD μ (.lst l) (.int k) = atI l k := rfl
@[simp] theorem idxD_tup {l : List D} {k : Int} : idxD μ (.tup l) (.int k) = atI l k := rfl
@[simp] theorem idxD_mut {j : Nat} {k : Int} : idxD μ (.mut j) (.int k) = μ[j]?.bind fun l => atI l k := rfl
@[simp] theorem idxD_scr {ns : List Int} {k : Int} : idxD μ (.scr ns) (.int k) = (atI ns k).map .int := rfl
@[simp] theorem idxD_str {z : Str} {k : Int} : idxD μ (.str z) (.int k) = (atI z.cps.toList k).map fun c => .str ⟨#[c]⟩ := rfl
def cutK3 (x : DK) (l h : Option Int) (μ : Mu) : RE DK := .of (cutD x.1 l h) μ
def cutK2 (x : DK) (kh : Mu → RE (Option Int)) (l : Option Int) (μ : Mu) : RE DK := (kh μ).bind (cutK3 x l)
def cutK (kl kh : Mu → RE (Option Int)) (x : DK) (μ : Mu) : RE DK := (kl μ).bind (cutK2 x kh)
@[simp] theorem cutK3_eq {x : DK} {l h : Option Int} : cutK3 x l h μ = .of (cutD x.1 l h) μ := rfl
@[simp] theorem cutK2_eq {x : DK} {kh : Mu → RE (Option Int)} {l : Option Int} : cutK2 x kh l μ = (kh μ).bind (cutK3 x l) := rfl
@[simp] theorem cutK_eq {kl kh : Mu → RE (Option Int)} {x : DK} : cutK kl kh x μ = (kl μ).bind (cutK2 x kh) := rfl
@[simp] theorem ev_cut {lo hi : Option E} : ev C (.cut a lo hi) g μ = (ev C a g μ).bind (cutK (evo C lo g) (evo C hi g)) := id rfl
def oK (x : DK) (μ : Mu) : RE (Option Int) := match x.1 with | .int i => .ok (some i) μ | _ => .no
@[simp] theorem oK_eq {i : Int} {k : Kd} : oK (.int i, k) μ = .ok (some i) μ := rfl
@[simp] theorem evo_none : evo C none g μ = .ok none μ := id rfl
@[simp] theorem evo_some : evo C (some e) g μ = (ev C e g μ).bind oK := id rfl
def biK (f : BI) (xs : List DK) (μ : Mu) : RE DK := .of (biD f (xs.map (·.1))) μ
@[simp] theorem biK_eq {f : BI} {xs : List DK} : biK f xs μ = .of (biD f (xs.map (·.1))) μ := rfl
@[simp] theorem ev_bi {f : BI} : ev C (.bi f l) g μ = (evs C l g μ).bind (biK f) := id rfl
def miK2 (m : MI) (x : DK) (xs : List DK) (μ : Mu) : RE DK := .of (miD m x.1 (xs.map (·.1))) μ
def miK (m : MI) (k : Mu → RE (List DK)) (x : DK) (μ : Mu) : RE DK := (k μ).bind (miK2 m x)
@[simp] theorem miK2_eq {m : MI} {x : DK} {xs : List DK} : miK2 m x xs μ = .of (miD m x.1 (xs.map (·.1))) μ := rfl
@[simp] theorem miK_eq {m : MI} {k : Mu → RE (List DK)} {x : DK} : miK m k x μ = (k μ).bind (miK2 m x) := rfl
@[simp] theorem ev_mi {m : MI} : ev C (.mi m o l) g μ = (ev C o g μ).bind (miK m (evs C l g)) := id rfl
def callK2 (xs : List DK) (r : D × Bool) (μ : Mu) : RE DK := if noBo xs then .ok (r.1, if r.2 then .fr else .pl) μ else if r.1.flat && !r.2 && μ.all (·.all D.flat) then .ok (r.1, .pl) μ else .no
def callK (C : Cs) (f : Nat) (xs : List DK) (μ : Mu) : RE DK := (C f (xs.map (·.1)) μ).bind (callK2 xs)
@[simp] theorem callK2_eq {xs : List DK} {r : D × Bool} : callK2 xs r μ = if noBo xs then .ok (r.1, if r.2 then .fr else .pl) μ else if r.1.flat && !r.2 && μ.all (·.all D.flat) then .ok (r.1, .pl) μ else .no := rfl
@[simp] theorem callK_eq {f : Nat} {xs : List DK} : callK C f xs μ = (C f (xs.map (·.1)) μ).bind (callK2 xs) := rfl
@[simp] theorem ev_call {f : Nat} : ev C (.call f l) g μ = (evs C l g μ).bind (callK C f) := id rfl
def lcK2 (r : List D) (μ : Mu) : RE DK := .ok (.lst r, .fr) μ
def lcK1 (C : Cs) (t : TgT) (cond : Option E) (el : E) (g : Slots) (o : Option (List D)) (μ : Mu) : RE DK := match o with | none => .no | some items => (lcGo t (evc C cond) (ev C el) g items [] μ).bind lcK2
def lcK (C : Cs) (own : List Nat) (k : IK) (t : TgT) (cond : Option E) (el : E) (g : Slots) (xs : List DK) (μ : Mu) : RE DK := lcK1 C t cond el (wipeG g own) (iterD k (xs.map (·.1))) μ
@[simp] theorem lcK2_eq {r : List D} : lcK2 r μ = .ok (.lst r, .fr) μ := id rfl
@[simp] theorem lcK1_some {t : TgT} {cond : Option E} {items : List D} : lcK1 C t cond e g (some items) μ = (lcGo t (evc C cond) (ev C e) g items [] μ).bind lcK2 := id rfl
@[simp] theorem lcK_eq {own : List Nat} {k : IK} {t : TgT} {cond : Option E} {xs : List DK} : lcK C own k t cond e g xs μ = lcK1 C t cond e (wipeG g own) (iterD k (xs.map (·.1))) μ := id rfl
@[simp] theorem ev_lc {own : List Nat} {k : IK} {src : List E} {t : TgT} {cond : Option E} {el : E} : ev C (.lc own k src t cond el) g μ = (evs C src g μ).bind (lcK C own k t cond el g) := id rfl
def nmK (x : DK) (μ : Mu) : RE DK := match x with | (.lst l, .fr) => .ok (.mut μ.length, .pl) (μ ++ [l]) | _ => .no
@[simp] theorem nmK_eq {l : List D} : nmK (.lst l, .fr) μ = .ok (.mut μ.length, .pl) (μ ++ [l]) := rfl
@[simp] theorem ev_newMut : ev C (.newMut a) g μ = (ev C a g μ).bind nmK := id rfl
def evsK2 (x : DK) (xs : List DK) (μ : Mu) : RE (List DK) := .ok (x :: xs) μ
def evsK (k : Mu → RE (List DK)) (x : DK) (μ : Mu) : RE (List DK) := (k μ).bind (evsK2 x)
@[simp] theorem evsK2_eq {x : DK} {xs : List DK} : evsK2 x xs μ = .ok (x :: xs) μ := rfl
@[simp] theorem evsK_eq {k : Mu → RE (List DK)} {x : DK} : evsK k x μ = (k μ).bind (evsK2 x) := rfl
@[simp] theorem evs_nil : evs C [] g μ = .ok [] μ := id rfl
@[simp] theorem evs_cons : evs C (e :: l) g μ = (ev C e g μ).bind (evsK (evs C l g)) := id rfl
def truK (x : DK) (μ : Mu) : RE Bool := .of (truD x.1) μ
@[simp] theorem truK_eq {v : Bool} {k : Kd} : truK (.bl v, k) μ = .ok v μ := rfl
@[simp] theorem evc_none : evc C none g μ = .ok true μ := id rfl
@[simp] theorem evc_some : evc C (some e) g μ = (ev C e g μ).bind truK := id rfl
end

section
variable {C : Cs} {g : Slots} {μ : Mu} {a b c o t e : E} {l : List E} {ss : List S}
@[simp] theorem slOf_pl {d : D} : slOf (d, .pl) = .ok d := by unfold slOf; split <;> rename_i h <;> cases h; rfl
@[simp] theorem slOf_fr {l : List D} : slOf (.lst l, .fr) = .own l := rfl
def asgK (i : Nat) (g : Slots) (x : DK) (μ : Mu) : RE Fl := if isBo x.2 then .no else .ok (.nx (g.set i (slOf x))) μ
@[simp] theorem asgK_eq {i : Nat} {x : DK} : asgK i g x μ = if isBo x.2 then .no else .ok (.nx (g.set i (slOf x))) μ := rfl
@[simp] theorem exe_asg {i : Nat} : exe C (.asg i e) g μ = (ev C e g μ).bind (asgK i g) := id rfl
def asgTK (t : TgT) (g : Slots) (x : DK) (μ : Mu) : RE Fl := match x.2 with
    | .pl => match asgD t g x.1 with | some g' => .ok (.nx g') μ | none => .no
    | _ => .no
def nxO (o : Option Slots) (μ : Mu) : RE Fl := match o with | some g' => .ok (.nx g') μ | none => .no
@[simp] theorem nxO_eq {g : Slots} : nxO (some g) μ = .ok (.nx g) μ := rfl
@[simp] theorem asgTK_eq {t : TgT} {d : D} : asgTK t g (d, .pl) μ = nxO (asgD t g d) μ := by
  show (match asgD t g d with | some g' => RE.ok (Fl.nx g') μ | none => .no) = _
  cases asgD t g d <;> rfl
@[simp] theorem exe_asgT {t : TgT} : exe C (.asgT t e) g μ = (ev C e g μ).bind (asgTK t g) := id rfl
@[simp] theorem asgD_name {i : Nat} {d : D} : asgD (.name i) g d = some (g.set i (.ok d)) := rfl
@[simp] theorem asgD_tup {is : List Nat} {ds : List D} : asgD (.tup is) g (.tup ds) = if ds.length = is.length then some (setAll g is ds) else none := rfl
@[simp] theorem setAll_cons {i : Nat} {is : List Nat} {d : D} {ds : List D} : setAll g (i :: is) (d :: ds) = setAll (g.set i (.ok d)) is ds := rfl
@[simp] theorem setAll_nil {ds : List D} : setAll g [] ds = g := by cases ds <;> rfl
def parK (is : List Nat) (g : Slots) (xs : List DK) (μ : Mu) : RE Fl := if noBo xs && decide (is.length = xs.length) then .ok (.nx (setSl g is xs)) μ else .no
@[simp] theorem parK_eq {is : List Nat} {xs : List DK} : parK is g xs μ = if noBo xs && decide (is.length = xs.length) then .ok (.nx (setSl g is xs)) μ else .no := rfl
@[simp] theorem exe_par {is : List Nat} : exe C (.par is l) g μ = (evs C l g μ).bind (parK is g) := id rfl
@[simp] theorem setSl_cons {i : Nat} {is : List Nat} {x : DK} {xs : List DK} : setSl g (i :: is) (x :: xs) = setSl (g.set i (slOf x)) is xs := rfl
@[simp] theorem setSl_nil {xs : List DK} : setSl g [] xs = g := by cases xs <;> rfl
def setIK2 (g : Slots) (x y z : DK) (μ : Mu) : RE Fl := match x, y, z with
    | (d, .pl), (.mut j, _), (.int k, _) => match μ[j]? with
      | some l => match ixN l.length k with | some n => .ok (.nx g) (μ.set j (l.set n d)) | none => .no
      | none => .no
    | (d, .pl), (_, .bo s), (.int k, _) => match g[s]? with
      | some (.own l) => match ixN l.length k with | some n => .ok (.nx (g.set s (.own (l.set n d)))) μ | none => .no
      | _ => .no
    | _, _, _ => .no
def setIK1 (g : Slots) (ki : Mu → RE DK) (x y : DK) (μ : Mu) : RE Fl := (ki μ).bind (setIK2 g x y)
def setIK (g : Slots) (ko ki : Mu → RE DK) (x : DK) (μ : Mu) : RE Fl := (ko μ).bind (setIK1 g ki x)
@[simp] theorem setIK1_eq {ki : Mu → RE DK} {x y : DK} : setIK1 g ki x y μ = (ki μ).bind (setIK2 g x y) := rfl
@[simp] theorem setIK_eq {ko ki : Mu → RE DK} {x : DK} : setIK g ko ki x μ = (ko μ).bind (setIK1 g ki x) := rfl
@[simp] theorem exe_setI {i v : E} : exe C (.setI o i v) g μ = (ev C v g μ).bind (setIK g (ev C o g) (ev C i g)) := id rfl
theorem setIK2_mut {d : D} {j n : Nat} {k : Int} {q q2 : Kd} {l : List D} (h : μ[j]? = some l) (hn : ixN l.length k = some n) : setIK2 g (d, .pl) (.mut j, q) (.int k, q2) μ = .ok (.nx g) (μ.set j (l.set n d)) := by simp [setIK2, h, hn]
def appK (i : Nat) (g : Slots) (x : DK) (μ : Mu) : RE Fl := match g[i]? with
    | some (.own l) => if !isBo x.2 && decide (l.length < SZ) then .ok (.nx (g.set i (.own (l ++ [x.1])))) μ else .no
    | _ => .no
@[simp] theorem exe_app {i : Nat} : exe C (.app i e) g μ = (ev C e g μ).bind (appK i g) := id rfl
def extK (i : Nat) (g : Slots) (x : DK) (μ : Mu) : RE Fl := match g[i]?, x with
    | some (.own l), (.lst r, .fr) => if l.length + r.length ≤ SZ then .ok (.nx (g.set i (.own (l ++ r)))) μ else .no
    | _, _ => .no
@[simp] theorem exe_ext {i : Nat} : exe C (.ext i e) g μ = (ev C e g μ).bind (extK i g) := id rfl
def popToK (j i : Nat) (g : Slots) (x : DK) (μ : Mu) : RE Fl := match g[i]?, x.1 with
    | some (.own l), .int k => match popL l k with | some (d, r) => .ok (.nx ((g.set i (.own r)).set j (.ok d))) μ | none => .no
    | _, _ => .no
@[simp] theorem exe_popTo {i j : Nat} : exe C (.popTo j i e) g μ = (ev C e g μ).bind (popToK j i g) := id rfl
def appPopK (j i : Nat) (g : Slots) (x : DK) (μ : Mu) : RE Fl := match g[i]?, g[j]?, x.1 with
    | some (.own l), some (.own m), .int k => if i = j then .no else match popL l k with
      | some (d, r) => if m.length < SZ then .ok (.nx ((g.set i (.own r)).set j (.own (m ++ [d])))) μ else .no
      | none => .no
    | _, _, _ => .no
@[simp] theorem exe_appPop {i j : Nat} : exe C (.appPop j i e) g μ = (ev C e g μ).bind (appPopK j i g) := id rfl
def exprK (g : Slots) (_ : DK) (μ : Mu) : RE Fl := .ok (.nx g) μ
@[simp] theorem exprK_eq {x : DK} : exprK g x μ = .ok (.nx g) μ := rfl
@[simp] theorem exe_expr : exe C (.expr e) g μ = (ev C e g μ).bind (exprK g) := id rfl
def retK (x : DK) (μ : Mu) : RE Fl := .ok (.rt x.1 (decide (x.2 ≠ .pl))) μ
@[simp] theorem retK_pl {d : D} : retK (d, .pl) μ = .ok (.rt d false) μ := rfl
@[simp] theorem retK_fr {d : D} : retK (d, .fr) μ = .ok (.rt d true) μ := rfl
@[simp] theorem retK_bo {d : D} {i : Nat} : retK (d, .bo i) μ = .ok (.rt d true) μ := rfl
@[simp] theorem exe_ret : exe C (.ret e) g μ = (ev C e g μ).bind retK := id rfl
@[simp] theorem exe_retN : exe C .retN g μ = .ok (.rt .non false) μ := id rfl
@[simp] theorem exe_pass : exe C .pass g μ = .ok (.nx g) μ := id rfl
@[simp] theorem exe_frz {i : Nat} : exe C (.frz i) g μ = .ok (.nx (frzSlot g i)) μ := id rfl
@[simp] theorem exe_ifs {a b : List S} : exe C (.ifs t a b) g μ = (ev C t g μ).bind (iteK (exes C a g) (exes C b g)) := id rfl
def whlT (C : Cs) (t : E) (g : Slots) (μ : Mu) : RE Bool := (ev C t g μ).bind truK
@[simp] theorem whlT_eq : whlT C t g μ = (ev C t g μ).bind truK := id rfl
@[simp] theorem exe_whl : exe C (.whl t ss) g μ = whlGo (whlT C t) (exes C ss) TURNS g μ := id rfl
def forK1 (C : Cs) (t : TgT) (ss : List S) (g : Slots) (o : Option (List D)) (μ : Mu) : RE Fl := match o with | none => .no | some items => forGo t (exes C ss) items g μ
def forK (C : Cs) (k : IK) (t : TgT) (ss : List S) (g : Slots) (xs : List DK) (μ : Mu) : RE Fl := forK1 C t ss (frzBo g xs) (iterD k (xs.map (·.1))) μ
@[simp] theorem forK1_eq {t : TgT} {items : List D} : forK1 C t ss g (some items) μ = forGo t (exes C ss) items g μ := id rfl
@[simp] theorem forK_eq {k : IK} {t : TgT} {xs : List DK} : forK C k t ss g xs μ = forK1 C t ss (frzBo g xs) (iterD k (xs.map (·.1))) μ := id rfl
@[simp] theorem exe_for {k : IK} {t : TgT} : exe C (.for_ k l t ss) g μ = (evs C l g μ).bind (forK C k t ss g) := id rfl
def mtchK (C : Cs) (cs : List (List Str × List S)) (g : Slots) (x : DK) (μ : Mu) : RE Fl := match x.1 with | .str z => exm C z cs g μ | _ => .no
@[simp] theorem mtchK_eq {cs : List (List Str × List S)} {z : Str} {k : Kd} : mtchK C cs g (.str z, k) μ = exm C z cs g μ := id rfl
@[simp] theorem exe_mtch {cs : List (List Str × List S)} : exe C (.mtch e cs) g μ = (ev C e g μ).bind (mtchK C cs g) := id rfl
@[simp] theorem exm_nil {z : Str} : exm C z [] g μ = .ok (.nx g) μ := id rfl
@[simp] theorem exm_cons {z : Str} {ps : List Str} {b : List S} {r : List (List Str × List S)} : exm C z ((ps, b) :: r) g μ = if ps.contains z then exes C b g μ else exm C z r g μ := id rfl
def seqK (k : Slots → Mu → RE Fl) (f : Fl) (μ : Mu) : RE Fl := match f with | .nx g' => k g' μ | f => .ok f μ
@[simp] theorem seqK_nx {k : Slots → Mu → RE Fl} : seqK k (.nx g) μ = k g μ := rfl
@[simp] theorem seqK_rt {k : Slots → Mu → RE Fl} {d : D} {v : Bool} : seqK k (.rt d v) μ = .ok (.rt d v) μ := rfl
@[simp] theorem seqK_bk {k : Slots → Mu → RE Fl} : seqK k (.bk g) μ = .ok (.bk g) μ := rfl
@[simp] theorem seqK_ct {k : Slots → Mu → RE Fl} : seqK k (.ct g) μ = .ok (.ct g) μ := rfl
@[simp] theorem exes_nil : exes C [] g μ = .ok (.nx g) μ := id rfl
@[simp] theorem exes_cons {s : S} : exes C (s :: ss) g μ = (exe C s g μ).bind (seqK (exes C ss)) := id rfl
def endK (f : Fl) (μ : Mu) : RE (D × Bool) := match f with | .nx _ => .ok (.non, false) μ | .rt d k => .ok (d, k) μ | _ => .no
@[simp] theorem endK_nx : endK (.nx g) μ = .ok (.non, false) μ := rfl
@[simp] theorem endK_rt {d : D} {v : Bool} : endK (.rt d v) μ = .ok (d, v) μ := rfl
/-- a call of a def -/
theorem call_eq {P : Nat → Option Df} {i k : Nat} {df : Df} {ds : List D} (hP : P i = some df) (hl : ds.length = df.ps) : callN P (k + 1) i ds μ = (exes (callN P k) df.body (ds.map Slot.ok ++ List.replicate (df.n - ds.length) .no) μ).bind endK := by
  show (match P i with | some df => callDf (callN P k) df ds μ | none => .no) = _
  rw [hP]
  show callDf (callN P k) df ds μ = _
  unfold callDf
  rw [if_pos hl]
  rfl
@[simp] theorem frzBo_nil : frzBo g [] = g := rfl
@[simp] theorem frzBo_pl {d : D} {r : List DK} : frzBo g ((d, .pl) :: r) = frzBo g r := rfl
@[simp] theorem frzBo_fr {d : D} {r : List DK} : frzBo g ((d, .fr) :: r) = frzBo g r := rfl
@[simp] theorem frzBo_bo {d : D} {i : Nat} {r : List DK} : frzBo g ((d, .bo i) :: r) = frzBo (frzSlot g i) r := rfl
@[simp] theorem wipeG_nil : wipeG g [] = g := rfl
@[simp] theorem wipeG_cons {v : Nat} {vs : List Nat} : wipeG g (v :: vs) = (wipeG g vs).set v .no := rfl
@[simp] theorem RE.ite_bind {α β : Type} {p : Prop} [Decidable p] {x y : RE α} {f : α → Mu → RE β} : (if p then x else y).bind f = if p then x.bind f else y.bind f := by split <;> rfl
end

/-! loops -/
/-- a for whose body always goes on -/
theorem forGo_inv {t : TgT} {b : Slots → Mu → RE Fl} {items : List D} (I : Nat → Slots → Mu → Prop)
    (step : ∀ (i : Nat) (x : D) g μ, items[i]? = some x → I i g μ → ∃ g1, asgD t g x = some g1 ∧ ∃ g2 μ2, (b g1 μ = .ok (.nx g2) μ2 ∨ b g1 μ = .ok (.ct g2) μ2) ∧ I (i + 1) g2 μ2) :
    ∀ (n i : Nat) (g : Slots) (μ : Mu), i + n = items.length → I i g μ → ∃ g' μ', forGo t b (items.drop i) g μ = .ok (.nx g') μ' ∧ I items.length g' μ'
  | 0, i, g, μ, hn, h => by
    have : i = items.length := by omega
    subst this
    rw [List.drop_length]
    exact ⟨g, μ, rfl, h⟩
  | n + 1, i, g, μ, hn, h => by
    have hi : i < items.length := by omega
    obtain ⟨g1, h1, g2, μ2, h2, h3⟩ := step i _ g μ (List.getElem?_eq_getElem hi) h
    obtain ⟨g', μ', h4, h5⟩ := forGo_inv I step n (i + 1) g2 μ2 (by omega) h3
    refine ⟨g', μ', ?_, h5⟩
    rw [List.drop_eq_getElem_cons hi]
    unfold forGo
    rw [h1]
    rcases h2 with h2 | h2 <;> simp only [h2, RE.ok_bind] <;> exact h4
theorem forGo_all {t : TgT} {b : Slots → Mu → RE Fl} {items : List D} {g : Slots} {μ : Mu} (I : Nat → Slots → Mu → Prop) (h0 : I 0 g μ)
    (step : ∀ (i : Nat) (x : D) g μ, items[i]? = some x → I i g μ → ∃ g1, asgD t g x = some g1 ∧ ∃ g2 μ2, (b g1 μ = .ok (.nx g2) μ2 ∨ b g1 μ = .ok (.ct g2) μ2) ∧ I (i + 1) g2 μ2) :
    ∃ g' μ', forGo t b items g μ = .ok (.nx g') μ' ∧ I items.length g' μ' := by
  have := forGo_inv I step items.length 0 g μ (by omega) h0
  simpa using this
/-- a while: some way to its end -/
theorem whlGo_inv {c : Slots → Mu → RE Bool} {b : Slots → Mu → RE Fl} (I : Nat → Slots → Mu → Prop)
    (stop : ∀ g μ, I 0 g μ → ∃ μ2, c g μ = .ok false μ2 ∧ I 0 g μ2)
    (step : ∀ (n : Nat) g μ, I (n + 1) g μ → ∃ μ1, c g μ = .ok true μ1 ∧ ∃ g2 μ2, (b g μ1 = .ok (.nx g2) μ2 ∨ b g μ1 = .ok (.ct g2) μ2) ∧ I n g2 μ2) :
    ∀ (n m : Nat) (g : Slots) (μ : Mu), n < m → I n g μ → ∃ g' μ', whlGo c b m g μ = .ok (.nx g') μ' ∧ I 0 g' μ'
  | _, 0, _, _, h, _ => by omega
  | 0, m + 1, g, μ, _, h => by
    obtain ⟨μ2, h1, h2⟩ := stop g μ h
    refine ⟨g, μ2, ?_, h2⟩
    unfold whlGo
    rw [h1]
    rfl
  | n + 1, m + 1, g, μ, hm, h => by
    obtain ⟨μ1, h1, g2, μ2, h2, h3⟩ := step n g μ h
    obtain ⟨g', μ', h4, h5⟩ := whlGo_inv I stop step n m g2 μ2 (by omega) h3
    refine ⟨g', μ', ?_, h5⟩
    unfold whlGo
    rw [h1]
    rcases h2 with h2 | h2 <;> simp only [RE.ok_bind, if_true, h2] <;> exact h4
/-- a comprehension whose every item comes -/
theorem lcGo_inv {t : TgT} {cond : Slots → Mu → RE Bool} {el : Slots → Mu → RE DK} {g : Slots} {items : List D} (I : Nat → List D → Mu → Prop)
    (step : ∀ (i : Nat) (x : D) acc μ, items[i]? = some x → I i acc μ → ∃ g1, asgD t g x = some g1 ∧
      ((∃ μ1, cond g1 μ = .ok false μ1 ∧ I (i + 1) acc μ1) ∨ ∃ μ1 y k μ2, cond g1 μ = .ok true μ1 ∧ el g1 μ1 = .ok (y, k) μ2 ∧ isBo k = false ∧ I (i + 1) (acc ++ [y]) μ2)) :
    ∀ (n i : Nat) (acc : List D) (μ : Mu), i + n = items.length → I i acc μ → ∃ r μ', lcGo t cond el g (items.drop i) acc μ = .ok r μ' ∧ I items.length r μ'
  | 0, i, acc, μ, hn, h => by
    have : i = items.length := by omega
    subst this
    rw [List.drop_length]
    exact ⟨acc, μ, rfl, h⟩
  | n + 1, i, acc, μ, hn, h => by
    have hi : i < items.length := by omega
    obtain ⟨g1, h1, h2⟩ := step i _ acc μ (List.getElem?_eq_getElem hi) h
    rw [List.drop_eq_getElem_cons hi]
    unfold lcGo
    rw [h1]
    rcases h2 with ⟨μ1, h2, h3⟩ | ⟨μ1, y, k, μ2, h2, h3, h4, h5⟩
    · obtain ⟨r, μ', h6, h7⟩ := lcGo_inv I step n (i + 1) acc μ1 (by omega) h3
      refine ⟨r, μ', ?_, h7⟩
      simp only [h2, RE.ok_bind]
      exact h6
    · obtain ⟨r, μ', h6, h7⟩ := lcGo_inv I step n (i + 1) (acc ++ [y]) μ2 (by omega) h5
      refine ⟨r, μ', ?_, h7⟩
      simp only [h2, RE.ok_bind, if_true, h3]
      cases k with
      | bo i => cases h4
      | pl => exact h6
      | fr => exact h6
theorem lcGo_all {t : TgT} {cond : Slots → Mu → RE Bool} {el : Slots → Mu → RE DK} {g : Slots} {items : List D} {μ : Mu} (I : Nat → List D → Mu → Prop) (h0 : I 0 [] μ)
    (step : ∀ (i : Nat) (x : D) acc μ, items[i]? = some x → I i acc μ → ∃ g1, asgD t g x = some g1 ∧
      ((∃ μ1, cond g1 μ = .ok false μ1 ∧ I (i + 1) acc μ1) ∨ ∃ μ1 y k μ2, cond g1 μ = .ok true μ1 ∧ el g1 μ1 = .ok (y, k) μ2 ∧ isBo k = false ∧ I (i + 1) (acc ++ [y]) μ2)) :
    ∃ r μ', lcGo t cond el g items [] μ = .ok r μ' ∧ I items.length r μ' := by
  have := lcGo_inv I step items.length 0 [] μ (by omega) h0
  simpa using this
/-- a comprehension that changes nothing -/
theorem lcGo_map {t : TgT} {cond : Slots → Mu → RE Bool} {el : Slots → Mu → RE DK} {g : Slots} {μ : Mu} {f : D → D} : ∀ {items : List D} {acc : List D}
    (_ : ∀ x ∈ items, ∃ g1, asgD t g x = some g1 ∧ cond g1 μ = .ok true μ ∧ ∃ k, el g1 μ = .ok (f x, k) μ ∧ isBo k = false), lcGo t cond el g items acc μ = .ok (acc ++ items.map f) μ
  | [], acc, _ => by simp [lcGo]
  | x :: xs, acc, h => by
    obtain ⟨g1, h1, h2, k, h3, h4⟩ := h x List.mem_cons_self
    have ih := lcGo_map (items := xs) (acc := acc ++ [f x]) fun y hy => h y (List.mem_cons_of_mem _ hy)
    unfold lcGo
    rw [h1]
    simp only [h2, RE.ok_bind, if_true, h3]
    cases k with
    | bo i => cases h4
    | pl => rw [List.map_cons, ← List.append_cons] at *; simpa using ih
    | fr => rw [List.map_cons, ← List.append_cons] at *; simpa using ih
/-- .. with a test -/
theorem lcGo_filter {t : TgT} {cond : Slots → Mu → RE Bool} {el : Slots → Mu → RE DK} {g : Slots} {μ : Mu} {f : D → D} {p : D → Bool} : ∀ {items : List D} {acc : List D}
    (_ : ∀ x ∈ items, ∃ g1, asgD t g x = some g1 ∧ cond g1 μ = .ok (p x) μ ∧ (p x = true → ∃ k, el g1 μ = .ok (f x, k) μ ∧ isBo k = false)), lcGo t cond el g items acc μ = .ok (acc ++ (items.filter p).map f) μ
  | [], acc, _ => by simp [lcGo]
  | x :: xs, acc, h => by
    obtain ⟨g1, h1, h2, h3⟩ := h x List.mem_cons_self
    have ih := fun acc => lcGo_filter (items := xs) (acc := acc) fun y hy => h y (List.mem_cons_of_mem _ hy)
    unfold lcGo
    rw [h1]
    simp only [h2, RE.ok_bind]
    cases hp : p x with
    | false => simp only [Bool.false_eq_true, if_false]; rw [ih, List.filter_cons_of_neg (by simp [hp])]
    | true =>
      obtain ⟨k, h3, h4⟩ := h3 hp
      simp only [if_true, h3, RE.ok_bind]
      rw [List.filter_cons_of_pos hp]
      cases k with
      | bo i => cases h4
      | pl => have := ih (acc ++ [f x]); simpa using this
      | fr => have := ih (acc ++ [f x]); simpa using this
end NT

set_option Elab.async false
set_option linter.all false
set_option maxRecDepth 100000
set_option maxHeartbeats 2000000
set_option autoImplicit false
/-! Plain: dice. -/
namespace NT
open PySem PySem.Spec PyProof.Rows L2

theorem log_lt {i : Int} {m : Nat} (h : i.natAbs < 2 ^ m) : i.natAbs.log2 ≤ m := by
  by_cases z : i.natAbs = 0
  · rw [z]; simp
  · exact Nat.le_of_lt ((Nat.log2_lt z).mpr h)
theorem binD_mul {i j : Int} (hi : i.natAbs < 2 ^ 200) (hj : j.natAbs < 2 ^ 200) : binD .Mult (.int i) (.int j) = some (.int (i * j), .pl) := by
  have := log_lt hi
  have := log_lt hj
  have h : i.natAbs.log2 + j.natAbs.log2 < 1000000 := by omega
  simp [binD, h]
theorem binD_div {i j : Int} (h : 0 < j) (h2 : j.natAbs < 2 ^ 200) : binD .FloorDiv (.int i) (.int j) = some (.int (i / j), .pl) := by
  have := log_lt h2
  have h3 : j.natAbs.log2 < 9000 := by omega
  simp [binD, h, h3]
theorem binD_mod {i j : Int} (h : 0 < j) : binD .Mod (.int i) (.int j) = some (.int (i % j), .pl) := by simp [binD, h]
@[simp] theorem binD_add {i j : Int} : binD .Add (.int i) (.int j) = some (.int (i + j), .pl) := rfl
@[simp] theorem binD_sub {i j : Int} : binD .Sub (.int i) (.int j) = some (.int (i - j), .pl) := rfl
@[simp] theorem biD_int {i : Int} : biD .int [.int i] = some (.int i, .pl) := rfl
@[simp] theorem cmpD_lt {i j : Int} : cmpD .Lt (.int i) (.int j) = some (decide (i < j)) := rfl
@[simp] theorem cmpD_le {i j : Int} : cmpD .LtE (.int i) (.int j) = some (decide (i ≤ j)) := rfl
@[simp] theorem cmpD_gt {i j : Int} : cmpD .Gt (.int i) (.int j) = some (decide (j < i)) := rfl
@[simp] theorem cmpD_ge {i j : Int} : cmpD .GtE (.int i) (.int j) = some (decide (j ≤ i)) := rfl
theorem atI_nat {α : Type} {l : List α} {i : Nat} (h : i < l.length) : atI l (i : Int) = some l[i] := by
  unfold atI ixN
  simp [h]

@[simp] theorem atI_0 {α : Type} {x : α} {l : List α} : atI (x :: l) 0 = some x := atI_nat (l := x :: l) (i := 0) (by simp)
@[simp] theorem atI_1 {α : Type} {x y : α} {l : List α} : atI (x :: y :: l) 1 = some y := atI_nat (l := x :: y :: l) (i := 1) (by simp)
@[simp] theorem atI_2 {α : Type} {x y z : α} {l : List α} : atI (x :: y :: z :: l) 2 = some z := atI_nat (l := x :: y :: z :: l) (i := 2) (by simp)
@[simp] theorem str_lit {s t : String} : (Str.ofString s = Str.ofString t) ↔ s = t := by
  constructor
  · intro h
    rw [Str.ofString_eq_toList, Str.ofString_eq_toList] at h
    have h1 : (s.toList.map Char.toNat).toArray = (t.toList.map Char.toNat).toArray := by injection h
    have h2 : s.toList.map Char.toNat = t.toList.map Char.toNat := by simpa using h1
    have h3 : ∀ (x y : List Char), x.map Char.toNat = y.map Char.toNat → x = y := fun x => by
      induction x with
      | nil => intro y e; cases y with | nil => rfl | cons _ _ => cases e
      | cons a x ih =>
        intro y e
        cases y with
        | nil => cases e
        | cons b y =>
          simp only [List.map_cons, List.cons.injEq] at e
          rw [Char.toNat_inj.mp e.1, ih y e.2]
    exact String.toList_inj.mp (h3 _ _ h2)
  · intro h; rw [h]
theorem szv : SZ = 16777216 := rfl
theorem bls_map {α : Type} {l : List α} {p : α → Bool} : blsD (l.map fun x => .bl (p x)) = some (l.map p) := by
  induction l with
  | nil => rfl
  | cons x xs ih => simp [blsD, ih]
@[simp] theorem eqD_int {i j : Int} : eqD (.int i) (.int j) = some (decide (i = j)) := by
  show some (i == j) = _
  rw [Bool.beq_eq_decide_eq]
@[simp] theorem eqD_str {i j : Str} : eqD (.str i) (.str j) = some (decide (i = j)) := by
  show some (i == j) = _
  rw [Bool.beq_eq_decide_eq]
@[simp] theorem cmpD_eq {x y : D} : cmpD .Eq x y = eqD x y := rfl
@[simp] theorem cmpD_ne {x y : D} : cmpD .NotEq x y = (eqD x y).map (!·) := rfl

/-- only the j-th changeable thing differs -/
def Sm (j : Nat) (μ μ' : Mu) : Prop := μ'.length = μ.length ∧ ∀ i, i ≠ j → μ'[i]? = μ[i]?
theorem Sm.refl {j : Nat} {μ : Mu} : Sm j μ μ := ⟨rfl, fun _ _ => rfl⟩
theorem Sm.trans {j : Nat} {μ μ' μ'' : Mu} (a : Sm j μ μ') (b : Sm j μ' μ'') : Sm j μ μ'' := ⟨b.1.trans a.1, fun i h => (b.2 i h).trans (a.2 i h)⟩
theorem Sm.set {j : Nat} {μ : Mu} {l : List D} : Sm j μ (μ.set j l) := ⟨List.length_set, fun i h => List.getElem?_set_ne (Ne.symm h)⟩
/-- dice that may be rolled r times -/
structure Dice (r : Nat) (j : Nat) (μ : Mu) : Prop where
  ex : ∃ a b c : Int, μ[j]? = some [.int a, .int b, .int c] ∧ 0 ≤ a ∧ 0 ≤ b ∧ b < 2147483179 ∧ 0 ≤ c ∧ c + r ≤ 1152921504606846976
  fl : μ.all (·.all D.flat) = true
theorem Dice.mono {r q j : Nat} {μ : Mu} (h : Dice r j μ) (hq : q ≤ r) : Dice q j μ := ⟨by
  obtain ⟨a, b, c, h1, h2, h3, h4, h5, h6⟩ := h.ex
  exact ⟨a, b, c, h1, h2, h3, h4, h5, by omega⟩, h.fl⟩
def df_roll : Df := ⟨6, 2, [.asg 2 (.bi .int [(.var 1)]), .ifs (.cmp .Gt (.idx (.var 0) (.c (.int 0))) (.c (.int 0))) [.asg 5 (.bin .Mod (.idx (.var 0) (.c (.int 0))) (.var 2)), .setI (.var 0) (.c (.int 0)) (.bin .FloorDiv (.idx (.var 0) (.c (.int 0))) (.var 2)), .ret (.bi .int [(.var 5)])] [], .setI (.var 0) (.c (.int 2)) (.bin .Add (.idx (.var 0) (.c (.int 2))) (.c (.int 1))), .asg 3 (.bin .Mod (.bin .Add (.idx (.var 0) (.c (.int 1))) (.bin .Mult (.c (.int 1000151)) (.idx (.var 0) (.c (.int 2))))) (.c (.int 2305843009213693951))), .asg 4 (.bin .Add (.bin .Mult (.bin .Mod (.bin .Mult (.var 3) (.var 3)) (.c (.int 2305843009213693921))) (.var 3)) (.bin .Mult (.c (.int 9403)) (.idx (.var 0) (.c (.int 2))))), .asg 4 (.bin .Mod (.var 4) (.c (.int 2305843009213693907))), .ret (.bi .int [(.bin .Mod (.bin .FloorDiv (.var 4) (.c (.int 4096))) (.var 2))])]⟩
theorem all_set {μ : Mu} {j : Nat} {l : List D} (h : μ.all (·.all D.flat) = true) (hl : l.all D.flat = true) : (μ.set j l).all (·.all D.flat) = true := by
  rw [List.all_eq_true] at h ⊢
  intro x hx
  rcases List.mem_or_eq_of_mem_set hx with z | rfl
  · exact h x z
  · exact hl
theorem atI3_0 {a b c : D} : atI [a, b, c] 0 = some a := rfl
theorem atI3_1 {a b c : D} : atI [a, b, c] 1 = some b := rfl
theorem atI3_2 {a b c : D} : atI [a, b, c] 2 = some c := rfl
theorem roll_spec {P : Nat → Option Df} {i k r j : Nat} {μ : Mu} {n : Int} (hP : P i = some df_roll) (h : Dice (r + 1) j μ) (hn : 0 < n) (hn2 : n < 1152921504606846976) :
    ∃ x μ', callN P (k + 1) i [.mut j, .int n] μ = .ok (.int x, false) μ' ∧ 0 ≤ x ∧ x < n ∧ Dice r j μ' ∧ Sm j μ μ' := by
  obtain ⟨⟨a, b, c, hμ, ha, hb, hb2, hc, hcr⟩, hfl⟩ := h
  have hj : j < μ.length := (List.getElem?_eq_some_iff.mp hμ).1
  have hn200 : n.natAbs < 2 ^ 200 := by omega
  rw [call_eq hP rfl]
  simp only [df_roll]
  by_cases h0 : 0 < a
  · refine ⟨a % n, μ.set j [.int (a / n), .int b, .int c], ?_, Int.emod_nonneg _ (by omega), Int.emod_lt_of_pos _ hn, ⟨⟨a / n, b, c, by rw [List.getElem?_set_self hj], Int.ediv_nonneg ha (by omega), hb, hb2, hc, by omega⟩, all_set hfl rfl⟩, .set⟩
    simp [hμ, atI3_0, h0, binD_mod hn, binD_div hn hn200, setIK2_mut hμ (show ixN 3 0 = some 0 from rfl)]
  · have hset : (μ.set j [.int a, .int b, .int (c + 1)])[j]? = some [.int a, .int b, .int (c + 1)] := by rw [List.getElem?_set_self hj]
    generalize hμ2 : μ.set j [.int a, .int b, .int (c + 1)] = μ2 at hset
    obtain ⟨o, ho⟩ : ∃ o, o = (b + 1000151 * (c + 1)) % 2305843009213693951 := ⟨_, rfl⟩
    obtain ⟨w, hw⟩ : ∃ w, w = o * o % 2305843009213693921 * o + 9403 * (c + 1) := ⟨_, rfl⟩
    refine ⟨w % 2305843009213693907 / 4096 % n, μ2, ?_, Int.emod_nonneg _ (by omega), Int.emod_lt_of_pos _ hn, ⟨⟨a, b, c + 1, hset, ha, hb, hb2, by omega, by omega⟩, by rw [← hμ2]; exact all_set hfl rfl⟩, by rw [← hμ2]; exact .set⟩
    have e1 : setIK2 [Slot.ok (D.mut j), Slot.ok (D.int n), Slot.ok (D.int n), Slot.no, Slot.no, Slot.no] (D.int (c + 1), Kd.pl) (D.mut j, Kd.pl) (D.int 2, Kd.pl) μ = .ok (.nx [Slot.ok (D.mut j), Slot.ok (D.int n), Slot.ok (D.int n), Slot.no, Slot.no, Slot.no]) μ2 := by
      rw [setIK2_mut hμ (show ixN ([D.int a, D.int b, D.int c] : List D).length 2 = some 2 from rfl), ← hμ2]; rfl
    have o1 : 0 ≤ o := by rw [ho]; exact Int.emod_nonneg _ (by decide)
    have o2 : o < 2305843009213693951 := by rw [ho]; exact Int.emod_lt_of_pos _ (by decide)
    have p1 : 0 ≤ o * o % 2305843009213693921 := Int.emod_nonneg _ (by decide)
    have p2 : o * o % 2305843009213693921 < 2305843009213693921 := Int.emod_lt_of_pos _ (by decide)
    have m1 : binD .Mult (.int 1000151) (.int (c + 1)) = some (.int (1000151 * (c + 1)), .pl) := binD_mul (by decide) (by omega)
    have m2 : binD .Mult (.int o) (.int o) = some (.int (o * o), .pl) := binD_mul (by omega) (by omega)
    have m3 : binD .Mult (.int (o * o % 2305843009213693921)) (.int o) = some (.int (o * o % 2305843009213693921 * o), .pl) := binD_mul (by omega) (by omega)
    have m4 : binD .Mult (.int 9403) (.int (c + 1)) = some (.int (9403 * (c + 1)), .pl) := binD_mul (by decide) (by omega)
    have m5 : binD .FloorDiv (.int (w % 2305843009213693907)) (.int 4096) = some (.int (w % 2305843009213693907 / 4096), .pl) := binD_div (by decide) (by decide)
    simp [hμ, hset, atI3_0, atI3_1, atI3_2, h0, e1, m1, binD_mod (show (0 : Int) < 2305843009213693951 by decide), ← ho, m2, binD_mod (show (0 : Int) < 2305843009213693921 by decide), m3, m4, ← hw, binD_mod (show (0 : Int) < 2305843009213693907 by decide), m5, binD_mod hn]
end NT

set_option Elab.async false
set_option linter.all false
set_option maxRecDepth 100000
set_option maxHeartbeats 2000000
set_option autoImplicit false
/-! Plain: what the dice draw. -/
namespace NT
open PySem PySem.Spec PyProof.Rows L2

/-! texts by their signs -/
def ch (c : Nat) : Str := ⟨#[c]⟩
def st (cs : List Nat) : Str := ⟨cs.toArray⟩
def chs (cs : List Nat) : List D := cs.map fun c => .str (ch c)
theorem signs_st {cs : List Nat} : signs (st cs) = chs cs := by simp [signs, st, chs, ch]
theorem st_len {cs : List Nat} : (st cs).length = cs.length := by simp [st, Str.length]
theorem str_st (z : Str) : z = st z.cps.toList := by cases z; simp [st]
theorem st_inj {a b : List Nat} : st a = st b ↔ a = b := by simp [st]
theorem ch_inj {a b : Nat} : ch a = ch b ↔ a = b := by simp [ch]
theorem rowD_str {cs : List Nat} : rowD (.str (st cs)) = some (chs cs) := by rw [← signs_st]; rfl
theorem chs_len {cs : List Nat} : (chs cs).length = cs.length := by simp [chs]
theorem strsD_chs : ∀ cs : List Nat, strsD (chs cs) = some (cs.map ch)
  | [] => rfl
  | c :: cs => by
    show (strsD (chs cs)).map (ch c :: ·) = _
    rw [strsD_chs cs]; rfl
theorem join_chs : ∀ cs : List Nat, Str.join "" (cs.map ch) = st cs
  | [] => rfl
  | [c] => rfl
  | c :: d :: r => by
    show ch c ++ ("" : Str) ++ Str.join "" ((d :: r).map ch) = _
    rw [join_chs (d :: r)]
    show (⟨#[c] ++ ("" : Str).cps ++ (d :: r).toArray⟩ : Str) = ⟨(c :: d :: r).toArray⟩
    have e : ("" : Str).cps = #[] := rfl
    rw [e]
    simp
theorem miD_join {cs : List Nat} (h : cs.length ≤ SZ) : miD .join (.str "") [.lst (chs cs)] = some (.str (st cs), .pl) := by
  have e2 : ("" : Str).length = 0 := rfl
  have e3 : ((cs.map ch).map (·.length)).sum = cs.length := by
    have : ∀ cs : List Nat, ((cs.map ch).map (·.length)).sum = cs.length := fun cs => by
      induction cs with
      | nil => rfl
      | cons c cs ih => simp only [List.map_cons, List.sum_cons, List.length_cons, ih]; show 1 + _ = _; omega
    exact this cs
  simp only [miD, strsD_chs, Option.bind_some, e2, e3, Nat.mul_zero, Nat.add_zero]
  rw [if_pos h]
  have e1 : Txt.join ("" : Str) (cs.map ch) = st cs := by rw [← join_chs]; exact StrLaws.glued_eq_join _ _
  rw [e1]
theorem dp_mono : ∀ {m n : Nat}, m ≤ n → ∀ d : D, D.dp m d = true → D.dp n d = true := by
  intro m
  induction m with
  | zero =>
    intro n _ d h
    cases d <;> first | exact h | (simp [D.dp] at h)
    all_goals (unfold D.dp at h ⊢; first | exact h | trivial)
  | succ m ih =>
    intro n hn d h
    cases n with
    | zero => omega
    | succ n =>
      have all : ∀ l : List D, D.dpL m l = true → D.dpL n l = true := fun l => by
        induction l with
        | nil => intro _; simp [D.dpL]
        | cons x xs ihl =>
          intro hl
          simp only [D.dpL, Bool.and_eq_true] at hl ⊢
          exact ⟨ih (by omega) x hl.1, ihl hl.2⟩
      cases d with
      | tup l => simp only [D.dp] at h ⊢; exact all l h
      | lst l => simp only [D.dp] at h ⊢; exact all l h
      | _ => first | exact h | (simp [D.dp] at h ⊢) | (unfold D.dp at h ⊢; exact h)
theorem dpL_all {n : Nat} : ∀ {l : List D}, D.dpL n l = true ↔ ∀ d ∈ l, D.dp n d = true
  | [] => by simp [D.dpL]
  | x :: xs => by simp [D.dpL, dpL_all (l := xs)]
theorem eqD_nil_lst {l : List D} (h : D.dpL 7 l = true) : eqD (.lst l) (.lst []) = some l.isEmpty := by
  have h1 : D.dp 8 (.lst l) = true := by simp only [D.dp]; exact h
  have h2 : D.dp 8 (.lst []) = true := rfl
  unfold eqD
  simp only [h1, h2, Bool.and_self, if_true]
  cases l with
  | nil => rfl
  | cons x xs => rfl
theorem getD_mem {α : Type} {l : List α} {i : Nat} {x : α} (h : l[i]? = some x) : x ∈ l := List.mem_of_getElem? h

def df_one_of (ir : Nat) : Df := ⟨2, 2, [.ret (.idx (.var 1) (.call ir [(.var 0), (.bi .len [(.var 1)])]))]⟩
theorem one_of_spec {P : Nat → Option Df} {i ir k r j : Nat} {μ : Mu} {d : D} {l : List D} (hP : P i = some (df_one_of ir)) (hR : P ir = some df_roll) (h : Dice (r + 1) j μ) (hd : d = .lst l ∨ d = .tup l) (hl : l ≠ []) (hz : l.length ≤ 16777216) :
    ∃ x μ', callN P (k + 2) i [.mut j, d] μ = .ok (x, false) μ' ∧ x ∈ l ∧ Dice r j μ' ∧ Sm j μ μ' := by
  have hp : 0 < l.length := by cases l with | nil => exact absurd rfl hl | cons _ _ => simp
  obtain ⟨x, μ', e, h0, h1, hD, hS⟩ := roll_spec (k := k) (n := (l.length : Int)) hR h (by omega) (by omega)
  obtain ⟨m, rfl⟩ := Int.eq_ofNat_of_zero_le h0
  have hm : m < l.length := by omega
  refine ⟨l[m], μ', ?_, List.getElem_mem hm, hD, hS⟩
  rcases hd with rfl | rfl
  · rw [call_eq hP rfl]
    simp [df_one_of, biD, e, atI_nat hm]
  · rw [call_eq hP rfl]
    simp [df_one_of, biD, e, atI_nat hm]

theorem appPopK_ok {g : Slots} {μ : Mu} {i j : Nat} {l m r : List D} {d : D} {k : Int} {q : Kd} (hij : i ≠ j) (hi : g[i]? = some (.own l)) (hj : g[j]? = some (.own m)) (hp : popL l k = some (d, r)) (hz : m.length < SZ) :
    appPopK j i g (.int k, q) μ = .ok (.nx ((g.set i (.own r)).set j (.own (m ++ [d])))) μ := by
  unfold appPopK
  simp only [hi, hj, hp]
  rw [if_neg hij, if_pos hz]
theorem appK_ok {g : Slots} {μ : Mu} {i : Nat} {l : List D} {d : D} {q : Kd} (hi : g[i]? = some (.own l)) (hb : isBo q = false) (hz : l.length < SZ) : appK i g (d, q) μ = .ok (.nx (g.set i (.own (l ++ [d])))) μ := by
  unfold appK
  simp only [hi, hb, Bool.not_false, Bool.true_and, decide_eq_true hz, if_true]
theorem erase_perm {α : Type} : ∀ {l : List α} {i : Nat} (h : i < l.length), (l[i] :: l.eraseIdx i).Perm l
  | [], _, h => by simp at h
  | x :: xs, 0, _ => by simp
  | x :: xs, i + 1, h => by
    have ih := erase_perm (l := xs) (i := i) (by simpa using h)
    simp only [List.getElem_cons_succ, List.eraseIdx_cons_succ]
    exact (List.Perm.swap _ _ _).trans (ih.cons x)
def df_mixed (ir : Nat) : Df := ⟨4, 2, [.par [2, 3] [(.bi .list [(.var 1)]), (.lst [])], .whl (.cmp .NotEq (.var 2) (.lst [])) [.appPop 3 2 (.call ir [(.var 0), (.bi .len [(.var 2)])])], .ret (.var 3)]⟩
theorem popL_nat {l : List D} {m : Nat} (h : m < l.length) (hz : l.length ≤ 16777216) : popL l (m : Int) = some (l[m], l.eraseIdx m) := by
  unfold popL
  have e : ixN l.length (m : Int) = some m := by unfold ixN; simp [h]
  have e2 : -(2 ^ 62 : Int) ≤ (m : Int) ∧ (m : Int) < 2 ^ 62 := by constructor <;> omega
  rw [if_pos e2, e]
  simp [h]
theorem mixed_spec {P : Nat → Option Df} {i ir k r j : Nat} {μ : Mu} {d : D} {l : List D} (hP : P i = some (df_mixed ir)) (hR : P ir = some df_roll) (h : Dice (r + l.length) j μ) (hd : rowD d = some l) (hl : D.dpL 7 l = true) (hz : l.length ≤ 10000) :
    ∃ l' μ', callN P (k + 2) i [.mut j, d] μ = .ok (.lst l', true) μ' ∧ l'.Perm l ∧ Dice r j μ' ∧ Sm j μ μ' := by
  have hstop : ∀ g μ2, (∃ left found : List D, g = [.ok (.mut j), .ok d, .own left, .own found] ∧ left.length = 0 ∧ (left ++ found).Perm l ∧ Dice (r + 0) j μ2 ∧ Sm j μ μ2) → ∃ μ3, whlT (callN P (k + 1)) (.cmp .NotEq (.var 2) (.lst [])) g μ2 = .ok false μ3 ∧
      (∃ left found : List D, g = [.ok (.mut j), .ok d, .own left, .own found] ∧ left.length = 0 ∧ (left ++ found).Perm l ∧ Dice (r + 0) j μ3 ∧ Sm j μ μ3) := by
    rintro g μ2 ⟨left, found, hg, hn, hp, hD, hS⟩
    have : left = [] := List.length_eq_zero_iff.mp hn
    subst this
    subst hg
    refine ⟨μ2, ?_, [], found, rfl, rfl, hp, hD, hS⟩
    simp [cmpD, eqD_nil_lst (l := []) rfl]
  have hstep : ∀ (n : Nat) g μ2, (∃ left found : List D, g = [.ok (.mut j), .ok d, .own left, .own found] ∧ left.length = n + 1 ∧ (left ++ found).Perm l ∧ Dice (r + (n + 1)) j μ2 ∧ Sm j μ μ2) → ∃ μ1, whlT (callN P (k + 1)) (.cmp .NotEq (.var 2) (.lst [])) g μ2 = .ok true μ1 ∧
      ∃ g2 μ3, (exes (callN P (k + 1)) [.appPop 3 2 (.call ir [(.var 0), (.bi .len [(.var 2)])])] g μ1 = .ok (.nx g2) μ3 ∨ exes (callN P (k + 1)) [.appPop 3 2 (.call ir [(.var 0), (.bi .len [(.var 2)])])] g μ1 = .ok (.ct g2) μ3) ∧
      (∃ left found : List D, g2 = [.ok (.mut j), .ok d, .own left, .own found] ∧ left.length = n ∧ (left ++ found).Perm l ∧ Dice (r + n) j μ3 ∧ Sm j μ μ3) := by
    rintro n g μ2 ⟨left, found, hg, hn, hp, hD, hS⟩
    subst hg
    have hlm : ∀ z ∈ left, z ∈ l := fun z hz => hp.mem_iff.mp (List.mem_append_left _ hz)
    have hdl : D.dpL 7 left = true := dpL_all.mpr fun z hz => dpL_all.mp hl z (hlm z hz)
    have hne : left.isEmpty = false := by cases left with | nil => simp at hn | cons _ _ => rfl
    have hlen := hp.length_eq
    rw [List.length_append] at hlen
    obtain ⟨x, μ3, e3, h0, h1, hD3, hS3⟩ := roll_spec (k := k) (n := (left.length : Int)) hR (r := r + n) hD (by omega) (by omega)
    obtain ⟨m, rfl⟩ := Int.eq_ofNat_of_zero_le h0
    have hm : m < left.length := by omega
    have hfl : (found.length < 16777216) := by omega
    refine ⟨μ2, ?_, [.ok (.mut j), .ok d, .own (left.eraseIdx m), .own (found ++ [left[m]])], μ3, .inl ?_, left.eraseIdx m, found ++ [left[m]], rfl, ?_, ?_, hD3, hS.trans hS3⟩
    · simp [cmpD, eqD_nil_lst hdl, hne]
    · have ea := appPopK_ok (g := [.ok (.mut j), .ok d, .own left, .own found]) (i := 2) (j := 3) (q := .pl) (μ := μ3) (by decide) rfl rfl (popL_nat hm (by omega)) hfl
      have eb : ev (callN P (k + 1)) (.call ir [(.var 0), (.bi .len [(.var 2)])]) [.ok (.mut j), .ok d, .own left, .own found] μ2 = .ok (.int (m : Int), .pl) μ3 := by
        simp [biD, e3]
      rw [exes_cons, exe_appPop, eb, RE.ok_bind, ea, RE.ok_bind]
      rfl
    · rw [List.length_eraseIdx_of_lt hm]; omega
    · have h2 : (left[m] :: left.eraseIdx m).Perm left := erase_perm hm
      have h3 : (left.eraseIdx m ++ (found ++ [left[m]])).Perm (left[m] :: (left.eraseIdx m ++ found)) := by
        rw [← List.append_assoc]
        exact List.perm_append_singleton _ _
      refine h3.trans (List.Perm.trans ?_ hp)
      exact h2.append_right found
  obtain ⟨g', μ', e, left, found, rfl, hn, hp, hD, hS⟩ := whlGo_inv (fun n g μ2 => ∃ left found : List D, g = [.ok (.mut j), .ok d, .own left, .own found] ∧ left.length = n ∧ (left ++ found).Perm l ∧ Dice (r + n) j μ2 ∧ Sm j μ μ2) hstop hstep l.length TURNS [.ok (.mut j), .ok d, .own l, .own []] μ (by show _ < 1000000; omega) ⟨l, [], rfl, rfl, by simp, h, .refl⟩
  refine ⟨found, μ', ?_, ?_, hD, hS⟩
  · rw [call_eq hP rfl]
    have e2 := exe_whl (C := callN P (k + 1)) (t := .cmp .NotEq (.var 2) (.lst [])) (ss := [.appPop 3 2 (.call ir [(.var 0), (.bi .len [(.var 2)])])]) (g := [.ok (.mut j), .ok d, .own l, .own []]) (μ := μ)
    rw [e] at e2
    simp [-exe_whl, df_mixed, biD, hd, e2]
  · have : left = [] := List.length_eq_zero_iff.mp hn
    subst this
    simpa using hp

def df_letters (im : Nat) : Df := ⟨2, 2, [.ret (.mi .join (.c (.str "")) [(.bi .sorted [(.cut (.call im [(.var 0), (.bi .list [(.c (.str "abckxz"))])]) none (some (.var 1)))])])]⟩
end NT

set_option Elab.async false
set_option linter.all false
set_option maxRecDepth 100000
set_option maxHeartbeats 2000000
set_option autoImplicit false
/-! Plain: drawn letters, the dice themselves. -/
namespace NT
open PySem PySem.Spec PyProof.Rows L2

def unch : D → Nat | .str z => z.cps[0]! | _ => 0
theorem unch_chs : ∀ cs : List Nat, (chs cs).map unch = cs
  | [] => rfl
  | c :: cs => by
    show unch (.str (ch c)) :: (chs cs).map unch = _
    rw [unch_chs cs]; rfl
theorem perm_chs {l : List D} {cs : List Nat} (h : l.Perm (chs cs)) : ∃ cs', l = chs cs' ∧ cs'.Perm cs := by
  refine ⟨l.map unch, ?_, ?_⟩
  · have h1 : ∀ x ∈ l, ∃ c, x = .str (ch c) := fun x hx => by
      have := h.mem_iff.mp hx
      obtain ⟨c, _, e⟩ := List.mem_map.mp this
      exact ⟨c, e.symm⟩
    clear h
    induction l with
    | nil => rfl
    | cons x xs ih =>
      obtain ⟨c, rfl⟩ := h1 x List.mem_cons_self
      show _ = .str (ch (unch (.str (ch c)))) :: chs (xs.map unch)
      rw [← ih fun y hy => h1 y (List.mem_cons_of_mem _ hy)]
      rfl
  · have := h.map unch
    rw [unch_chs] at this
    exact this
theorem cutD_to {l : List D} {n : Nat} : cutD (.lst l) none (some (n : Int)) = some (.lst (l.take n), .fr) := by
  simp only [cutD, cutL, HT.sIx_none, HT.sIx_nat, List.drop_zero, Nat.sub_zero]
  by_cases h : n ≤ l.length
  · rw [Nat.min_eq_left h]
  · rw [Nat.min_eq_right (by omega), List.take_of_length_le (Nat.le_refl _), List.take_of_length_le (by omega)]
theorem sortD_chs {cs : List Nat} (h : ∀ c ∈ cs, c < 0x110000) : ∃ cs', sortD (chs cs) = some (chs cs') ∧ cs'.Perm cs := by
  have e : ∀ x ∈ chs cs, ∃ c, c < 0x110000 ∧ x = .str (ch c) := fun x hx => by
    obtain ⟨c, hc, e⟩ := List.mem_map.mp hx
    exact ⟨c, h c hc, e.symm⟩
  have ok : sortOk (chs cs) = true := by
    unfold sortOk
    simp only [Bool.and_eq_true, Bool.or_eq_true]
    refine ⟨⟨dpL_all.mpr fun d hd => ?_, List.all_eq_true.mpr fun d hd => List.all_eq_true.mpr fun d' hd' => ?_⟩, .inr (List.all_eq_true.mpr fun d hd => ?_)⟩
    · obtain ⟨c, hc, rfl⟩ := e d hd
      simp [D.dp, ch, PyData.strOk, hc]
    · obtain ⟨c, hc, rfl⟩ := e d hd
      obtain ⟨c', hc', rfl⟩ := e d' hd'
      simp [D.py, PySem.W.alike]
    · obtain ⟨c, hc, rfl⟩ := e d hd
      rfl
  unfold sortD
  rw [if_pos ok]
  obtain ⟨cs', e1, e2⟩ := perm_chs (l := (chs cs).mergeSort (PySem.W.dataLe false D.py)) (List.mergeSort_perm _ _)
  exact ⟨cs', by rw [e1], e2⟩
abbrev ABC : List Nat := [97, 98, 99, 107, 120, 122]
theorem abc_st : ("abckxz" : Str) = st ABC := by decide +kernel
theorem letters_spec {P : Nat → Option Df} {i im ir k r j : Nat} {μ : Mu} {n : Nat} (hP : P i = some (df_letters im)) (hM : P im = some (df_mixed ir)) (hR : P ir = some df_roll) (h : Dice (r + 6) j μ) :
    ∃ cs μ', callN P (k + 3) i [.mut j, .int n] μ = .ok (.str (st cs), false) μ' ∧ cs.length = min n 6 ∧ cs.Nodup ∧ (∀ c ∈ cs, c ∈ ABC) ∧ Dice r j μ' ∧ Sm j μ μ' := by
  obtain ⟨l', μ', e, hp, hD, hS⟩ := mixed_spec (k := k) (d := .lst (chs ABC)) (l := chs ABC) hM hR h rfl (by decide +kernel) (by decide)
  obtain ⟨cs1, rfl, hp1⟩ := perm_chs hp
  have hlt : ∀ c ∈ cs1.take n, c < 0x110000 := fun c hc => by
    have := hp1.mem_iff.mp (List.mem_of_mem_take hc)
    simp [ABC] at this
    omega
  have htk : (chs cs1).take n = chs (cs1.take n) := by simp [chs, List.map_take]
  obtain ⟨cs2, e2, hp2⟩ := sortD_chs hlt
  have hl1 : cs1.length = 6 := hp1.length_eq
  have hl2 : cs2.length = min n 6 := by rw [hp2.length_eq, List.length_take, hl1]
  refine ⟨cs2, μ', ?_, hl2, ?_, fun c hc => hp1.mem_iff.mp (List.mem_of_mem_take (hp2.mem_iff.mp hc)), hD, hS⟩
  · rw [call_eq hP rfl]
    have hj := miD_join (cs := cs2) (by show _ ≤ 16777216; omega)
    have e3 : rowD (.str ("abckxz" : Str)) = some (chs ABC) := by rw [abc_st]; exact rowD_str
    simp [df_letters, biD, e3, e, cutD_to, htk, e2, hj]
  · have : (cs1.take n).Nodup := (List.take_sublist n cs1).nodup (hp1.symm.nodup (by decide))
    exact hp2.symm.nodup this

/-- the dice themselves -/
def df_dice : Df := ⟨6, 2, [.asg 2 (.bin .Add (.bin .Mult (.c (.int 61)) (.var 1)) (.c (.int 37))), .ifs (.cmp .Lt (.var 1) (.bi .len [(.var 0)])) [.asg 2 (.idx (.var 0) (.var 1))] [], .asg 3 (.bin .Mod (.bi .int [(.bi .abs [(.var 2)])]) (.bin .Pow (.bin .Pow (.c (.int 10)) (.c (.int 60))) (.c (.int 10)))), .asg 4 (.bin .FloorDiv (.var 3) (.bin .Pow (.c (.int 10)) (.c (.int 18)))), .asg 5 (.bin .Add (.bin .Add (.bin .Add (.bin .Mult (.bin .Mod (.var 3) (.c (.int 2147483237))) (.c (.int 54347))) (.bin .Mult (.c (.int 3011)) (.var 1))) (.bin .Mult (.c (.int 47)) (.bi .int [(.cmp .Lt (.var 2) (.c (.int 0)))]))) (.c (.int 97))), .frz 4, .ret (.lst [(.var 4), (.bin .Mod (.var 5) (.c (.int 2147483179))), (.c (.int 0))])]⟩
theorem dice_spec {P : Nat → Option Df} {i k : Nat} {μ : Mu} {ns : List Int} {n : Nat} (hP : P i = some df_dice) (hn : n ≤ 100000) :
    ∃ a b : Int, callN P (k + 1) i [.scr ns, .int n] μ = .ok (.lst [.int a, .int b, .int 0], true) μ ∧ 0 ≤ a ∧ 0 ≤ b ∧ b < 2147483179 := by
  have pw : ∀ {i : Int} {e : Nat}, (i.natAbs.log2 + 1) * e ≤ 100000 → binD .Pow (.int i) (.int (e : Int)) = some (.int (i ^ e), .pl) := fun {i e} h => by
    unfold binD
    simp only [Int.toNat_natCast]
    rw [if_pos ⟨Int.natCast_nonneg e, h⟩]
  obtain ⟨T, hT⟩ : ∃ T : Int, T = 10 ^ 60 := ⟨_, rfl⟩
  obtain ⟨M, hM⟩ : ∃ M : Int, M = T ^ 10 := ⟨_, rfl⟩
  obtain ⟨L, hL⟩ : ∃ L : Int, L = 10 ^ 18 := ⟨_, rfl⟩
  have M0 : 0 < M := by rw [hM, hT]; decide +kernel
  have p1 : binD .Pow (.int 10) (.int 60) = some (.int T, .pl) := by rw [hT]; exact pw (e := 60) (by decide +kernel)
  have p2 : binD .Pow (.int T) (.int 10) = some (.int M, .pl) := by rw [hM]; exact pw (e := 10) (by rw [hT]; decide +kernel)
  have p3 : binD .Pow (.int 10) (.int 18) = some (.int L, .pl) := by rw [hL]; exact pw (e := 18) (by decide +kernel)
  have L0 : 0 < L ∧ L.natAbs < 2 ^ 200 := by rw [hL]; decide +kernel
  have main : ∀ c : Int, ∃ a b : Int, (exes (callN P k) [.asg 3 (.bin .Mod (.bi .int [(.bi .abs [(.var 2)])]) (.bin .Pow (.bin .Pow (.c (.int 10)) (.c (.int 60))) (.c (.int 10)))), .asg 4 (.bin .FloorDiv (.var 3) (.bin .Pow (.c (.int 10)) (.c (.int 18)))), .asg 5 (.bin .Add (.bin .Add (.bin .Add (.bin .Mult (.bin .Mod (.var 3) (.c (.int 2147483237))) (.c (.int 54347))) (.bin .Mult (.c (.int 3011)) (.var 1))) (.bin .Mult (.c (.int 47)) (.bi .int [(.cmp .Lt (.var 2) (.c (.int 0)))]))) (.c (.int 97))), .frz 4, .ret (.lst [(.var 4), (.bin .Mod (.var 5) (.c (.int 2147483179))), (.c (.int 0))])]
      [.ok (.scr ns), .ok (.int n), .ok (.int c), .no, .no, .no] μ).bind endK = .ok (.lst [.int a, .int b, .int 0], true) μ ∧ 0 ≤ a ∧ 0 ≤ b ∧ b < 2147483179 := fun c => by
    obtain ⟨q, hq⟩ : ∃ q : Int, q = if c < 0 then -c else c := ⟨_, rfl⟩
    have ha : biD .abs [.int c] = some (.int q, .pl) := by rw [hq]; rfl
    obtain ⟨y, hy⟩ : ∃ y : Int, y = q % M := ⟨_, rfl⟩
    obtain ⟨z, hz⟩ : ∃ z : Int, z = (if decide (c < 0) = true then 1 else 0) := ⟨_, rfl⟩
    have hb : biD .int [.bl (decide (c < 0))] = some (.int z, .pl) := by rw [hz]; rfl
    have hz2 : z.natAbs < 2 ^ 200 := by
      rw [hz]; split <;> decide +kernel
    have y0 : 0 ≤ y := by rw [hy]; exact Int.emod_nonneg _ (by omega)
    have w1 : 0 ≤ y % 2147483237 := Int.emod_nonneg _ (by decide)
    have w2 : y % 2147483237 < 2147483237 := Int.emod_lt_of_pos _ (by decide)
    have m1 : binD .Mult (.int (y % 2147483237)) (.int 54347) = some (.int (y % 2147483237 * 54347), .pl) := binD_mul (by omega) (by decide)
    have m2 : binD .Mult (.int 3011) (.int n) = some (.int (3011 * n), .pl) := binD_mul (by decide) (by omega)
    have m3 : binD .Mult (.int 47) (.int z) = some (.int (47 * z), .pl) := binD_mul (by decide) hz2
    refine ⟨y / L, (y % 2147483237 * 54347 + 3011 * n + 47 * z + 97) % 2147483179, ?_, Int.ediv_nonneg y0 (by omega), Int.emod_nonneg _ (by decide), Int.emod_lt_of_pos _ (by decide)⟩
    simp [ha, p1, p2, p3, binD_mod M0, ← hy, binD_div L0.1 L0.2, binD_mod (show (0 : Int) < 2147483237 by decide), m1, m2, hb, m3, binD_mod (show (0 : Int) < 2147483179 by decide), frzSlot]
    show (3 : Nat) ≤ 16777216
    decide
  have m0 : binD .Mult (.int 61) (.int n) = some (.int (61 * n), .pl) := binD_mul (by decide) (by omega)
  rw [call_eq hP rfl]
  by_cases h : n < ns.length
  · obtain ⟨a, b, e, h1⟩ := main ns[n]
    refine ⟨a, b, ?_, h1⟩
    rw [← e]
    have hi : (n : Int) < (ns.length : Int) := by omega
    have ea : ev (callN P k) (.bin .Add (.bin .Mult (.c (.int 61)) (.var 1)) (.c (.int 37))) [.ok (.scr ns), .ok (.int n), .no, .no, .no, .no] μ = .ok (.int (61 * n + 37), .pl) μ := by simp [m0]
    have eb : exe (callN P k) (.ifs (.cmp .Lt (.var 1) (.bi .len [(.var 0)])) [.asg 2 (.idx (.var 0) (.var 1))] []) [.ok (.scr ns), .ok (.int n), .ok (.int (61 * n + 37)), .no, .no, .no] μ = .ok (.nx [.ok (.scr ns), .ok (.int n), .ok (.int ns[n]), .no, .no, .no]) μ := by
      simp [biD, h, atI_nat h]
    show (exes (callN P k) df_dice.body [.ok (.scr ns), .ok (.int n), .no, .no, .no, .no] μ).bind endK = _
    unfold df_dice
    rw [exes_cons, exe_asg, ea]
    show ((exes (callN P k) (S.ifs _ _ _ :: _) [.ok (.scr ns), .ok (.int n), .ok (.int (61 * n + 37)), .no, .no, .no] μ)).bind endK = _
    rw [exes_cons, eb]
    rfl
  · obtain ⟨a, b, e, h1⟩ := main (61 * n + 37)
    refine ⟨a, b, ?_, h1⟩
    rw [← e]
    have ea : ev (callN P k) (.bin .Add (.bin .Mult (.c (.int 61)) (.var 1)) (.c (.int 37))) [.ok (.scr ns), .ok (.int n), .no, .no, .no, .no] μ = .ok (.int (61 * n + 37), .pl) μ := by simp [m0]
    have eb : exe (callN P k) (.ifs (.cmp .Lt (.var 1) (.bi .len [(.var 0)])) [.asg 2 (.idx (.var 0) (.var 1))] []) [.ok (.scr ns), .ok (.int n), .ok (.int (61 * n + 37)), .no, .no, .no] μ = .ok (.nx [.ok (.scr ns), .ok (.int n), .ok (.int (61 * n + 37)), .no, .no, .no]) μ := by
      simp [biD, h]
    show (exes (callN P k) df_dice.body [.ok (.scr ns), .ok (.int n), .no, .no, .no, .no] μ).bind endK = _
    unfold df_dice
    rw [exes_cons, exe_asg, ea]
    show ((exes (callN P k) (S.ifs _ _ _ :: _) [.ok (.scr ns), .ok (.int n), .ok (.int (61 * n + 37)), .no, .no, .no] μ)).bind endK = _
    rw [exes_cons, eb]
    rfl
end NT

set_option Elab.async false
set_option linter.all false
set_option maxRecDepth 100000
set_option maxHeartbeats 4000000
set_option autoImplicit false
namespace NT.Law
open PySem PySem.Spec PyProof.Rows L2 NT

def top (i : Nat) : Stmt := PySem.Challenge.pw_neverturns_k86_sayings_and_their_truths.main.body.getD i (.Pass ⟨0, 0, 0, 0⟩)
abbrev s_is_integer : Stmt := top 6
abbrev s_is_word : Stmt := top 7
abbrev s_require_word : Stmt := top 8
abbrev s_is_said_step : Stmt := top 14
abbrev s_is_saying : Stmt := top 15
abbrev s_require_saying : Stmt := top 16
abbrev s_step_truth : Stmt := top 17
abbrev s_truths_behind : Stmt := top 18
abbrev s_truths_in : Stmt := top 19
abbrev s_truths : Stmt := top 20
abbrev s_holds : Stmt := top 21
abbrev s__law_dice : Stmt := top 23
abbrev s__law_roll : Stmt := top 24
abbrev s__law_one_of : Stmt := top 25
abbrev s__law_mixed : Stmt := top 26
abbrev s__law_letters : Stmt := top 27
abbrev s__law_word : Stmt := top 28
abbrev s__law_saying : Stmt := top 29
abbrev s__law_table_of : Stmt := top 30
abbrev s__law_holds : Stmt := top 31
abbrev s__law_odd : Stmt := top 32
abbrev s__law_right : Stmt := top 33
abbrev s_law : Stmt := top 34
abbrev i_is_integer : List S := [.ifs (.or (.not (.bi (.isi .int) [(.var 0)])) (.or (.bi (.isi .bool) [(.var 0)]) (.cmp .Lt (.var 0) (.var 1)))) [.ret (.c (.bl false))] [], .ret (.or (.cmp .Is (.var 2) (.c .non)) (.cmp .LtE (.var 0) (.var 2)))]
def f_is_integer : Df := ⟨3, 3, i_is_integer⟩
abbrev nm_is_integer : List Str := ["value", "least", "most"]
theorem sc_is_integer : FnScope nm_is_integer ["value", "least", "most"] (defScope s_is_integer) := ⟨rfl, rfl, rfl, by decide +kernel, rfl, by decide +kernel, by decide +kernel⟩
abbrev i_is_word : List S := [.ret (.and (.bi (.isi .str) [(.var 0)]) (.bi .all [(.lc [1] .seq [(.var 0)] (.name 1) none (.cmp .In (.var 1) (.c (.str "abcdefghijklmnopqrstuvwxyz"))))]))]
def f_is_word : Df := ⟨2, 1, i_is_word⟩
abbrev nm_is_word : List Str := ["value", "letter"]
theorem sc_is_word : FnScope nm_is_word ["value"] (defScope s_is_word) := ⟨rfl, rfl, rfl, by decide +kernel, rfl, by decide +kernel, by decide +kernel⟩
abbrev i_require_word : List S := [.ifs (.not (.call 1 [(.var 0)])) [.never] []]
def f_require_word : Df := ⟨1, 1, i_require_word⟩
abbrev nm_require_word : List Str := ["value"]
theorem sc_require_word : FnScope nm_require_word ["value"] (defScope s_require_word) := ⟨rfl, rfl, rfl, by decide +kernel, rfl, by decide +kernel, by decide +kernel⟩
abbrev i_is_said_step : List S := [.ifs (.or (.not (.bi (.isi .tuple) [(.var 0)])) (.or (.cmp .Lt (.bi .len [(.var 0)]) (.c (.int 2))) (.not (.bi (.isi .str) [(.idx (.var 0) (.c (.int 0)))])))) [.ret (.c (.bl false))] [], .mtch (.idx (.var 0) (.c (.int 0))) [(["letter"], [.ret (.and (.cmp .Eq (.bi .len [(.var 0)]) (.c (.int 2))) (.and (.call 1 [(.idx (.var 0) (.c (.int 1)))]) (.cmp .Eq (.bi .len [(.idx (.var 0) (.c (.int 1)))]) (.c (.int 1)))))]), (["not", "ahead"], [.ret (.and (.cmp .Eq (.bi .len [(.var 0)]) (.c (.int 2))) (.call 0 [(.idx (.var 0) (.c (.int 1))), (.c (.int 0)), (.bin .Sub (.var 1) (.c (.int 1)))]))]), (["either", "since"], [.frz 2, .ret (.and (.cmp .Eq (.bi .len [(.var 0)]) (.c (.int 3))) (.bi .all [(.lc [2] .seq [(.cut (.var 0) (some (.c (.int 1))) none)] (.name 2) none (.call 0 [(.var 2), (.c (.int 0)), (.bin .Sub (.var 1) (.c (.int 1)))]))]))])], .ret (.c (.bl false))]
def f_is_said_step : Df := ⟨3, 2, i_is_said_step⟩
abbrev nm_is_said_step : List Str := ["value", "at", "index"]
theorem sc_is_said_step : FnScope nm_is_said_step ["value", "at"] (defScope s_is_said_step) := ⟨rfl, rfl, rfl, by decide +kernel, rfl, by decide +kernel, by decide +kernel⟩
abbrev i_is_saying : List S := [.ifs (.or (.not (.bi (.isi .tuple) [(.var 0)])) (.cmp .Eq (.var 0) (.tup []))) [.ret (.c (.bl false))] [], .frz 2, .frz 1, .ret (.bi .all [(.lc [1, 2] .enum [(.var 0)] (.tup [1, 2]) none (.call 3 [(.var 2), (.var 1)]))])]
def f_is_saying : Df := ⟨3, 1, i_is_saying⟩
abbrev nm_is_saying : List Str := ["value", "at", "step"]
theorem sc_is_saying : FnScope nm_is_saying ["value"] (defScope s_is_saying) := ⟨rfl, rfl, rfl, by decide +kernel, rfl, by decide +kernel, by decide +kernel⟩
abbrev i_require_saying : List S := [.ifs (.not (.call 4 [(.var 0)])) [.never] []]
def f_require_saying : Df := ⟨1, 1, i_require_saying⟩
abbrev nm_require_saying : List Str := ["value"]
theorem sc_require_saying : FnScope nm_require_saying ["value"] (defScope s_require_saying) := ⟨rfl, rfl, rfl, by decide +kernel, rfl, by decide +kernel, by decide +kernel⟩
abbrev i_step_truth : List S := [.par [4, 5] [(.idx (.var 0) (.c (.int 0))), (.idx (.var 0) (.c (.int 1)))], .ifs (.cmp .Eq (.var 4) (.c (.str "letter"))) [.ret (.cmp .Eq (.var 3) (.var 5))] [], .ifs (.cmp .Eq (.var 4) (.c (.str "not"))) [.ret (.not (.idx (.var 1) (.var 5)))] [], .ifs (.cmp .Eq (.var 4) (.c (.str "either"))) [.ret (.or (.idx (.var 1) (.var 5)) (.idx (.var 1) (.idx (.var 0) (.c (.int 2)))))] [], .ifs (.cmp .Eq (.var 4) (.c (.str "ahead"))) [.ret (.and (.cmp .IsNot (.var 2) (.c .non)) (.idx (.var 2) (.var 5)))] [], .ret (.or (.idx (.var 1) (.idx (.var 0) (.c (.int 2)))) (.and (.cmp .IsNot (.var 2) (.c .non)) (.and (.idx (.var 1) (.var 5)) (.idx (.var 2) (.bi .len [(.var 1)])))))]
def f_step_truth : Df := ⟨6, 4, i_step_truth⟩
abbrev nm_step_truth : List Str := ["step", "found", "before", "letter", "name", "one"]
theorem sc_step_truth : FnScope nm_step_truth ["step", "found", "before", "letter"] (defScope s_step_truth) := ⟨rfl, rfl, rfl, by decide +kernel, rfl, by decide +kernel, by decide +kernel⟩
abbrev i_truths_behind : List S := [.asg 3 (.lst []), .for_ .seq [(.var 0)] (.name 4) [.frz 4, .app 3 (.call 6 [(.var 4), (.var 3), (.var 1), (.var 2)])], .ret (.bi .tuple [(.var 3)])]
def f_truths_behind : Df := ⟨5, 3, i_truths_behind⟩
abbrev nm_truths_behind : List Str := ["saying", "before", "letter", "found", "step"]
theorem sc_truths_behind : FnScope nm_truths_behind ["saying", "before", "letter"] (defScope s_truths_behind) := ⟨rfl, rfl, rfl, by decide +kernel, rfl, by decide +kernel, by decide +kernel⟩
abbrev i_truths_in : List S := [.asg 2 (.call 7 [(.var 0), (.c .non), (.c .non)]), .for_ .seq [(.var 1)] (.name 3) [.frz 2, .frz 3, .asg 2 (.call 7 [(.var 0), (.var 2), (.var 3)])], .ret (.var 2)]
def f_truths_in : Df := ⟨4, 2, i_truths_in⟩
abbrev nm_truths_in : List Str := ["saying", "word", "found", "letter"]
theorem sc_truths_in : FnScope nm_truths_in ["saying", "word"] (defScope s_truths_in) := ⟨rfl, rfl, rfl, by decide +kernel, rfl, by decide +kernel, by decide +kernel⟩
abbrev i_truths : List S := [.expr (.call 5 [(.var 0)]), .expr (.call 2 [(.var 1)]), .ret (.call 8 [(.var 0), (.var 1)])]
def f_truths : Df := ⟨2, 2, i_truths⟩
abbrev nm_truths : List Str := ["saying", "word"]
theorem sc_truths : FnScope nm_truths ["saying", "word"] (defScope s_truths) := ⟨rfl, rfl, rfl, by decide +kernel, rfl, by decide +kernel, by decide +kernel⟩
abbrev i_holds : List S := [.expr (.call 5 [(.var 0)]), .expr (.call 2 [(.var 1)]), .ret (.idx (.call 8 [(.var 0), (.var 1)]) (.neg (.c (.int 1))))]
def f_holds : Df := ⟨2, 2, i_holds⟩
abbrev nm_holds : List Str := ["saying", "word"]
theorem sc_holds : FnScope nm_holds ["saying", "word"] (defScope s_holds) := ⟨rfl, rfl, rfl, by decide +kernel, rfl, by decide +kernel, by decide +kernel⟩
abbrev i__law_dice : List S := [.asg 2 (.bin .Add (.bin .Mult (.c (.int 61)) (.var 1)) (.c (.int 37))), .ifs (.cmp .Lt (.var 1) (.bi .len [(.var 0)])) [.asg 2 (.idx (.var 0) (.var 1))] [], .asg 3 (.bin .Mod (.bi .int [(.bi .abs [(.var 2)])]) (.bin .Pow (.bin .Pow (.c (.int 10)) (.c (.int 60))) (.c (.int 10)))), .asg 4 (.bin .FloorDiv (.var 3) (.bin .Pow (.c (.int 10)) (.c (.int 18)))), .asg 5 (.bin .Add (.bin .Add (.bin .Add (.bin .Mult (.bin .Mod (.var 3) (.c (.int 2147483237))) (.c (.int 54347))) (.bin .Mult (.c (.int 3011)) (.var 1))) (.bin .Mult (.c (.int 47)) (.bi .int [(.cmp .Lt (.var 2) (.c (.int 0)))]))) (.c (.int 97))), .frz 4, .ret (.lst [(.var 4), (.bin .Mod (.var 5) (.c (.int 2147483179))), (.c (.int 0))])]
def f__law_dice : Df := ⟨6, 2, i__law_dice⟩
abbrev nm__law_dice : List Str := ["script", "at", "cell", "great", "left", "mixed"]
theorem sc__law_dice : FnScope nm__law_dice ["script", "at"] (defScope s__law_dice) := ⟨rfl, rfl, rfl, by decide +kernel, rfl, by decide +kernel, by decide +kernel⟩
abbrev i__law_roll : List S := [.asg 2 (.bi .int [(.var 1)]), .ifs (.cmp .Gt (.idx (.var 0) (.c (.int 0))) (.c (.int 0))) [.asg 5 (.bin .Mod (.idx (.var 0) (.c (.int 0))) (.var 2)), .setI (.var 0) (.c (.int 0)) (.bin .FloorDiv (.idx (.var 0) (.c (.int 0))) (.var 2)), .ret (.bi .int [(.var 5)])] [], .setI (.var 0) (.c (.int 2)) (.bin .Add (.idx (.var 0) (.c (.int 2))) (.c (.int 1))), .asg 3 (.bin .Mod (.bin .Add (.idx (.var 0) (.c (.int 1))) (.bin .Mult (.c (.int 1000151)) (.idx (.var 0) (.c (.int 2))))) (.c (.int 2305843009213693951))), .asg 4 (.bin .Add (.bin .Mult (.bin .Mod (.bin .Mult (.var 3) (.var 3)) (.c (.int 2305843009213693921))) (.var 3)) (.bin .Mult (.c (.int 9403)) (.idx (.var 0) (.c (.int 2))))), .asg 4 (.bin .Mod (.var 4) (.c (.int 2305843009213693907))), .ret (.bi .int [(.bin .Mod (.bin .FloorDiv (.var 4) (.c (.int 4096))) (.var 2))])]
def f__law_roll : Df := ⟨6, 2, i__law_roll⟩
abbrev nm__law_roll : List Str := ["dice", "total", "number", "one", "two", "drawn"]
theorem sc__law_roll : FnScope nm__law_roll ["dice", "total"] (defScope s__law_roll) := ⟨rfl, rfl, rfl, by decide +kernel, rfl, by decide +kernel, by decide +kernel⟩
abbrev i__law_one_of : List S := [.ret (.idx (.var 1) (.call 12 [(.var 0), (.bi .len [(.var 1)])]))]
def f__law_one_of : Df := ⟨2, 2, i__law_one_of⟩
abbrev nm__law_one_of : List Str := ["dice", "items"]
theorem sc__law_one_of : FnScope nm__law_one_of ["dice", "items"] (defScope s__law_one_of) := ⟨rfl, rfl, rfl, by decide +kernel, rfl, by decide +kernel, by decide +kernel⟩
abbrev i__law_mixed : List S := [.par [2, 3] [(.bi .list [(.var 1)]), (.lst [])], .whl (.cmp .NotEq (.var 2) (.lst [])) [.appPop 3 2 (.call 12 [(.var 0), (.bi .len [(.var 2)])])], .ret (.var 3)]
def f__law_mixed : Df := ⟨4, 2, i__law_mixed⟩
abbrev nm__law_mixed : List Str := ["dice", "items", "left", "found"]
theorem sc__law_mixed : FnScope nm__law_mixed ["dice", "items"] (defScope s__law_mixed) := ⟨rfl, rfl, rfl, by decide +kernel, rfl, by decide +kernel, by decide +kernel⟩
abbrev i__law_letters : List S := [.ret (.mi .join (.c (.str "")) [(.bi .sorted [(.cut (.call 14 [(.var 0), (.bi .list [(.c (.str "abckxz"))])]) none (some (.var 1)))])])]
def f__law_letters : Df := ⟨2, 2, i__law_letters⟩
abbrev nm__law_letters : List Str := ["dice", "total"]
theorem sc__law_letters : FnScope nm__law_letters ["dice", "total"] (defScope s__law_letters) := ⟨rfl, rfl, rfl, by decide +kernel, rfl, by decide +kernel, by decide +kernel⟩
abbrev i__law_word : List S := [.ret (.mi .join (.c (.str "")) [(.lc [3] .range [(.call 12 [(.var 0), (.bin .Add (.var 2) (.c (.int 1)))])] (.name 3) none (.call 13 [(.var 0), (.bi .list [(.var 1)])]))])]
def f__law_word : Df := ⟨4, 3, i__law_word⟩
abbrev nm__law_word : List Str := ["dice", "letters", "most", "turn"]
theorem sc__law_word : FnScope nm__law_word ["dice", "letters", "most"] (defScope s__law_word) := ⟨rfl, rfl, rfl, by decide +kernel, rfl, by decide +kernel, by decide +kernel⟩
abbrev i__law_saying : List S := [.asg 3 (.lst [(.tup [(.c (.str "letter")), (.call 13 [(.var 0), (.bi .list [(.var 1)])])])]), .for_ .range [(.c (.int 1)), (.bin .Add (.c (.int 1)) (.call 12 [(.var 0), (.var 2)]))] (.name 4) [.frz 4, .par [5, 6, 7] [(.call 12 [(.var 0), (.c (.int 6))]), (.call 12 [(.var 0), (.var 4)]), (.call 12 [(.var 0), (.var 4)])], .ifs (.cmp .Eq (.var 5) (.c (.int 0))) [.app 3 (.tup [(.c (.str "letter")), (.call 13 [(.var 0), (.bi .list [(.var 1)])])])] [], .ifs (.cmp .Eq (.var 5) (.c (.int 1))) [.frz 6, .app 3 (.tup [(.c (.str "not")), (.var 6)])] [], .ifs (.cmp .Eq (.var 5) (.c (.int 2))) [.frz 6, .frz 7, .app 3 (.tup [(.c (.str "either")), (.var 6), (.var 7)])] [], .ifs (.cmp .Eq (.var 5) (.c (.int 3))) [.frz 6, .app 3 (.tup [(.c (.str "ahead")), (.var 6)])] [], .ifs (.cmp .Gt (.var 5) (.c (.int 3))) [.frz 6, .frz 7, .app 3 (.tup [(.c (.str "since")), (.var 6), (.var 7)])] []], .ret (.bi .tuple [(.var 3)])]
def f__law_saying : Df := ⟨8, 3, i__law_saying⟩
abbrev nm__law_saying : List Str := ["dice", "letters", "most", "found", "at", "way", "one", "other"]
theorem sc__law_saying : FnScope nm__law_saying ["dice", "letters", "most"] (defScope s__law_saying) := ⟨rfl, rfl, rfl, by decide +kernel, rfl, by decide +kernel, by decide +kernel⟩
abbrev i__law_table_of : List S := [.asg 2 (.lst []), .for_ .seq [(.var 0)] (.name 3) [.asgT (.tup [4, 5]) (.tup [(.idx (.var 3) (.c (.int 0))), (.idx (.var 3) (.c (.int 1)))]), .ifs (.cmp .Eq (.var 4) (.c (.str "letter"))) [.app 2 (.bin .Add (.lst [(.c (.bl false))]) (.lc [11] .seq [(.var 1)] (.name 11) none (.cmp .Eq (.var 11) (.var 5))))] [], .ifs (.cmp .Eq (.var 4) (.c (.str "not"))) [.app 2 (.lc [9] .seq [(.idx (.var 2) (.var 5))] (.name 9) none (.not (.var 9)))] [], .ifs (.cmp .Eq (.var 4) (.c (.str "either"))) [.app 2 (.lc [12, 13] .zip [(.idx (.var 2) (.var 5)), (.idx (.var 2) (.idx (.var 3) (.c (.int 2))))] (.tup [12, 13]) none (.or (.var 12) (.var 13)))] [], .ifs (.cmp .Eq (.var 4) (.c (.str "ahead"))) [.app 2 (.bin .Add (.lst [(.c (.bl false))]) (.cut (.idx (.var 2) (.var 5)) none (some (.neg (.c (.int 1))))))] [], .ifs (.cmp .Eq (.var 4) (.c (.str "since"))) [.asg 6 (.lst []), .for_ .range [(.bin .Add (.bi .len [(.var 1)]) (.c (.int 1)))] (.name 7) [.asg 8 (.lc [10] .range [(.bin .Add (.var 7) (.c (.int 1)))] (.name 10) (some (.idx (.idx (.var 2) (.idx (.var 3) (.c (.int 2)))) (.var 10))) (.var 10)), .app 6 (.cmp .NotEq (.lc [10] .seq [(.var 8)] (.name 10) (some (.cmp .NotIn (.c (.bl false)) (.cut (.idx (.var 2) (.var 5)) (some (.bin .Add (.var 10) (.c (.int 1)))) (some (.bin .Add (.var 7) (.c (.int 1))))))) (.var 10)) (.lst []))], .frz 6, .app 2 (.var 6)] []], .ret (.var 2)]
def f__law_table_of : Df := ⟨14, 2, i__law_table_of⟩
abbrev nm__law_table_of : List Str := ["saying", "word", "rows", "step", "name", "one", "row", "end", "starts", "told", "at", "letter", "left", "right"]
theorem sc__law_table_of : FnScope nm__law_table_of ["saying", "word"] (defScope s__law_table_of) := ⟨rfl, rfl, rfl, by decide +kernel, rfl, by decide +kernel, by decide +kernel⟩
abbrev i__law_holds : List S := [.ret (.idx (.idx (.call 18 [(.var 0), (.var 1)]) (.neg (.c (.int 1)))) (.neg (.c (.int 1))))]
def f__law_holds : Df := ⟨2, 2, i__law_holds⟩
abbrev nm__law_holds : List Str := ["saying", "word"]
theorem sc__law_holds : FnScope nm__law_holds ["saying", "word"] (defScope s__law_holds) := ⟨rfl, rfl, rfl, by decide +kernel, rfl, by decide +kernel, by decide +kernel⟩
abbrev i__law_odd : List S := [.par [3, 4] [(.bi .len [(.var 1)]), (.call 12 [(.var 0), (.c (.int 3))])], .frz 3, .asg 2 (.lst [(.tup [(.c (.str "letter")), (.c (.str "A"))]), (.tup [(.c (.str "letter")), (.c (.str "ab"))]), (.tup [(.c (.str "letter")), (.c (.str ""))]), (.tup [(.c (.str "letter"))]), (.tup [(.c (.str "Letter")), (.c (.str "a"))]), (.tup [(.c (.str "not")), (.var 3)]), (.tup [(.c (.str "not")), (.neg (.c (.int 1)))])]), .frz 3, .asg 2 (.bin .Add (.var 2) (.lst [(.tup [(.c (.str "not")), (.c (.bl true))]), (.tup [(.c (.str "not")), (.c (.str "0"))]), (.tup [(.c (.str "not")), (.c (.int 0)), (.c (.int 0))]), (.tup [(.c (.str "either")), (.c (.int 0))]), (.tup [(.c (.str "either")), (.c (.int 0)), (.var 3)]), (.tup [(.c (.str "since")), (.neg (.c (.int 1))), (.c (.int 0))]), (.tup [])])), .asg 2 (.bin .Add (.var 2) (.lst [(.tup [(.c (.str "ahead")), (.bin .Add (.var 3) (.c (.int 1)))]), (.tup [(.c (.str "ahead")), (.c .non)]), (.c (.str "not")), (.c .non), (.c (.int 0)), (.lst [(.c (.str "not")), (.c (.int 0))]), (.tup [(.c (.str "since")), (.c (.int 0)), (.c (.int 0)), (.c (.int 0))]), (.tup [(.c (.str "both")), (.c (.int 0)), (.c (.int 0))])])), .ifs (.cmp .Eq (.var 4) (.c (.int 0))) [.frz 2, .ret (.bin .Add (.var 1) (.tup [(.call 13 [(.var 0), (.var 2)])]))] [], .ifs (.cmp .Eq (.var 4) (.c (.int 1))) [.ret (.bin .Add (.tup [(.call 13 [(.var 0), (.bin .Add (.var 2) (.lst [(.tup [(.c (.str "not")), (.c (.int 0))]), (.tup [(.c (.str "since")), (.c (.int 0)), (.c (.int 0))])]))])]) (.var 1))] [], .ret (.call 13 [(.var 0), (.lst [(.c .non), (.tup []), (.c (.int 0)), (.c (.str "letter")), (.bi .list [(.var 1)]), (.c (.dct [])), (.tup [(.var 1)]), (.idx (.var 1) (.c (.int 0))), (.c (.bl true))])])]
def f__law_odd : Df := ⟨5, 2, i__law_odd⟩
abbrev nm__law_odd : List Str := ["dice", "saying", "some", "last", "way"]
theorem sc__law_odd : FnScope nm__law_odd ["dice", "saying"] (defScope s__law_odd) := ⟨rfl, rfl, rfl, by decide +kernel, rfl, by decide +kernel, by decide +kernel⟩
abbrev i__law_right : List S := [.asg 1 (.call 15 [(.var 0), (.bin .Add (.c (.int 1)) (.call 12 [(.var 0), (.c (.int 2))]))]), .frz 1, .asg 2 (.call 17 [(.var 0), (.var 1), (.c (.int 9))]), .frz 2, .ifs (.or (.cmp .IsNot (.call 4 [(.var 2)]) (.c (.bl true))) (.cmp .IsNot (.call 4 [(.call 20 [(.var 0), (.var 2)])]) (.c (.bl false)))) [.ret (.c (.bl false))] [], .for_ .range [(.c (.int 4))] (.name 3) [.frz 1, .asg 4 (.call 16 [(.var 0), (.var 1), (.c (.int 8))]), .frz 2, .frz 4, .asg 5 (.call 18 [(.var 2), (.var 4)]), .for_ .range [(.bin .Add (.bi .len [(.var 4)]) (.c (.int 1)))] (.name 6) [.frz 2, .ifs (.cmp .NotEq (.call 9 [(.var 2), (.cut (.var 4) none (some (.var 6)))]) (.bi .tuple [(.lc [7] .seq [(.var 5)] (.name 7) none (.idx (.var 7) (.var 6)))])) [.ret (.c (.bl false))] []], .frz 2, .frz 4, .ifs (.cmp .NotEq (.bi .repr [(.call 10 [(.var 2), (.var 4)])]) (.bi .repr [(.idx (.idx (.var 5) (.neg (.c (.int 1)))) (.neg (.c (.int 1))))])) [.ret (.c (.bl false))] [], .frz 2, .ifs (.cmp .NotEq (.call 10 [(.var 2), (.bin .Add (.var 4) (.c (.str "q")))]) (.call 19 [(.var 2), (.bin .Add (.var 4) (.c (.str "q")))])) [.ret (.c (.bl false))] []], .ret (.c (.bl true))]
def f__law_right : Df := ⟨8, 1, i__law_right⟩
abbrev nm__law_right : List Str := ["dice", "letters", "saying", "turn", "word", "rows", "size", "row"]
theorem sc__law_right : FnScope nm__law_right ["dice"] (defScope s__law_right) := ⟨rfl, rfl, rfl, by decide +kernel, rfl, by decide +kernel, by decide +kernel⟩
abbrev i_law : List S := [.for_ .range [(.bi .max [(.c (.int 1)), (.bi .min [(.c (.int 8)), (.bi .len [(.var 0)])])])] (.name 1) [.frz 1, .asg 6 (.newMut (.call 11 [(.var 0), (.var 1)])), .for_ .range [(.c (.int 3))] (.name 7) [.frz 6, .ifs (.not (.call 21 [(.var 6)])) [.ret (.c (.bl false))] []]], .asg 2 (.tup [(.tup [(.c (.str "letter")), (.c (.str "a"))]), (.tup [(.c (.str "letter")), (.c (.str "b"))]), (.tup [(.c (.str "not")), (.c (.int 1))]), (.tup [(.c (.str "since")), (.c (.int 2)), (.c (.int 0))])]), .frz 2, .frz 8, .asg 3 (.lc [8] .seq [(.tup [(.c (.str "")), (.c (.str "a")), (.c (.str "ac")), (.c (.str "ab")), (.c (.str "aba")), (.c (.str "b"))])] (.name 8) none (.call 10 [(.var 2), (.var 8)])), .asg 4 (.tup [(.tup [(.c (.str "letter")), (.c (.str "a"))]), (.tup [(.c (.str "not")), (.c (.int 0))]), (.tup [(.c (.str "either")), (.c (.int 0)), (.c (.int 1))]), (.tup [(.c (.str "ahead")), (.c (.int 2))]), (.tup [(.c (.str "not")), (.c (.int 3))])]), .frz 8, .asg 5 (.lc [8] .seq [(.tup [(.c (.str "")), (.c (.str "a")), (.c (.str "ab")), (.c (.str "aa")), (.c (.str "ba"))])] (.name 8) none (.call 10 [(.tup [(.tup [(.c (.str "letter")), (.c (.str "a"))]), (.tup [(.c (.str "ahead")), (.c (.int 0))])]), (.var 8)])), .frz 4, .asg 3 (.bin .Add (.var 3) (.lst [(.call 10 [(.var 4), (.c (.str ""))]), (.call 10 [(.var 4), (.c (.str "b"))])])), .ret (.cmp .Eq (.bin .Add (.var 3) (.var 5)) (.lst [(.c (.bl false)), (.c (.bl true)), (.c (.bl true)), (.c (.bl false)), (.c (.bl true)), (.c (.bl false)), (.c (.bl true)), (.c (.bl false)), (.c (.bl false)), (.c (.bl false)), (.c (.bl true)), (.c (.bl true)), (.c (.bl false))]))]
def f_law : Df := ⟨9, 1, i_law⟩
abbrev nm_law : List Str := ["script", "at", "some", "told", "begin", "more", "dice", "turn", "word"]
theorem sc_law : FnScope nm_law ["script"] (defScope s_law) := ⟨rfl, rfl, rfl, by decide +kernel, rfl, by decide +kernel, by decide +kernel⟩
structure Glb (P : Program) (w : World) (K : PySem.W.Frag) (mg : Str → Option Value) (base : Heap) (C : Cs) (k : Nat) : Prop where
  d_is_integer : NtDef P w K mg base C k "is_integer" 0 3
  d_is_word : NtDef P w K mg base C k "is_word" 1 1
  d_require_word : NtDef P w K mg base C k "require_word" 2 1
  d_is_said_step : NtDef P w K mg base C k "is_said_step" 3 2
  d_is_saying : NtDef P w K mg base C k "is_saying" 4 1
  d_require_saying : NtDef P w K mg base C k "require_saying" 5 1
  d_step_truth : NtDef P w K mg base C k "step_truth" 6 4
  d_truths_behind : NtDef P w K mg base C k "truths_behind" 7 3
  d_truths_in : NtDef P w K mg base C k "truths_in" 8 2
  d_truths : NtDef P w K mg base C k "truths" 9 2
  d_holds : NtDef P w K mg base C k "holds" 10 2
  d__law_dice : NtDef P w K mg base C k "_law_dice" 11 2
  d__law_roll : NtDef P w K mg base C k "_law_roll" 12 2
  d__law_one_of : NtDef P w K mg base C k "_law_one_of" 13 2
  d__law_mixed : NtDef P w K mg base C k "_law_mixed" 14 2
  d__law_letters : NtDef P w K mg base C k "_law_letters" 15 2
  d__law_word : NtDef P w K mg base C k "_law_word" 16 3
  d__law_saying : NtDef P w K mg base C k "_law_saying" 17 3
  d__law_table_of : NtDef P w K mg base C k "_law_table_of" 18 2
  d__law_holds : NtDef P w K mg base C k "_law_holds" 19 2
  d__law_odd : NtDef P w K mg base C k "_law_odd" 20 2
  d__law_right : NtDef P w K mg base C k "_law_right" 21 1
  d_law : NtDef P w K mg base C k "law" 22 1
  m_abs : mg "abs" = none
  m_all : mg "all" = none
  m_bool : mg "bool" = none
  m_enumerate : mg "enumerate" = none
  m_int : mg "int" = none
  m_isinstance : mg "isinstance" = none
  m_len : mg "len" = none
  m_list : mg "list" = none
  m_max : mg "max" = none
  m_min : mg "min" = none
  m_range : mg "range" = none
  m_repr : mg "repr" = none
  m_sorted : mg "sorted" = none
  m_str : mg "str" = none
  m_tuple : mg "tuple" = none
  m_zip : mg "zip" = none
  c_AHEAD : ∃ t, mg "AHEAD" = some (.str "ahead" t)
  c_EITHER : ∃ t, mg "EITHER" = some (.str "either" t)
  c_LETTER : ∃ t, mg "LETTER" = some (.str "letter" t)
  c_LETTERS : ∃ t, mg "LETTERS" = some (.str "abcdefghijklmnopqrstuvwxyz" t)
  c_NOT : ∃ t, mg "NOT" = some (.str "not" t)
section
variable {P : Program} {w : World} {K : PySem.W.Frag} {mg : Str → Option Value} {base : Heap} {C : Cs} {k : Nat} {f : Addr} {cdv : Value} {A : Around} {outer : List Env} {s : Shared} {H : Hp} {E : XK}
theorem b_is_integer (G : Glb P w K mg base C k) (hr : Room k (A.deeper (envOfC "is_integer" (defScope s_is_integer) s.heap.objs.size f cdv))) : DSs (cxOf CX0 P w K mg base nm_is_integer "is_integer" (defScope s_is_integer) f cdv A outer s H E).nox (defBody s_is_integer) (exes C i_is_integer) := by
  have nd := sc_is_integer.nd
  have n0 : nm_is_integer[0]? = some ("value" : Str) := rfl
  have n1 : nm_is_integer[1]? = some ("least" : Str) := rfl
  have n2 : nm_is_integer[2]? = some ("most" : Str) := rfl
  have v0 : Vis (defScope s_is_integer) "value" := Or.inl rfl
  have v1 : Vis (defScope s_is_integer) "least" := Or.inl rfl
  have v2 : Vis (defScope s_is_integer) "most" := Or.inl rfl
  exact (xs_cons (xs_if (xt_w (xw_or (xt_not (xt_val (x_isi .int G.m_isinstance G.m_int (x_var n0 v0)))) (xw_or (xt_val (x_isi .bool G.m_isinstance G.m_bool (x_var n0 v0))) (xw_or1 (xt_cmp hr (x_var n0 v0) (x_var n1 v1)))))) (xs_cons (xs_ret x_bl)
  xs_nil) xs_nil)
  (xs_cons (xs_ret (x_or (x_cmp hr (x_var n2 v2) x_non) (x_one (x_cmp hr (x_var n0 v0) (x_var n2 v2)))))
  xs_nil))
theorem b_is_word (G : Glb P w K mg base C k) (hr : Room k (A.deeper (envOfC "is_word" (defScope s_is_word) s.heap.objs.size f cdv))) : DSs (cxOf CX0 P w K mg base nm_is_word "is_word" (defScope s_is_word) f cdv A outer s H E).nox (defBody s_is_word) (exes C i_is_word) := by
  have nd := sc_is_word.nd
  have n0 : nm_is_word[0]? = some ("value" : Str) := rfl
  have n1 : nm_is_word[1]? = some ("letter" : Str) := rfl
  have v0 : Vis (defScope s_is_word) "value" := Or.inl rfl
  exact (xs_cons (xs_ret (x_and (x_isi .str G.m_isinstance G.m_str (x_var n0 v0)) (x_one (x_biB (cb_all rfl) bb_all G.m_all (xa_cons (x_lc [("letter", 1)] nd (blkOk_by (by rfl)) (xi_seq (x_var n0 v0)) (fun _ _ _ _ _ => (xg_name nd n1)) (fun _ _ _ _ _ => xp_none) (fun _ _ _ _ _ => (x_cmp hr (x_var n1 (by first | exact Or.inl rfl | exact Or.inr (Or.inl rfl) | exact Or.inr (Or.inr rfl))) (x_gstr (by exact rfl) G.c_LETTERS)))) xa_nil)))))
  xs_nil)
theorem b_require_word (G : Glb P w K mg base C k) (hr : Room k (A.deeper (envOfC "require_word" (defScope s_require_word) s.heap.objs.size f cdv))) : DSs (cxOf CX0 P w K mg base nm_require_word "require_word" (defScope s_require_word) f cdv A outer s H E).nox (defBody s_require_word) (exes C i_require_word) := by
  have nd := sc_require_word.nd
  have n0 : nm_require_word[0]? = some ("value" : Str) := rfl
  have v0 : Vis (defScope s_require_word) "value" := Or.inl rfl
  exact (xs_cons (xs_if (xt_not (xt_val (x_call G.d_is_word hr (xa_cons (x_var n0 v0) xa_nil)))) (xs_cons xs_never
  xs_nil) xs_nil)
  xs_nil)
theorem b_is_said_step (G : Glb P w K mg base C k) (hr : Room k (A.deeper (envOfC "is_said_step" (defScope s_is_said_step) s.heap.objs.size f cdv))) : DSs (cxOf CX0 P w K mg base nm_is_said_step "is_said_step" (defScope s_is_said_step) f cdv A outer s H E).nox (defBody s_is_said_step) (exes C i_is_said_step) := by
  have nd := sc_is_said_step.nd
  have n0 : nm_is_said_step[0]? = some ("value" : Str) := rfl
  have n1 : nm_is_said_step[1]? = some ("at" : Str) := rfl
  have n2 : nm_is_said_step[2]? = some ("index" : Str) := rfl
  have v0 : Vis (defScope s_is_said_step) "value" := Or.inl rfl
  have v1 : Vis (defScope s_is_said_step) "at" := Or.inr (Or.inl rfl)
  exact (xs_cons (xs_if (xt_w (xw_or (xt_not (xt_val (x_isi .tuple G.m_isinstance G.m_tuple (x_var n0 v0)))) (xw_or (xt_cmp hr (x_biB cb_len bb_len G.m_len (xa_cons (x_var n0 v0) xa_nil)) x_int) (xw_or1 (xt_not (xt_val (x_isi .str G.m_isinstance G.m_str (x_idx (x_var n0 v0) x_int)))))))) (xs_cons (xs_ret x_bl)
  xs_nil) xs_nil)
  (xs_cons (xs_match (x_idx (x_var n0 v0) x_int) (XCas.cons PatS.one (xs_cons (xs_ret (x_and (x_cmp hr (x_biB cb_len bb_len G.m_len (xa_cons (x_var n0 v0) xa_nil)) x_int) (x_and (x_call G.d_is_word hr (xa_cons (x_idx (x_var n0 v0) x_int) xa_nil)) (x_one (x_cmp hr (x_biB cb_len bb_len G.m_len (xa_cons (x_idx (x_var n0 v0) x_int) xa_nil)) x_int)))))
  xs_nil) (XCas.cons (PatS.or (PatV.cons (PatV.cons PatV.nil))) (xs_cons (xs_ret (x_and (x_cmp hr (x_biB cb_len bb_len G.m_len (xa_cons (x_var n0 v0) xa_nil)) x_int) (x_one (x_call G.d_is_integer hr (xa_cons (x_idx (x_var n0 v0) x_int) (xa_cons x_int (xa_cons (x_bin (x_var n1 v1) x_int) xa_nil)))))))
  xs_nil) (XCas.cons (PatS.or (PatV.cons (PatV.cons PatV.nil))) (xs_frz (xs_cons (xs_ret (x_and (x_cmp hr (x_biB cb_len bb_len G.m_len (xa_cons (x_var n0 v0) xa_nil)) x_int) (x_one (x_biB (cb_all rfl) bb_all G.m_all (xa_cons (x_lc [("index", 2)] nd (blkOk_by (by rfl)) (xi_seq (x_cut (x_var n0 v0) (xo_some x_int) xo_none)) (fun _ _ _ _ _ => (xg_name nd n2)) (fun _ _ _ _ _ => xp_none) (fun _ _ _ _ _ => (x_call G.d_is_integer hr (xa_cons (x_var n2 (by first | exact Or.inl rfl | exact Or.inr (Or.inl rfl) | exact Or.inr (Or.inr rfl))) (xa_cons x_int (xa_cons (x_bin (x_var n1 (by first | exact Or.inl rfl | exact Or.inr (Or.inl rfl) | exact Or.inr (Or.inr rfl))) x_int) xa_nil)))))) xa_nil)))))
  xs_nil)) XCas.nil))))
  (xs_cons (xs_ret x_bl)
  xs_nil)))
theorem b_is_saying (G : Glb P w K mg base C k) (hr : Room k (A.deeper (envOfC "is_saying" (defScope s_is_saying) s.heap.objs.size f cdv))) : DSs (cxOf CX0 P w K mg base nm_is_saying "is_saying" (defScope s_is_saying) f cdv A outer s H E).nox (defBody s_is_saying) (exes C i_is_saying) := by
  have nd := sc_is_saying.nd
  have n0 : nm_is_saying[0]? = some ("value" : Str) := rfl
  have n1 : nm_is_saying[1]? = some ("at" : Str) := rfl
  have n2 : nm_is_saying[2]? = some ("step" : Str) := rfl
  have v0 : Vis (defScope s_is_saying) "value" := Or.inl rfl
  exact (xs_cons (xs_if (xt_w (xw_or (xt_not (xt_val (x_isi .tuple G.m_isinstance G.m_tuple (x_var n0 v0)))) (xw_or1 (xt_cmp hr (x_var n0 v0) (x_tup xa_nil))))) (xs_cons (xs_ret x_bl)
  xs_nil) xs_nil)
  (xs_frz (xs_frz (xs_cons (xs_ret (x_biB (cb_all rfl) bb_all G.m_all (xa_cons (x_lc [("at", 1), ("step", 2)] nd (blkOk_by (by rfl)) (xi_en G.m_enumerate (x_var n0 v0)) (fun _ _ _ _ _ => (xg_tup (xgs_cons nd n1 (xgs_cons nd n2 xgs_nil)))) (fun _ _ _ _ _ => xp_none) (fun _ _ _ _ _ => (x_call G.d_is_said_step hr (xa_cons (x_var n2 (by first | exact Or.inl rfl | exact Or.inr (Or.inl rfl) | exact Or.inr (Or.inr rfl))) (xa_cons (x_var n1 (by first | exact Or.inl rfl | exact Or.inr (Or.inl rfl) | exact Or.inr (Or.inr rfl))) xa_nil))))) xa_nil)))
  xs_nil))))
theorem b_require_saying (G : Glb P w K mg base C k) (hr : Room k (A.deeper (envOfC "require_saying" (defScope s_require_saying) s.heap.objs.size f cdv))) : DSs (cxOf CX0 P w K mg base nm_require_saying "require_saying" (defScope s_require_saying) f cdv A outer s H E).nox (defBody s_require_saying) (exes C i_require_saying) := by
  have nd := sc_require_saying.nd
  have n0 : nm_require_saying[0]? = some ("value" : Str) := rfl
  have v0 : Vis (defScope s_require_saying) "value" := Or.inl rfl
  exact (xs_cons (xs_if (xt_not (xt_val (x_call G.d_is_saying hr (xa_cons (x_var n0 v0) xa_nil)))) (xs_cons xs_never
  xs_nil) xs_nil)
  xs_nil)
theorem b_step_truth (G : Glb P w K mg base C k) (hr : Room k (A.deeper (envOfC "step_truth" (defScope s_step_truth) s.heap.objs.size f cdv))) : DSs (cxOf CX0 P w K mg base nm_step_truth "step_truth" (defScope s_step_truth) f cdv A outer s H E).nox (defBody s_step_truth) (exes C i_step_truth) := by
  have nd := sc_step_truth.nd
  have n0 : nm_step_truth[0]? = some ("step" : Str) := rfl
  have n1 : nm_step_truth[1]? = some ("found" : Str) := rfl
  have n2 : nm_step_truth[2]? = some ("before" : Str) := rfl
  have n3 : nm_step_truth[3]? = some ("letter" : Str) := rfl
  have n4 : nm_step_truth[4]? = some ("name" : Str) := rfl
  have n5 : nm_step_truth[5]? = some ("one" : Str) := rfl
  have v0 : Vis (defScope s_step_truth) "step" := Or.inl rfl
  have v1 : Vis (defScope s_step_truth) "found" := Or.inl rfl
  have v2 : Vis (defScope s_step_truth) "before" := Or.inl rfl
  have v3 : Vis (defScope s_step_truth) "letter" := Or.inl rfl
  have v4 : Vis (defScope s_step_truth) "name" := Or.inl rfl
  have v5 : Vis (defScope s_step_truth) "one" := Or.inl rfl
  exact (xs_cons (xs_par2 nd n4 n5 (x_idx (x_var n0 v0) x_int) (x_idx (x_var n0 v0) x_int))
  (xs_cons (xs_if (xt_cmp hr (x_var n4 v4) (x_gstr (by exact rfl) G.c_LETTER)) (xs_cons (xs_ret (x_cmp hr (x_var n3 v3) (x_var n5 v5)))
  xs_nil) xs_nil)
  (xs_cons (xs_if (xt_cmp hr (x_var n4 v4) (x_gstr (by exact rfl) G.c_NOT)) (xs_cons (xs_ret (x_not (x_idx (x_var n1 v1) (x_var n5 v5))))
  xs_nil) xs_nil)
  (xs_cons (xs_if (xt_cmp hr (x_var n4 v4) (x_gstr (by exact rfl) G.c_EITHER)) (xs_cons (xs_ret (x_or (x_idx (x_var n1 v1) (x_var n5 v5)) (x_one (x_idx (x_var n1 v1) (x_idx (x_var n0 v0) x_int)))))
  xs_nil) xs_nil)
  (xs_cons (xs_if (xt_cmp hr (x_var n4 v4) (x_gstr (by exact rfl) G.c_AHEAD)) (xs_cons (xs_ret (x_and (x_cmp hr (x_var n2 v2) x_non) (x_one (x_idx (x_var n2 v2) (x_var n5 v5)))))
  xs_nil) xs_nil)
  (xs_cons (xs_ret (x_or (x_idx (x_var n1 v1) (x_idx (x_var n0 v0) x_int)) (x_one (x_and (x_cmp hr (x_var n2 v2) x_non) (x_and (x_idx (x_var n1 v1) (x_var n5 v5)) (x_one (x_idx (x_var n2 v2) (x_biB cb_len bb_len G.m_len (xa_cons (x_var n1 v1) xa_nil)))))))))
  xs_nil))))))
theorem b_truths_behind (G : Glb P w K mg base C k) (hr : Room k (A.deeper (envOfC "truths_behind" (defScope s_truths_behind) s.heap.objs.size f cdv))) : DSs (cxOf CX0 P w K mg base nm_truths_behind "truths_behind" (defScope s_truths_behind) f cdv A outer s H E).nox (defBody s_truths_behind) (exes C i_truths_behind) := by
  have nd := sc_truths_behind.nd
  have n0 : nm_truths_behind[0]? = some ("saying" : Str) := rfl
  have n1 : nm_truths_behind[1]? = some ("before" : Str) := rfl
  have n2 : nm_truths_behind[2]? = some ("letter" : Str) := rfl
  have n3 : nm_truths_behind[3]? = some ("found" : Str) := rfl
  have n4 : nm_truths_behind[4]? = some ("step" : Str) := rfl
  have v0 : Vis (defScope s_truths_behind) "saying" := Or.inl rfl
  have v1 : Vis (defScope s_truths_behind) "before" := Or.inl rfl
  have v2 : Vis (defScope s_truths_behind) "letter" := Or.inl rfl
  have v3 : Vis (defScope s_truths_behind) "found" := Or.inl rfl
  have v4 : Vis (defScope s_truths_behind) "step" := Or.inl rfl
  exact (xs_cons (xs_set nd n3 (x_lst xa_nil))
  (xs_cons (xs_for (xi_seq (x_var n0 v0)) (xg_name nd n4) (xs_frz (xs_cons (xs_app n3 v3 (x_call G.d_step_truth hr (xa_cons (x_var n4 v4) (xa_cons (x_var n3 v3) (xa_cons (x_var n1 v1) (xa_cons (x_var n2 v2) xa_nil))))) mside)
  xs_nil)))
  (xs_cons (xs_ret (x_biT cb_tuple bb_tuple G.m_tuple (xa_cons (x_var n3 v3) xa_nil)))
  xs_nil)))
theorem b_truths_in (G : Glb P w K mg base C k) (hr : Room k (A.deeper (envOfC "truths_in" (defScope s_truths_in) s.heap.objs.size f cdv))) : DSs (cxOf CX0 P w K mg base nm_truths_in "truths_in" (defScope s_truths_in) f cdv A outer s H E).nox (defBody s_truths_in) (exes C i_truths_in) := by
  have nd := sc_truths_in.nd
  have n0 : nm_truths_in[0]? = some ("saying" : Str) := rfl
  have n1 : nm_truths_in[1]? = some ("word" : Str) := rfl
  have n2 : nm_truths_in[2]? = some ("found" : Str) := rfl
  have n3 : nm_truths_in[3]? = some ("letter" : Str) := rfl
  have v0 : Vis (defScope s_truths_in) "saying" := Or.inl rfl
  have v1 : Vis (defScope s_truths_in) "word" := Or.inl rfl
  have v2 : Vis (defScope s_truths_in) "found" := Or.inl rfl
  have v3 : Vis (defScope s_truths_in) "letter" := Or.inl rfl
  exact (xs_cons (xs_set nd n2 (x_call G.d_truths_behind hr (xa_cons (x_var n0 v0) (xa_cons x_non (xa_cons x_non xa_nil)))))
  (xs_cons (xs_for (xi_seq (x_var n1 v1)) (xg_name nd n3) (xs_frz (xs_frz (xs_cons (xs_set nd n2 (x_call G.d_truths_behind hr (xa_cons (x_var n0 v0) (xa_cons (x_var n2 v2) (xa_cons (x_var n3 v3) xa_nil)))))
  xs_nil))))
  (xs_cons (xs_ret (x_var n2 v2))
  xs_nil)))
theorem b_truths (G : Glb P w K mg base C k) (hr : Room k (A.deeper (envOfC "truths" (defScope s_truths) s.heap.objs.size f cdv))) : DSs (cxOf CX0 P w K mg base nm_truths "truths" (defScope s_truths) f cdv A outer s H E).nox (defBody s_truths) (exes C i_truths) := by
  have nd := sc_truths.nd
  have n0 : nm_truths[0]? = some ("saying" : Str) := rfl
  have n1 : nm_truths[1]? = some ("word" : Str) := rfl
  have v0 : Vis (defScope s_truths) "saying" := Or.inl rfl
  have v1 : Vis (defScope s_truths) "word" := Or.inl rfl
  exact (xs_cons (xs_expr (x_call G.d_require_saying hr (xa_cons (x_var n0 v0) xa_nil)))
  (xs_cons (xs_expr (x_call G.d_require_word hr (xa_cons (x_var n1 v1) xa_nil)))
  (xs_cons (xs_ret (x_call G.d_truths_in hr (xa_cons (x_var n0 v0) (xa_cons (x_var n1 v1) xa_nil))))
  xs_nil)))
theorem b_holds (G : Glb P w K mg base C k) (hr : Room k (A.deeper (envOfC "holds" (defScope s_holds) s.heap.objs.size f cdv))) : DSs (cxOf CX0 P w K mg base nm_holds "holds" (defScope s_holds) f cdv A outer s H E).nox (defBody s_holds) (exes C i_holds) := by
  have nd := sc_holds.nd
  have n0 : nm_holds[0]? = some ("saying" : Str) := rfl
  have n1 : nm_holds[1]? = some ("word" : Str) := rfl
  have v0 : Vis (defScope s_holds) "saying" := Or.inl rfl
  have v1 : Vis (defScope s_holds) "word" := Or.inl rfl
  exact (xs_cons (xs_expr (x_call G.d_require_saying hr (xa_cons (x_var n0 v0) xa_nil)))
  (xs_cons (xs_expr (x_call G.d_require_word hr (xa_cons (x_var n1 v1) xa_nil)))
  (xs_cons (xs_ret (x_idx (x_call G.d_truths_in hr (xa_cons (x_var n0 v0) (xa_cons (x_var n1 v1) xa_nil))) (x_neg x_int)))
  xs_nil)))
theorem b__law_dice (G : Glb P w K mg base C k) (hr : Room k (A.deeper (envOfC "_law_dice" (defScope s__law_dice) s.heap.objs.size f cdv))) : DSs (cxOf CX0 P w K mg base nm__law_dice "_law_dice" (defScope s__law_dice) f cdv A outer s H E).nox (defBody s__law_dice) (exes C i__law_dice) := by
  have nd := sc__law_dice.nd
  have n0 : nm__law_dice[0]? = some ("script" : Str) := rfl
  have n1 : nm__law_dice[1]? = some ("at" : Str) := rfl
  have n2 : nm__law_dice[2]? = some ("cell" : Str) := rfl
  have n3 : nm__law_dice[3]? = some ("great" : Str) := rfl
  have n4 : nm__law_dice[4]? = some ("left" : Str) := rfl
  have n5 : nm__law_dice[5]? = some ("mixed" : Str) := rfl
  have v0 : Vis (defScope s__law_dice) "script" := Or.inl rfl
  have v1 : Vis (defScope s__law_dice) "at" := Or.inl rfl
  have v2 : Vis (defScope s__law_dice) "cell" := Or.inl rfl
  have v3 : Vis (defScope s__law_dice) "great" := Or.inl rfl
  have v4 : Vis (defScope s__law_dice) "left" := Or.inl rfl
  have v5 : Vis (defScope s__law_dice) "mixed" := Or.inl rfl
  exact (xs_cons (xs_set nd n2 (x_bin (x_bin x_int (x_var n1 v1)) x_int))
  (xs_cons (xs_if (xt_cmp hr (x_var n1 v1) (x_biB cb_len bb_len G.m_len (xa_cons (x_var n0 v0) xa_nil))) (xs_cons (xs_set nd n2 (x_idx (x_var n0 v0) (x_var n1 v1)))
  xs_nil) xs_nil)
  (xs_cons (xs_set nd n3 (x_bin (x_biT cb_int bb_int G.m_int (xa_cons (x_biB cb_abs bb_abs G.m_abs (xa_cons (x_var n2 v2) xa_nil)) xa_nil)) (x_bin (x_bin x_int x_int) x_int)))
  (xs_cons (xs_set nd n4 (x_bin (x_var n3 v3) (x_bin x_int x_int)))
  (xs_cons (xs_set nd n5 (x_bin (x_bin (x_bin (x_bin (x_bin (x_var n3 v3) x_int) x_int) (x_bin x_int (x_var n1 v1))) (x_bin x_int (x_biT cb_int bb_int G.m_int (xa_cons (x_cmp hr (x_var n2 v2) x_int) xa_nil)))) x_int))
  (xs_frz (xs_cons (xs_ret (x_lst (xa_cons (x_var n4 v4) (xa_cons (x_bin (x_var n5 v5) x_int) (xa_cons x_int xa_nil)))))
  xs_nil)))))))
theorem b__law_roll (G : Glb P w K mg base C k) (hr : Room k (A.deeper (envOfC "_law_roll" (defScope s__law_roll) s.heap.objs.size f cdv))) : DSs (cxOf CX0 P w K mg base nm__law_roll "_law_roll" (defScope s__law_roll) f cdv A outer s H E).nox (defBody s__law_roll) (exes C i__law_roll) := by
  have nd := sc__law_roll.nd
  have n0 : nm__law_roll[0]? = some ("dice" : Str) := rfl
  have n1 : nm__law_roll[1]? = some ("total" : Str) := rfl
  have n2 : nm__law_roll[2]? = some ("number" : Str) := rfl
  have n3 : nm__law_roll[3]? = some ("one" : Str) := rfl
  have n4 : nm__law_roll[4]? = some ("two" : Str) := rfl
  have n5 : nm__law_roll[5]? = some ("drawn" : Str) := rfl
  have v0 : Vis (defScope s__law_roll) "dice" := Or.inl rfl
  have v1 : Vis (defScope s__law_roll) "total" := Or.inl rfl
  have v2 : Vis (defScope s__law_roll) "number" := Or.inl rfl
  have v3 : Vis (defScope s__law_roll) "one" := Or.inl rfl
  have v4 : Vis (defScope s__law_roll) "two" := Or.inl rfl
  have v5 : Vis (defScope s__law_roll) "drawn" := Or.inl rfl
  exact (xs_cons (xs_set nd n2 (x_biT cb_int bb_int G.m_int (xa_cons (x_var n1 v1) xa_nil)))
  (xs_cons (xs_if (xt_cmp hr (x_idx (x_var n0 v0) x_int) x_int) (xs_cons (xs_set nd n5 (x_bin (x_idx (x_var n0 v0) x_int) (x_var n2 v2)))
  (xs_cons (xs_setI (x_var n0 v0) x_int (x_bin (x_idx (x_var n0 v0) x_int) (x_var n2 v2)))
  (xs_cons (xs_ret (x_biT cb_int bb_int G.m_int (xa_cons (x_var n5 v5) xa_nil)))
  xs_nil))) xs_nil)
  (xs_cons (xs_setI (x_var n0 v0) x_int (x_bin (x_idx (x_var n0 v0) x_int) x_int))
  (xs_cons (xs_set nd n3 (x_bin (x_bin (x_idx (x_var n0 v0) x_int) (x_bin x_int (x_idx (x_var n0 v0) x_int))) x_int))
  (xs_cons (xs_set nd n4 (x_bin (x_bin (x_bin (x_bin (x_var n3 v3) (x_var n3 v3)) x_int) (x_var n3 v3)) (x_bin x_int (x_idx (x_var n0 v0) x_int))))
  (xs_cons (xs_set nd n4 (x_bin (x_var n4 v4) x_int))
  (xs_cons (xs_ret (x_biT cb_int bb_int G.m_int (xa_cons (x_bin (x_bin (x_var n4 v4) x_int) (x_var n2 v2)) xa_nil)))
  xs_nil)))))))
theorem b__law_one_of (G : Glb P w K mg base C k) (hr : Room k (A.deeper (envOfC "_law_one_of" (defScope s__law_one_of) s.heap.objs.size f cdv))) : DSs (cxOf CX0 P w K mg base nm__law_one_of "_law_one_of" (defScope s__law_one_of) f cdv A outer s H E).nox (defBody s__law_one_of) (exes C i__law_one_of) := by
  have nd := sc__law_one_of.nd
  have n0 : nm__law_one_of[0]? = some ("dice" : Str) := rfl
  have n1 : nm__law_one_of[1]? = some ("items" : Str) := rfl
  have v0 : Vis (defScope s__law_one_of) "dice" := Or.inl rfl
  have v1 : Vis (defScope s__law_one_of) "items" := Or.inl rfl
  exact (xs_cons (xs_ret (x_idx (x_var n1 v1) (x_call G.d__law_roll hr (xa_cons (x_var n0 v0) (xa_cons (x_biB cb_len bb_len G.m_len (xa_cons (x_var n1 v1) xa_nil)) xa_nil)))))
  xs_nil)
theorem b__law_mixed (G : Glb P w K mg base C k) (hr : Room k (A.deeper (envOfC "_law_mixed" (defScope s__law_mixed) s.heap.objs.size f cdv))) : DSs (cxOf CX0 P w K mg base nm__law_mixed "_law_mixed" (defScope s__law_mixed) f cdv A outer s H E).nox (defBody s__law_mixed) (exes C i__law_mixed) := by
  have nd := sc__law_mixed.nd
  have n0 : nm__law_mixed[0]? = some ("dice" : Str) := rfl
  have n1 : nm__law_mixed[1]? = some ("items" : Str) := rfl
  have n2 : nm__law_mixed[2]? = some ("left" : Str) := rfl
  have n3 : nm__law_mixed[3]? = some ("found" : Str) := rfl
  have v0 : Vis (defScope s__law_mixed) "dice" := Or.inl rfl
  have v1 : Vis (defScope s__law_mixed) "items" := Or.inl rfl
  have v2 : Vis (defScope s__law_mixed) "left" := Or.inl rfl
  have v3 : Vis (defScope s__law_mixed) "found" := Or.inl rfl
  exact (xs_cons (xs_par2 nd n2 n3 (x_biT (cb_list rfl) bb_list G.m_list (xa_cons (x_var n1 v1) xa_nil)) (x_lst xa_nil))
  (xs_cons (xs_while (xt_cmp hr (x_var n2 v2) (x_lst xa_nil)) (xs_cons (xs_appPop n3 v3 n2 v2 (x_call G.d__law_roll hr (xa_cons (x_var n0 v0) (xa_cons (x_biB cb_len bb_len G.m_len (xa_cons (x_var n2 v2) xa_nil)) xa_nil))) mside mside)
  xs_nil))
  (xs_cons (xs_ret (x_var n3 v3))
  xs_nil)))
theorem b__law_letters (G : Glb P w K mg base C k) (hr : Room k (A.deeper (envOfC "_law_letters" (defScope s__law_letters) s.heap.objs.size f cdv))) : DSs (cxOf CX0 P w K mg base nm__law_letters "_law_letters" (defScope s__law_letters) f cdv A outer s H E).nox (defBody s__law_letters) (exes C i__law_letters) := by
  have nd := sc__law_letters.nd
  have n0 : nm__law_letters[0]? = some ("dice" : Str) := rfl
  have n1 : nm__law_letters[1]? = some ("total" : Str) := rfl
  have v0 : Vis (defScope s__law_letters) "dice" := Or.inl rfl
  have v1 : Vis (defScope s__law_letters) "total" := Or.inl rfl
  exact (xs_cons (xs_ret (x_join x_str (xa_cons (x_biB (cb_sortedR hr) bb_sorted G.m_sorted (xa_cons (x_cut (x_call G.d__law_mixed hr (xa_cons (x_var n0 v0) (xa_cons (x_biT (cb_list rfl) bb_list G.m_list (xa_cons x_str xa_nil)) xa_nil))) xo_none (xo_some (x_var n1 v1))) xa_nil)) xa_nil)))
  xs_nil)
theorem b__law_word (G : Glb P w K mg base C k) (hr : Room k (A.deeper (envOfC "_law_word" (defScope s__law_word) s.heap.objs.size f cdv))) : DSs (cxOf CX0 P w K mg base nm__law_word "_law_word" (defScope s__law_word) f cdv A outer s H E).nox (defBody s__law_word) (exes C i__law_word) := by
  have nd := sc__law_word.nd
  have n0 : nm__law_word[0]? = some ("dice" : Str) := rfl
  have n1 : nm__law_word[1]? = some ("letters" : Str) := rfl
  have n2 : nm__law_word[2]? = some ("most" : Str) := rfl
  have n3 : nm__law_word[3]? = some ("turn" : Str) := rfl
  have v0 : Vis (defScope s__law_word) "dice" := Or.inr (Or.inl rfl)
  have v2 : Vis (defScope s__law_word) "most" := Or.inl rfl
  exact (xs_cons (xs_ret (x_join x_str (xa_cons (x_lc [("turn", 3)] nd (blkOk_by (by rfl)) (xi_r1 G.m_range (x_call G.d__law_roll hr (xa_cons (x_var n0 v0) (xa_cons (x_bin (x_var n2 v2) x_int) xa_nil)))) (fun _ _ _ _ _ => (xg_name nd n3)) (fun _ _ _ _ _ => xp_none) (fun _ _ _ _ _ => (x_call G.d__law_one_of hr (xa_cons (x_var n0 (by first | exact Or.inl rfl | exact Or.inr (Or.inl rfl) | exact Or.inr (Or.inr rfl))) (xa_cons (x_biT (cb_list rfl) bb_list G.m_list (xa_cons (x_var n1 (by first | exact Or.inl rfl | exact Or.inr (Or.inl rfl) | exact Or.inr (Or.inr rfl))) xa_nil)) xa_nil))))) xa_nil)))
  xs_nil)
theorem b__law_saying (G : Glb P w K mg base C k) (hr : Room k (A.deeper (envOfC "_law_saying" (defScope s__law_saying) s.heap.objs.size f cdv))) : DSs (cxOf CX0 P w K mg base nm__law_saying "_law_saying" (defScope s__law_saying) f cdv A outer s H E).nox (defBody s__law_saying) (exes C i__law_saying) := by
  have nd := sc__law_saying.nd
  have n0 : nm__law_saying[0]? = some ("dice" : Str) := rfl
  have n1 : nm__law_saying[1]? = some ("letters" : Str) := rfl
  have n2 : nm__law_saying[2]? = some ("most" : Str) := rfl
  have n3 : nm__law_saying[3]? = some ("found" : Str) := rfl
  have n4 : nm__law_saying[4]? = some ("at" : Str) := rfl
  have n5 : nm__law_saying[5]? = some ("way" : Str) := rfl
  have n6 : nm__law_saying[6]? = some ("one" : Str) := rfl
  have n7 : nm__law_saying[7]? = some ("other" : Str) := rfl
  have v0 : Vis (defScope s__law_saying) "dice" := Or.inl rfl
  have v1 : Vis (defScope s__law_saying) "letters" := Or.inl rfl
  have v2 : Vis (defScope s__law_saying) "most" := Or.inl rfl
  have v3 : Vis (defScope s__law_saying) "found" := Or.inl rfl
  have v4 : Vis (defScope s__law_saying) "at" := Or.inl rfl
  have v5 : Vis (defScope s__law_saying) "way" := Or.inl rfl
  have v6 : Vis (defScope s__law_saying) "one" := Or.inl rfl
  have v7 : Vis (defScope s__law_saying) "other" := Or.inl rfl
  exact (xs_cons (xs_set nd n3 (x_lst (xa_cons (x_tup (xa_cons x_str (xa_cons (x_call G.d__law_one_of hr (xa_cons (x_var n0 v0) (xa_cons (x_biT (cb_list rfl) bb_list G.m_list (xa_cons (x_var n1 v1) xa_nil)) xa_nil))) xa_nil))) xa_nil)))
  (xs_cons (xs_for (xi_r2 G.m_range x_int (x_bin x_int (x_call G.d__law_roll hr (xa_cons (x_var n0 v0) (xa_cons (x_var n2 v2) xa_nil))))) (xg_name nd n4) (xs_frz (xs_cons (xs_par3 nd n5 n6 n7 (x_call G.d__law_roll hr (xa_cons (x_var n0 v0) (xa_cons x_int xa_nil))) (x_call G.d__law_roll hr (xa_cons (x_var n0 v0) (xa_cons (x_var n4 v4) xa_nil))) (x_call G.d__law_roll hr (xa_cons (x_var n0 v0) (xa_cons (x_var n4 v4) xa_nil))))
  (xs_cons (xs_if (xt_cmp hr (x_var n5 v5) x_int) (xs_cons (xs_app n3 v3 (x_tup (xa_cons x_str (xa_cons (x_call G.d__law_one_of hr (xa_cons (x_var n0 v0) (xa_cons (x_biT (cb_list rfl) bb_list G.m_list (xa_cons (x_var n1 v1) xa_nil)) xa_nil))) xa_nil))) mside)
  xs_nil) xs_nil)
  (xs_cons (xs_if (xt_cmp hr (x_var n5 v5) x_int) (xs_frz (xs_cons (xs_app n3 v3 (x_tup (xa_cons x_str (xa_cons (x_var n6 v6) xa_nil))) mside)
  xs_nil)) xs_nil)
  (xs_cons (xs_if (xt_cmp hr (x_var n5 v5) x_int) (xs_frz (xs_frz (xs_cons (xs_app n3 v3 (x_tup (xa_cons x_str (xa_cons (x_var n6 v6) (xa_cons (x_var n7 v7) xa_nil)))) mside)
  xs_nil))) xs_nil)
  (xs_cons (xs_if (xt_cmp hr (x_var n5 v5) x_int) (xs_frz (xs_cons (xs_app n3 v3 (x_tup (xa_cons x_str (xa_cons (x_var n6 v6) xa_nil))) mside)
  xs_nil)) xs_nil)
  (xs_cons (xs_if (xt_cmp hr (x_var n5 v5) x_int) (xs_frz (xs_frz (xs_cons (xs_app n3 v3 (x_tup (xa_cons x_str (xa_cons (x_var n6 v6) (xa_cons (x_var n7 v7) xa_nil)))) mside)
  xs_nil))) xs_nil)
  xs_nil))))))))
  (xs_cons (xs_ret (x_biT cb_tuple bb_tuple G.m_tuple (xa_cons (x_var n3 v3) xa_nil)))
  xs_nil)))
theorem b__law_table_of (G : Glb P w K mg base C k) (hr : Room k (A.deeper (envOfC "_law_table_of" (defScope s__law_table_of) s.heap.objs.size f cdv))) : DSs (cxOf CX0 P w K mg base nm__law_table_of "_law_table_of" (defScope s__law_table_of) f cdv A outer s H E).nox (defBody s__law_table_of) (exes C i__law_table_of) := by
  have nd := sc__law_table_of.nd
  have n0 : nm__law_table_of[0]? = some ("saying" : Str) := rfl
  have n1 : nm__law_table_of[1]? = some ("word" : Str) := rfl
  have n2 : nm__law_table_of[2]? = some ("rows" : Str) := rfl
  have n3 : nm__law_table_of[3]? = some ("step" : Str) := rfl
  have n4 : nm__law_table_of[4]? = some ("name" : Str) := rfl
  have n5 : nm__law_table_of[5]? = some ("one" : Str) := rfl
  have n6 : nm__law_table_of[6]? = some ("row" : Str) := rfl
  have n7 : nm__law_table_of[7]? = some ("end" : Str) := rfl
  have n8 : nm__law_table_of[8]? = some ("starts" : Str) := rfl
  have n9 : nm__law_table_of[9]? = some ("told" : Str) := rfl
  have n10 : nm__law_table_of[10]? = some ("at" : Str) := rfl
  have n11 : nm__law_table_of[11]? = some ("letter" : Str) := rfl
  have n12 : nm__law_table_of[12]? = some ("left" : Str) := rfl
  have n13 : nm__law_table_of[13]? = some ("right" : Str) := rfl
  have v0 : Vis (defScope s__law_table_of) "saying" := Or.inl rfl
  have v1 : Vis (defScope s__law_table_of) "word" := Or.inl rfl
  have v2 : Vis (defScope s__law_table_of) "rows" := Or.inr (Or.inl rfl)
  have v3 : Vis (defScope s__law_table_of) "step" := Or.inr (Or.inl rfl)
  have v4 : Vis (defScope s__law_table_of) "name" := Or.inl rfl
  have v5 : Vis (defScope s__law_table_of) "one" := Or.inr (Or.inl rfl)
  have v6 : Vis (defScope s__law_table_of) "row" := Or.inl rfl
  have v7 : Vis (defScope s__law_table_of) "end" := Or.inr (Or.inl rfl)
  have v8 : Vis (defScope s__law_table_of) "starts" := Or.inl rfl
  exact (xs_cons (xs_set nd n2 (x_lst xa_nil))
  (xs_cons (xs_for (xi_seq (x_var n0 v0)) (xg_name nd n3) (xs_cons (xs_asgT (x_tup (xa_cons (x_idx (x_var n3 v3) x_int) (xa_cons (x_idx (x_var n3 v3) x_int) xa_nil))) (xg_tup (xgs_cons nd n4 (xgs_cons nd n5 xgs_nil))))
  (xs_cons (xs_if (xt_cmp hr (x_var n4 v4) x_str) (xs_cons (xs_app n2 v2 (x_bin (x_lst (xa_cons x_bl xa_nil)) (x_lc [("letter", 11)] nd (blkOk_by (by rfl)) (xi_seq (x_var n1 v1)) (fun _ _ _ _ _ => (xg_name nd n11)) (fun _ _ _ _ _ => xp_none) (fun _ _ _ _ _ => (x_cmp hr (x_var n11 (by first | exact Or.inl rfl | exact Or.inr (Or.inl rfl) | exact Or.inr (Or.inr rfl))) (x_var n5 (by first | exact Or.inl rfl | exact Or.inr (Or.inl rfl) | exact Or.inr (Or.inr rfl))))))) mside)
  xs_nil) xs_nil)
  (xs_cons (xs_if (xt_cmp hr (x_var n4 v4) x_str) (xs_cons (xs_app n2 v2 (x_lc [("told", 9)] nd (blkOk_by (by rfl)) (xi_seq (x_idx (x_var n2 v2) (x_var n5 v5))) (fun _ _ _ _ _ => (xg_name nd n9)) (fun _ _ _ _ _ => xp_none) (fun _ _ _ _ _ => (x_not (x_var n9 (by first | exact Or.inl rfl | exact Or.inr (Or.inl rfl) | exact Or.inr (Or.inr rfl)))))) mside)
  xs_nil) xs_nil)
  (xs_cons (xs_if (xt_cmp hr (x_var n4 v4) x_str) (xs_cons (xs_app n2 v2 (x_lc [("left", 12), ("right", 13)] nd (blkOk_by (by rfl)) (xi_zp G.m_zip (x_idx (x_var n2 v2) (x_var n5 v5)) (x_idx (x_var n2 v2) (x_idx (x_var n3 v3) x_int))) (fun _ _ _ _ _ => (xg_tup (xgs_cons nd n12 (xgs_cons nd n13 xgs_nil)))) (fun _ _ _ _ _ => xp_none) (fun _ _ _ _ _ => (x_or (x_var n12 (by first | exact Or.inl rfl | exact Or.inr (Or.inl rfl) | exact Or.inr (Or.inr rfl))) (x_one (x_var n13 (by first | exact Or.inl rfl | exact Or.inr (Or.inl rfl) | exact Or.inr (Or.inr rfl))))))) mside)
  xs_nil) xs_nil)
  (xs_cons (xs_if (xt_cmp hr (x_var n4 v4) x_str) (xs_cons (xs_app n2 v2 (x_bin (x_lst (xa_cons x_bl xa_nil)) (x_cut (x_idx (x_var n2 v2) (x_var n5 v5)) xo_none (xo_some (x_neg x_int)))) mside)
  xs_nil) xs_nil)
  (xs_cons (xs_if (xt_cmp hr (x_var n4 v4) x_str) (xs_cons (xs_set nd n6 (x_lst xa_nil))
  (xs_cons (xs_for (xi_r1 G.m_range (x_bin (x_biB cb_len bb_len G.m_len (xa_cons (x_var n1 v1) xa_nil)) x_int)) (xg_name nd n7) (xs_cons (xs_setLc [("at", 10)] nd n8 (blkOk_by (by rfl)) (xi_r1 G.m_range (x_bin (x_var n7 v7) x_int)) (fun _ _ _ _ _ => (xg_name nd n10)) (fun _ _ _ _ _ => (xp_one (xt_val (x_idx (x_idx (x_var n2 (by first | exact Or.inl rfl | exact Or.inr (Or.inl rfl) | exact Or.inr (Or.inr rfl))) (x_idx (x_var n3 (by first | exact Or.inl rfl | exact Or.inr (Or.inl rfl) | exact Or.inr (Or.inr rfl))) x_int)) (x_var n10 (by first | exact Or.inl rfl | exact Or.inr (Or.inl rfl) | exact Or.inr (Or.inr rfl))))))) (fun _ _ _ _ _ => (x_var n10 (by first | exact Or.inl rfl | exact Or.inr (Or.inl rfl) | exact Or.inr (Or.inr rfl)))))
  (xs_cons (xs_app n6 v6 (x_cmp hr (x_lc [("at", 10)] nd (blkOk_by (by rfl)) (xi_seq (x_var n8 v8)) (fun _ _ _ _ _ => (xg_name nd n10)) (fun _ _ _ _ _ => (xp_one (xt_cmp hr x_bl (x_cut (x_idx (x_var n2 (by first | exact Or.inl rfl | exact Or.inr (Or.inl rfl) | exact Or.inr (Or.inr rfl))) (x_var n5 (by first | exact Or.inl rfl | exact Or.inr (Or.inl rfl) | exact Or.inr (Or.inr rfl)))) (xo_some (x_bin (x_var n10 (by first | exact Or.inl rfl | exact Or.inr (Or.inl rfl) | exact Or.inr (Or.inr rfl))) x_int)) (xo_some (x_bin (x_var n7 (by first | exact Or.inl rfl | exact Or.inr (Or.inl rfl) | exact Or.inr (Or.inr rfl))) x_int)))))) (fun _ _ _ _ _ => (x_var n10 (by first | exact Or.inl rfl | exact Or.inr (Or.inl rfl) | exact Or.inr (Or.inr rfl))))) (x_lst xa_nil)) mside)
  xs_nil)))
  (xs_frz (xs_cons (xs_app n2 v2 (x_var n6 v6) mside)
  xs_nil)))) xs_nil)
  xs_nil)))))))
  (xs_cons (xs_ret (x_var n2 v2))
  xs_nil)))
theorem b__law_holds (G : Glb P w K mg base C k) (hr : Room k (A.deeper (envOfC "_law_holds" (defScope s__law_holds) s.heap.objs.size f cdv))) : DSs (cxOf CX0 P w K mg base nm__law_holds "_law_holds" (defScope s__law_holds) f cdv A outer s H E).nox (defBody s__law_holds) (exes C i__law_holds) := by
  have nd := sc__law_holds.nd
  have n0 : nm__law_holds[0]? = some ("saying" : Str) := rfl
  have n1 : nm__law_holds[1]? = some ("word" : Str) := rfl
  have v0 : Vis (defScope s__law_holds) "saying" := Or.inl rfl
  have v1 : Vis (defScope s__law_holds) "word" := Or.inl rfl
  exact (xs_cons (xs_ret (x_idx (x_idx (x_call G.d__law_table_of hr (xa_cons (x_var n0 v0) (xa_cons (x_var n1 v1) xa_nil))) (x_neg x_int)) (x_neg x_int)))
  xs_nil)
theorem b__law_odd (G : Glb P w K mg base C k) (hr : Room k (A.deeper (envOfC "_law_odd" (defScope s__law_odd) s.heap.objs.size f cdv))) : DSs (cxOf CX0 P w K mg base nm__law_odd "_law_odd" (defScope s__law_odd) f cdv A outer s H E).nox (defBody s__law_odd) (exes C i__law_odd) := by
  have nd := sc__law_odd.nd
  have n0 : nm__law_odd[0]? = some ("dice" : Str) := rfl
  have n1 : nm__law_odd[1]? = some ("saying" : Str) := rfl
  have n2 : nm__law_odd[2]? = some ("some" : Str) := rfl
  have n3 : nm__law_odd[3]? = some ("last" : Str) := rfl
  have n4 : nm__law_odd[4]? = some ("way" : Str) := rfl
  have v0 : Vis (defScope s__law_odd) "dice" := Or.inl rfl
  have v1 : Vis (defScope s__law_odd) "saying" := Or.inl rfl
  have v2 : Vis (defScope s__law_odd) "some" := Or.inl rfl
  have v3 : Vis (defScope s__law_odd) "last" := Or.inl rfl
  have v4 : Vis (defScope s__law_odd) "way" := Or.inl rfl
  exact (xs_cons (xs_par2 nd n3 n4 (x_biB cb_len bb_len G.m_len (xa_cons (x_var n1 v1) xa_nil)) (x_call G.d__law_roll hr (xa_cons (x_var n0 v0) (xa_cons x_int xa_nil))))
  (xs_frz (xs_cons (xs_set nd n2 (x_lst (xa_cons (x_tup (xa_cons x_str (xa_cons x_str xa_nil))) (xa_cons (x_tup (xa_cons x_str (xa_cons x_str xa_nil))) (xa_cons (x_tup (xa_cons x_str (xa_cons x_str xa_nil))) (xa_cons (x_tup (xa_cons x_str xa_nil)) (xa_cons (x_tup (xa_cons x_str (xa_cons x_str xa_nil))) (xa_cons (x_tup (xa_cons x_str (xa_cons (x_var n3 v3) xa_nil))) (xa_cons (x_tup (xa_cons x_str (xa_cons (x_neg x_int) xa_nil))) xa_nil)))))))))
  (xs_frz (xs_cons (xs_set nd n2 (x_bin (x_var n2 v2) (x_lst (xa_cons (x_tup (xa_cons x_str (xa_cons x_bl xa_nil))) (xa_cons (x_tup (xa_cons x_str (xa_cons x_str xa_nil))) (xa_cons (x_tup (xa_cons x_str (xa_cons x_int (xa_cons x_int xa_nil)))) (xa_cons (x_tup (xa_cons x_str (xa_cons x_int xa_nil))) (xa_cons (x_tup (xa_cons x_str (xa_cons x_int (xa_cons (x_var n3 v3) xa_nil)))) (xa_cons (x_tup (xa_cons x_str (xa_cons (x_neg x_int) (xa_cons x_int xa_nil)))) (xa_cons (x_tup xa_nil) xa_nil))))))))))
  (xs_cons (xs_set nd n2 (x_bin (x_var n2 v2) (x_lst (xa_cons (x_tup (xa_cons x_str (xa_cons (x_bin (x_var n3 v3) x_int) xa_nil))) (xa_cons (x_tup (xa_cons x_str (xa_cons x_non xa_nil))) (xa_cons x_str (xa_cons x_non (xa_cons x_int (xa_cons (x_lst (xa_cons x_str (xa_cons x_int xa_nil))) (xa_cons (x_tup (xa_cons x_str (xa_cons x_int (xa_cons x_int (xa_cons x_int xa_nil))))) (xa_cons (x_tup (xa_cons x_str (xa_cons x_int (xa_cons x_int xa_nil)))) xa_nil)))))))))))
  (xs_cons (xs_if (xt_cmp hr (x_var n4 v4) x_int) (xs_frz (xs_cons (xs_ret (x_bin (x_var n1 v1) (x_tup (xa_cons (x_call G.d__law_one_of hr (xa_cons (x_var n0 v0) (xa_cons (x_var n2 v2) xa_nil))) xa_nil))))
  xs_nil)) xs_nil)
  (xs_cons (xs_if (xt_cmp hr (x_var n4 v4) x_int) (xs_cons (xs_ret (x_bin (x_tup (xa_cons (x_call G.d__law_one_of hr (xa_cons (x_var n0 v0) (xa_cons (x_bin (x_var n2 v2) (x_lst (xa_cons (x_tup (xa_cons x_str (xa_cons x_int xa_nil))) (xa_cons (x_tup (xa_cons x_str (xa_cons x_int (xa_cons x_int xa_nil)))) xa_nil)))) xa_nil))) xa_nil)) (x_var n1 v1)))
  xs_nil) xs_nil)
  (xs_cons (xs_ret (x_call G.d__law_one_of hr (xa_cons (x_var n0 v0) (xa_cons (x_lst (xa_cons x_non (xa_cons (x_tup xa_nil) (xa_cons x_int (xa_cons x_str (xa_cons (x_biT (cb_list rfl) bb_list G.m_list (xa_cons (x_var n1 v1) xa_nil)) (xa_cons x_dnew (xa_cons (x_tup (xa_cons (x_var n1 v1) xa_nil)) (xa_cons (x_idx (x_var n1 v1) x_int) (xa_cons x_bl xa_nil)))))))))) xa_nil))))
  xs_nil)))))))))
theorem b__law_right (G : Glb P w K mg base C k) (hr : Room k (A.deeper (envOfC "_law_right" (defScope s__law_right) s.heap.objs.size f cdv))) : DSs (cxOf CX0 P w K mg base nm__law_right "_law_right" (defScope s__law_right) f cdv A outer s H E).nox (defBody s__law_right) (exes C i__law_right) := by
  have nd := sc__law_right.nd
  have n0 : nm__law_right[0]? = some ("dice" : Str) := rfl
  have n1 : nm__law_right[1]? = some ("letters" : Str) := rfl
  have n2 : nm__law_right[2]? = some ("saying" : Str) := rfl
  have n3 : nm__law_right[3]? = some ("turn" : Str) := rfl
  have n4 : nm__law_right[4]? = some ("word" : Str) := rfl
  have n5 : nm__law_right[5]? = some ("rows" : Str) := rfl
  have n6 : nm__law_right[6]? = some ("size" : Str) := rfl
  have n7 : nm__law_right[7]? = some ("row" : Str) := rfl
  have v0 : Vis (defScope s__law_right) "dice" := Or.inl rfl
  have v1 : Vis (defScope s__law_right) "letters" := Or.inl rfl
  have v2 : Vis (defScope s__law_right) "saying" := Or.inl rfl
  have v4 : Vis (defScope s__law_right) "word" := Or.inl rfl
  have v5 : Vis (defScope s__law_right) "rows" := Or.inl rfl
  have v6 : Vis (defScope s__law_right) "size" := Or.inr (Or.inl rfl)
  exact (xs_cons (xs_set nd n1 (x_call G.d__law_letters hr (xa_cons (x_var n0 v0) (xa_cons (x_bin x_int (x_call G.d__law_roll hr (xa_cons (x_var n0 v0) (xa_cons x_int xa_nil)))) xa_nil))))
  (xs_frz (xs_cons (xs_set nd n2 (x_call G.d__law_saying hr (xa_cons (x_var n0 v0) (xa_cons (x_var n1 v1) (xa_cons x_int xa_nil)))))
  (xs_frz (xs_cons (xs_if (xt_w (xw_or (xt_cmp hr (x_call G.d_is_saying hr (xa_cons (x_var n2 v2) xa_nil)) x_bl) (xw_or1 (xt_cmp hr (x_call G.d_is_saying hr (xa_cons (x_call G.d__law_odd hr (xa_cons (x_var n0 v0) (xa_cons (x_var n2 v2) xa_nil))) xa_nil)) x_bl)))) (xs_cons (xs_ret x_bl)
  xs_nil) xs_nil)
  (xs_cons (xs_for (xi_r1 G.m_range x_int) (xg_name nd n3) (xs_frz (xs_cons (xs_set nd n4 (x_call G.d__law_word hr (xa_cons (x_var n0 v0) (xa_cons (x_var n1 v1) (xa_cons x_int xa_nil)))))
  (xs_frz (xs_frz (xs_cons (xs_set nd n5 (x_call G.d__law_table_of hr (xa_cons (x_var n2 v2) (xa_cons (x_var n4 v4) xa_nil))))
  (xs_cons (xs_for (xi_r1 G.m_range (x_bin (x_biB cb_len bb_len G.m_len (xa_cons (x_var n4 v4) xa_nil)) x_int)) (xg_name nd n6) (xs_frz (xs_cons (xs_if (xt_cmp hr (x_call G.d_truths hr (xa_cons (x_var n2 v2) (xa_cons (x_cut (x_var n4 v4) xo_none (xo_some (x_var n6 v6))) xa_nil))) (x_biT cb_tuple bb_tuple G.m_tuple (xa_cons (x_lc [("row", 7)] nd (blkOk_by (by rfl)) (xi_seq (x_var n5 v5)) (fun _ _ _ _ _ => (xg_name nd n7)) (fun _ _ _ _ _ => xp_none) (fun _ _ _ _ _ => (x_idx (x_var n7 (by first | exact Or.inl rfl | exact Or.inr (Or.inl rfl) | exact Or.inr (Or.inr rfl))) (x_var n6 (by first | exact Or.inl rfl | exact Or.inr (Or.inl rfl) | exact Or.inr (Or.inr rfl)))))) xa_nil))) (xs_cons (xs_ret x_bl)
  xs_nil) xs_nil)
  xs_nil)))
  (xs_frz (xs_frz (xs_cons (xs_if (xt_cmp hr (x_biB cb_repr bb_repr G.m_repr (xa_cons (x_call G.d_holds hr (xa_cons (x_var n2 v2) (xa_cons (x_var n4 v4) xa_nil))) xa_nil)) (x_biB cb_repr bb_repr G.m_repr (xa_cons (x_idx (x_idx (x_var n5 v5) (x_neg x_int)) (x_neg x_int)) xa_nil))) (xs_cons (xs_ret x_bl)
  xs_nil) xs_nil)
  (xs_frz (xs_cons (xs_if (xt_cmp hr (x_call G.d_holds hr (xa_cons (x_var n2 v2) (xa_cons (x_bin (x_var n4 v4) x_str) xa_nil))) (x_call G.d__law_holds hr (xa_cons (x_var n2 v2) (xa_cons (x_bin (x_var n4 v4) x_str) xa_nil)))) (xs_cons (xs_ret x_bl)
  xs_nil) xs_nil)
  xs_nil))))))))))))
  (xs_cons (xs_ret x_bl)
  xs_nil)))))))
theorem b_law (G : Glb P w K mg base C k) (hr : Room k (A.deeper (envOfC "law" (defScope s_law) s.heap.objs.size f cdv))) : DSs (cxOf CX0 P w K mg base nm_law "law" (defScope s_law) f cdv A outer s H E).nox (defBody s_law) (exes C i_law) := by
  have nd := sc_law.nd
  have n0 : nm_law[0]? = some ("script" : Str) := rfl
  have n1 : nm_law[1]? = some ("at" : Str) := rfl
  have n2 : nm_law[2]? = some ("some" : Str) := rfl
  have n3 : nm_law[3]? = some ("told" : Str) := rfl
  have n4 : nm_law[4]? = some ("begin" : Str) := rfl
  have n5 : nm_law[5]? = some ("more" : Str) := rfl
  have n6 : nm_law[6]? = some ("dice" : Str) := rfl
  have n7 : nm_law[7]? = some ("turn" : Str) := rfl
  have n8 : nm_law[8]? = some ("word" : Str) := rfl
  have v0 : Vis (defScope s_law) "script" := Or.inl rfl
  have v1 : Vis (defScope s_law) "at" := Or.inl rfl
  have v3 : Vis (defScope s_law) "told" := Or.inl rfl
  have v4 : Vis (defScope s_law) "begin" := Or.inl rfl
  have v5 : Vis (defScope s_law) "more" := Or.inl rfl
  have v6 : Vis (defScope s_law) "dice" := Or.inl rfl
  exact (xs_cons (xs_for (xi_r1 G.m_range (x_biB (cb_max rfl) bb_max G.m_max (xa_cons x_int (xa_cons (x_biB (cb_min rfl) bb_min G.m_min (xa_cons x_int (xa_cons (x_biB cb_len bb_len G.m_len (xa_cons (x_var n0 v0) xa_nil)) xa_nil))) xa_nil)))) (xg_name nd n1) (xs_frz (xs_cons (xs_set nd n6 (x_newMut (x_call G.d__law_dice hr (xa_cons (x_var n0 v0) (xa_cons (x_var n1 v1) xa_nil)))))
  (xs_cons (xs_for (xi_r1 G.m_range x_int) (xg_name nd n7) (xs_frz (xs_cons (xs_if (xt_not (xt_val (x_call G.d__law_right hr (xa_cons (x_var n6 v6) xa_nil)))) (xs_cons (xs_ret x_bl)
  xs_nil) xs_nil)
  xs_nil)))
  xs_nil))))
  (xs_cons (xs_set nd n2 (x_tup (xa_cons (x_tup (xa_cons x_str (xa_cons x_str xa_nil))) (xa_cons (x_tup (xa_cons x_str (xa_cons x_str xa_nil))) (xa_cons (x_tup (xa_cons x_str (xa_cons x_int xa_nil))) (xa_cons (x_tup (xa_cons x_str (xa_cons x_int (xa_cons x_int xa_nil)))) xa_nil))))))
  (xs_frz (xs_frz (xs_cons (xs_setLc [("word", 8)] nd n3 (blkOk_by (by rfl)) (xi_seq (x_tup (xa_cons x_str (xa_cons x_str (xa_cons x_str (xa_cons x_str (xa_cons x_str (xa_cons x_str xa_nil)))))))) (fun _ _ _ _ _ => (xg_name nd n8)) (fun _ _ _ _ _ => xp_none) (fun _ _ _ _ _ => (x_call G.d_holds hr (xa_cons (x_var n2 (by first | exact Or.inl rfl | exact Or.inr (Or.inl rfl) | exact Or.inr (Or.inr rfl))) (xa_cons (x_var n8 (by first | exact Or.inl rfl | exact Or.inr (Or.inl rfl) | exact Or.inr (Or.inr rfl))) xa_nil)))))
  (xs_cons (xs_set nd n4 (x_tup (xa_cons (x_tup (xa_cons x_str (xa_cons x_str xa_nil))) (xa_cons (x_tup (xa_cons x_str (xa_cons x_int xa_nil))) (xa_cons (x_tup (xa_cons x_str (xa_cons x_int (xa_cons x_int xa_nil)))) (xa_cons (x_tup (xa_cons x_str (xa_cons x_int xa_nil))) (xa_cons (x_tup (xa_cons x_str (xa_cons x_int xa_nil))) xa_nil)))))))
  (xs_frz (xs_cons (xs_setLc [("word", 8)] nd n5 (blkOk_by (by rfl)) (xi_seq (x_tup (xa_cons x_str (xa_cons x_str (xa_cons x_str (xa_cons x_str (xa_cons x_str xa_nil))))))) (fun _ _ _ _ _ => (xg_name nd n8)) (fun _ _ _ _ _ => xp_none) (fun _ _ _ _ _ => (x_call G.d_holds hr (xa_cons (x_tup (xa_cons (x_tup (xa_cons x_str (xa_cons x_str xa_nil))) (xa_cons (x_tup (xa_cons x_str (xa_cons x_int xa_nil))) xa_nil))) (xa_cons (x_var n8 (by first | exact Or.inl rfl | exact Or.inr (Or.inl rfl) | exact Or.inr (Or.inr rfl))) xa_nil)))))
  (xs_frz (xs_cons (xs_set nd n3 (x_bin (x_var n3 v3) (x_lst (xa_cons (x_call G.d_holds hr (xa_cons (x_var n4 v4) (xa_cons x_str xa_nil))) (xa_cons (x_call G.d_holds hr (xa_cons (x_var n4 v4) (xa_cons x_str xa_nil))) xa_nil)))))
  (xs_cons (xs_ret (x_cmp hr (x_bin (x_var n3 v3) (x_var n5 v5)) (x_lst (xa_cons x_bl (xa_cons x_bl (xa_cons x_bl (xa_cons x_bl (xa_cons x_bl (xa_cons x_bl (xa_cons x_bl (xa_cons x_bl (xa_cons x_bl (xa_cons x_bl (xa_cons x_bl (xa_cons x_bl (xa_cons x_bl xa_nil))))))))))))))))
  xs_nil)))))))))))
end
def PP : Nat → Option Df
  | 0 => some f_is_integer
  | 1 => some f_is_word
  | 2 => some f_require_word
  | 3 => some f_is_said_step
  | 4 => some f_is_saying
  | 5 => some f_require_saying
  | 6 => some f_step_truth
  | 7 => some f_truths_behind
  | 8 => some f_truths_in
  | 9 => some f_truths
  | 10 => some f_holds
  | 11 => some f__law_dice
  | 12 => some f__law_roll
  | 13 => some f__law_one_of
  | 14 => some f__law_mixed
  | 15 => some f__law_letters
  | 16 => some f__law_word
  | 17 => some f__law_saying
  | 18 => some f__law_table_of
  | 19 => some f__law_holds
  | 20 => some f__law_odd
  | 21 => some f__law_right
  | 22 => some f_law
  | _ => none
structure Fcts (K : PySem.W.Frag) (mg : Str → Option Value) : Prop where
  d_is_integer : ∃ (fA : Addr) (fd : FuncData), Fun K "is_integer" "is_integer" s_is_integer fA fd ∧ mg "is_integer" = some (.ref fA) ∧ Binds K fd ["value", "least", "most"] []
  d_is_word : ∃ (fA : Addr) (fd : FuncData), Fun K "is_word" "is_word" s_is_word fA fd ∧ mg "is_word" = some (.ref fA) ∧ Binds K fd ["value"] []
  d_require_word : ∃ (fA : Addr) (fd : FuncData), Fun K "require_word" "require_word" s_require_word fA fd ∧ mg "require_word" = some (.ref fA) ∧ Binds K fd ["value"] []
  d_is_said_step : ∃ (fA : Addr) (fd : FuncData), Fun K "is_said_step" "is_said_step" s_is_said_step fA fd ∧ mg "is_said_step" = some (.ref fA) ∧ Binds K fd ["value", "at"] []
  d_is_saying : ∃ (fA : Addr) (fd : FuncData), Fun K "is_saying" "is_saying" s_is_saying fA fd ∧ mg "is_saying" = some (.ref fA) ∧ Binds K fd ["value"] []
  d_require_saying : ∃ (fA : Addr) (fd : FuncData), Fun K "require_saying" "require_saying" s_require_saying fA fd ∧ mg "require_saying" = some (.ref fA) ∧ Binds K fd ["value"] []
  d_step_truth : ∃ (fA : Addr) (fd : FuncData), Fun K "step_truth" "step_truth" s_step_truth fA fd ∧ mg "step_truth" = some (.ref fA) ∧ Binds K fd ["step", "found", "before", "letter"] []
  d_truths_behind : ∃ (fA : Addr) (fd : FuncData), Fun K "truths_behind" "truths_behind" s_truths_behind fA fd ∧ mg "truths_behind" = some (.ref fA) ∧ Binds K fd ["saying", "before", "letter"] []
  d_truths_in : ∃ (fA : Addr) (fd : FuncData), Fun K "truths_in" "truths_in" s_truths_in fA fd ∧ mg "truths_in" = some (.ref fA) ∧ Binds K fd ["saying", "word"] []
  d_truths : ∃ (fA : Addr) (fd : FuncData), Fun K "truths" "truths" s_truths fA fd ∧ mg "truths" = some (.ref fA) ∧ Binds K fd ["saying", "word"] []
  d_holds : ∃ (fA : Addr) (fd : FuncData), Fun K "holds" "holds" s_holds fA fd ∧ mg "holds" = some (.ref fA) ∧ Binds K fd ["saying", "word"] []
  d__law_dice : ∃ (fA : Addr) (fd : FuncData), Fun K "_law_dice" "_law_dice" s__law_dice fA fd ∧ mg "_law_dice" = some (.ref fA) ∧ Binds K fd ["script", "at"] []
  d__law_roll : ∃ (fA : Addr) (fd : FuncData), Fun K "_law_roll" "_law_roll" s__law_roll fA fd ∧ mg "_law_roll" = some (.ref fA) ∧ Binds K fd ["dice", "total"] []
  d__law_one_of : ∃ (fA : Addr) (fd : FuncData), Fun K "_law_one_of" "_law_one_of" s__law_one_of fA fd ∧ mg "_law_one_of" = some (.ref fA) ∧ Binds K fd ["dice", "items"] []
  d__law_mixed : ∃ (fA : Addr) (fd : FuncData), Fun K "_law_mixed" "_law_mixed" s__law_mixed fA fd ∧ mg "_law_mixed" = some (.ref fA) ∧ Binds K fd ["dice", "items"] []
  d__law_letters : ∃ (fA : Addr) (fd : FuncData), Fun K "_law_letters" "_law_letters" s__law_letters fA fd ∧ mg "_law_letters" = some (.ref fA) ∧ Binds K fd ["dice", "total"] []
  d__law_word : ∃ (fA : Addr) (fd : FuncData), Fun K "_law_word" "_law_word" s__law_word fA fd ∧ mg "_law_word" = some (.ref fA) ∧ Binds K fd ["dice", "letters", "most"] []
  d__law_saying : ∃ (fA : Addr) (fd : FuncData), Fun K "_law_saying" "_law_saying" s__law_saying fA fd ∧ mg "_law_saying" = some (.ref fA) ∧ Binds K fd ["dice", "letters", "most"] []
  d__law_table_of : ∃ (fA : Addr) (fd : FuncData), Fun K "_law_table_of" "_law_table_of" s__law_table_of fA fd ∧ mg "_law_table_of" = some (.ref fA) ∧ Binds K fd ["saying", "word"] []
  d__law_holds : ∃ (fA : Addr) (fd : FuncData), Fun K "_law_holds" "_law_holds" s__law_holds fA fd ∧ mg "_law_holds" = some (.ref fA) ∧ Binds K fd ["saying", "word"] []
  d__law_odd : ∃ (fA : Addr) (fd : FuncData), Fun K "_law_odd" "_law_odd" s__law_odd fA fd ∧ mg "_law_odd" = some (.ref fA) ∧ Binds K fd ["dice", "saying"] []
  d__law_right : ∃ (fA : Addr) (fd : FuncData), Fun K "_law_right" "_law_right" s__law_right fA fd ∧ mg "_law_right" = some (.ref fA) ∧ Binds K fd ["dice"] []
  d_law : ∃ (fA : Addr) (fd : FuncData), Fun K "law" "law" s_law fA fd ∧ mg "law" = some (.ref fA) ∧ Binds K fd ["script"] []
  m_abs : mg "abs" = none
  m_all : mg "all" = none
  m_bool : mg "bool" = none
  m_enumerate : mg "enumerate" = none
  m_int : mg "int" = none
  m_isinstance : mg "isinstance" = none
  m_len : mg "len" = none
  m_list : mg "list" = none
  m_max : mg "max" = none
  m_min : mg "min" = none
  m_range : mg "range" = none
  m_repr : mg "repr" = none
  m_sorted : mg "sorted" = none
  m_str : mg "str" = none
  m_tuple : mg "tuple" = none
  m_zip : mg "zip" = none
  c_AHEAD : ∃ t, mg "AHEAD" = some (.str "ahead" t)
  c_EITHER : ∃ t, mg "EITHER" = some (.str "either" t)
  c_LETTER : ∃ t, mg "LETTER" = some (.str "letter" t)
  c_LETTERS : ∃ t, mg "LETTERS" = some (.str "abcdefghijklmnopqrstuvwxyz" t)
  c_NOT : ∃ t, mg "NOT" = some (.str "not" t)
theorem glb {P : Program} {w : World} {K : PySem.W.Frag} {mg : Str → Option Value} (X : Fcts K mg) (base : Heap) : ∀ k, Glb P w K mg base (callN PP k) k
  | 0 => ⟨let ⟨a, b, h1, h2, h3⟩ := X.d_is_integer; ⟨⟨a, b, _, df_zero (ps := ["value", "least", "most"]), h2, h1.kp, h3⟩, len0 (df := f_is_integer) rfl rfl⟩, let ⟨a, b, h1, h2, h3⟩ := X.d_is_word; ⟨⟨a, b, _, df_zero (ps := ["value"]), h2, h1.kp, h3⟩, len0 (df := f_is_word) rfl rfl⟩, let ⟨a, b, h1, h2, h3⟩ := X.d_require_word; ⟨⟨a, b, _, df_zero (ps := ["value"]), h2, h1.kp, h3⟩, len0 (df := f_require_word) rfl rfl⟩, let ⟨a, b, h1, h2, h3⟩ := X.d_is_said_step; ⟨⟨a, b, _, df_zero (ps := ["value", "at"]), h2, h1.kp, h3⟩, len0 (df := f_is_said_step) rfl rfl⟩, let ⟨a, b, h1, h2, h3⟩ := X.d_is_saying; ⟨⟨a, b, _, df_zero (ps := ["value"]), h2, h1.kp, h3⟩, len0 (df := f_is_saying) rfl rfl⟩, let ⟨a, b, h1, h2, h3⟩ := X.d_require_saying; ⟨⟨a, b, _, df_zero (ps := ["value"]), h2, h1.kp, h3⟩, len0 (df := f_require_saying) rfl rfl⟩, let ⟨a, b, h1, h2, h3⟩ := X.d_step_truth; ⟨⟨a, b, _, df_zero (ps := ["step", "found", "before", "letter"]), h2, h1.kp, h3⟩, len0 (df := f_step_truth) rfl rfl⟩, let ⟨a, b, h1, h2, h3⟩ := X.d_truths_behind; ⟨⟨a, b, _, df_zero (ps := ["saying", "before", "letter"]), h2, h1.kp, h3⟩, len0 (df := f_truths_behind) rfl rfl⟩, let ⟨a, b, h1, h2, h3⟩ := X.d_truths_in; ⟨⟨a, b, _, df_zero (ps := ["saying", "word"]), h2, h1.kp, h3⟩, len0 (df := f_truths_in) rfl rfl⟩, let ⟨a, b, h1, h2, h3⟩ := X.d_truths; ⟨⟨a, b, _, df_zero (ps := ["saying", "word"]), h2, h1.kp, h3⟩, len0 (df := f_truths) rfl rfl⟩, let ⟨a, b, h1, h2, h3⟩ := X.d_holds; ⟨⟨a, b, _, df_zero (ps := ["saying", "word"]), h2, h1.kp, h3⟩, len0 (df := f_holds) rfl rfl⟩, let ⟨a, b, h1, h2, h3⟩ := X.d__law_dice; ⟨⟨a, b, _, df_zero (ps := ["script", "at"]), h2, h1.kp, h3⟩, len0 (df := f__law_dice) rfl rfl⟩, let ⟨a, b, h1, h2, h3⟩ := X.d__law_roll; ⟨⟨a, b, _, df_zero (ps := ["dice", "total"]), h2, h1.kp, h3⟩, len0 (df := f__law_roll) rfl rfl⟩, let ⟨a, b, h1, h2, h3⟩ := X.d__law_one_of; ⟨⟨a, b, _, df_zero (ps := ["dice", "items"]), h2, h1.kp, h3⟩, len0 (df := f__law_one_of) rfl rfl⟩, let ⟨a, b, h1, h2, h3⟩ := X.d__law_mixed; ⟨⟨a, b, _, df_zero (ps := ["dice", "items"]), h2, h1.kp, h3⟩, len0 (df := f__law_mixed) rfl rfl⟩, let ⟨a, b, h1, h2, h3⟩ := X.d__law_letters; ⟨⟨a, b, _, df_zero (ps := ["dice", "total"]), h2, h1.kp, h3⟩, len0 (df := f__law_letters) rfl rfl⟩, let ⟨a, b, h1, h2, h3⟩ := X.d__law_word; ⟨⟨a, b, _, df_zero (ps := ["dice", "letters", "most"]), h2, h1.kp, h3⟩, len0 (df := f__law_word) rfl rfl⟩, let ⟨a, b, h1, h2, h3⟩ := X.d__law_saying; ⟨⟨a, b, _, df_zero (ps := ["dice", "letters", "most"]), h2, h1.kp, h3⟩, len0 (df := f__law_saying) rfl rfl⟩, let ⟨a, b, h1, h2, h3⟩ := X.d__law_table_of; ⟨⟨a, b, _, df_zero (ps := ["saying", "word"]), h2, h1.kp, h3⟩, len0 (df := f__law_table_of) rfl rfl⟩, let ⟨a, b, h1, h2, h3⟩ := X.d__law_holds; ⟨⟨a, b, _, df_zero (ps := ["saying", "word"]), h2, h1.kp, h3⟩, len0 (df := f__law_holds) rfl rfl⟩, let ⟨a, b, h1, h2, h3⟩ := X.d__law_odd; ⟨⟨a, b, _, df_zero (ps := ["dice", "saying"]), h2, h1.kp, h3⟩, len0 (df := f__law_odd) rfl rfl⟩, let ⟨a, b, h1, h2, h3⟩ := X.d__law_right; ⟨⟨a, b, _, df_zero (ps := ["dice"]), h2, h1.kp, h3⟩, len0 (df := f__law_right) rfl rfl⟩, let ⟨a, b, h1, h2, h3⟩ := X.d_law; ⟨⟨a, b, _, df_zero (ps := ["script"]), h2, h1.kp, h3⟩, len0 (df := f_law) rfl rfl⟩, X.m_abs, X.m_all, X.m_bool, X.m_enumerate, X.m_int, X.m_isinstance, X.m_len, X.m_list, X.m_max, X.m_min, X.m_range, X.m_repr, X.m_sorted, X.m_str, X.m_tuple, X.m_zip, X.c_AHEAD, X.c_EITHER, X.c_LETTER, X.c_LETTERS, X.c_NOT⟩
  | k + 1 => ⟨let ⟨a, b, h1, h2, h3⟩ := X.d_is_integer; ⟨⟨a, b, _, df_ok (df := f_is_integer) h1 sc_is_integer rfl rfl rfl (fun _ _ _ _ _ _ hr => b_is_integer (glb X base k) hr), h2, h1.kp, h3⟩, len0 (df := f_is_integer) rfl rfl⟩, let ⟨a, b, h1, h2, h3⟩ := X.d_is_word; ⟨⟨a, b, _, df_ok (df := f_is_word) h1 sc_is_word rfl rfl rfl (fun _ _ _ _ _ _ hr => b_is_word (glb X base k) hr), h2, h1.kp, h3⟩, len0 (df := f_is_word) rfl rfl⟩, let ⟨a, b, h1, h2, h3⟩ := X.d_require_word; ⟨⟨a, b, _, df_ok (df := f_require_word) h1 sc_require_word rfl rfl rfl (fun _ _ _ _ _ _ hr => b_require_word (glb X base k) hr), h2, h1.kp, h3⟩, len0 (df := f_require_word) rfl rfl⟩, let ⟨a, b, h1, h2, h3⟩ := X.d_is_said_step; ⟨⟨a, b, _, df_ok (df := f_is_said_step) h1 sc_is_said_step rfl rfl rfl (fun _ _ _ _ _ _ hr => b_is_said_step (glb X base k) hr), h2, h1.kp, h3⟩, len0 (df := f_is_said_step) rfl rfl⟩, let ⟨a, b, h1, h2, h3⟩ := X.d_is_saying; ⟨⟨a, b, _, df_ok (df := f_is_saying) h1 sc_is_saying rfl rfl rfl (fun _ _ _ _ _ _ hr => b_is_saying (glb X base k) hr), h2, h1.kp, h3⟩, len0 (df := f_is_saying) rfl rfl⟩, let ⟨a, b, h1, h2, h3⟩ := X.d_require_saying; ⟨⟨a, b, _, df_ok (df := f_require_saying) h1 sc_require_saying rfl rfl rfl (fun _ _ _ _ _ _ hr => b_require_saying (glb X base k) hr), h2, h1.kp, h3⟩, len0 (df := f_require_saying) rfl rfl⟩, let ⟨a, b, h1, h2, h3⟩ := X.d_step_truth; ⟨⟨a, b, _, df_ok (df := f_step_truth) h1 sc_step_truth rfl rfl rfl (fun _ _ _ _ _ _ hr => b_step_truth (glb X base k) hr), h2, h1.kp, h3⟩, len0 (df := f_step_truth) rfl rfl⟩, let ⟨a, b, h1, h2, h3⟩ := X.d_truths_behind; ⟨⟨a, b, _, df_ok (df := f_truths_behind) h1 sc_truths_behind rfl rfl rfl (fun _ _ _ _ _ _ hr => b_truths_behind (glb X base k) hr), h2, h1.kp, h3⟩, len0 (df := f_truths_behind) rfl rfl⟩, let ⟨a, b, h1, h2, h3⟩ := X.d_truths_in; ⟨⟨a, b, _, df_ok (df := f_truths_in) h1 sc_truths_in rfl rfl rfl (fun _ _ _ _ _ _ hr => b_truths_in (glb X base k) hr), h2, h1.kp, h3⟩, len0 (df := f_truths_in) rfl rfl⟩, let ⟨a, b, h1, h2, h3⟩ := X.d_truths; ⟨⟨a, b, _, df_ok (df := f_truths) h1 sc_truths rfl rfl rfl (fun _ _ _ _ _ _ hr => b_truths (glb X base k) hr), h2, h1.kp, h3⟩, len0 (df := f_truths) rfl rfl⟩, let ⟨a, b, h1, h2, h3⟩ := X.d_holds; ⟨⟨a, b, _, df_ok (df := f_holds) h1 sc_holds rfl rfl rfl (fun _ _ _ _ _ _ hr => b_holds (glb X base k) hr), h2, h1.kp, h3⟩, len0 (df := f_holds) rfl rfl⟩, let ⟨a, b, h1, h2, h3⟩ := X.d__law_dice; ⟨⟨a, b, _, df_ok (df := f__law_dice) h1 sc__law_dice rfl rfl rfl (fun _ _ _ _ _ _ hr => b__law_dice (glb X base k) hr), h2, h1.kp, h3⟩, len0 (df := f__law_dice) rfl rfl⟩, let ⟨a, b, h1, h2, h3⟩ := X.d__law_roll; ⟨⟨a, b, _, df_ok (df := f__law_roll) h1 sc__law_roll rfl rfl rfl (fun _ _ _ _ _ _ hr => b__law_roll (glb X base k) hr), h2, h1.kp, h3⟩, len0 (df := f__law_roll) rfl rfl⟩, let ⟨a, b, h1, h2, h3⟩ := X.d__law_one_of; ⟨⟨a, b, _, df_ok (df := f__law_one_of) h1 sc__law_one_of rfl rfl rfl (fun _ _ _ _ _ _ hr => b__law_one_of (glb X base k) hr), h2, h1.kp, h3⟩, len0 (df := f__law_one_of) rfl rfl⟩, let ⟨a, b, h1, h2, h3⟩ := X.d__law_mixed; ⟨⟨a, b, _, df_ok (df := f__law_mixed) h1 sc__law_mixed rfl rfl rfl (fun _ _ _ _ _ _ hr => b__law_mixed (glb X base k) hr), h2, h1.kp, h3⟩, len0 (df := f__law_mixed) rfl rfl⟩, let ⟨a, b, h1, h2, h3⟩ := X.d__law_letters; ⟨⟨a, b, _, df_ok (df := f__law_letters) h1 sc__law_letters rfl rfl rfl (fun _ _ _ _ _ _ hr => b__law_letters (glb X base k) hr), h2, h1.kp, h3⟩, len0 (df := f__law_letters) rfl rfl⟩, let ⟨a, b, h1, h2, h3⟩ := X.d__law_word; ⟨⟨a, b, _, df_ok (df := f__law_word) h1 sc__law_word rfl rfl rfl (fun _ _ _ _ _ _ hr => b__law_word (glb X base k) hr), h2, h1.kp, h3⟩, len0 (df := f__law_word) rfl rfl⟩, let ⟨a, b, h1, h2, h3⟩ := X.d__law_saying; ⟨⟨a, b, _, df_ok (df := f__law_saying) h1 sc__law_saying rfl rfl rfl (fun _ _ _ _ _ _ hr => b__law_saying (glb X base k) hr), h2, h1.kp, h3⟩, len0 (df := f__law_saying) rfl rfl⟩, let ⟨a, b, h1, h2, h3⟩ := X.d__law_table_of; ⟨⟨a, b, _, df_ok (df := f__law_table_of) h1 sc__law_table_of rfl rfl rfl (fun _ _ _ _ _ _ hr => b__law_table_of (glb X base k) hr), h2, h1.kp, h3⟩, len0 (df := f__law_table_of) rfl rfl⟩, let ⟨a, b, h1, h2, h3⟩ := X.d__law_holds; ⟨⟨a, b, _, df_ok (df := f__law_holds) h1 sc__law_holds rfl rfl rfl (fun _ _ _ _ _ _ hr => b__law_holds (glb X base k) hr), h2, h1.kp, h3⟩, len0 (df := f__law_holds) rfl rfl⟩, let ⟨a, b, h1, h2, h3⟩ := X.d__law_odd; ⟨⟨a, b, _, df_ok (df := f__law_odd) h1 sc__law_odd rfl rfl rfl (fun _ _ _ _ _ _ hr => b__law_odd (glb X base k) hr), h2, h1.kp, h3⟩, len0 (df := f__law_odd) rfl rfl⟩, let ⟨a, b, h1, h2, h3⟩ := X.d__law_right; ⟨⟨a, b, _, df_ok (df := f__law_right) h1 sc__law_right rfl rfl rfl (fun _ _ _ _ _ _ hr => b__law_right (glb X base k) hr), h2, h1.kp, h3⟩, len0 (df := f__law_right) rfl rfl⟩, let ⟨a, b, h1, h2, h3⟩ := X.d_law; ⟨⟨a, b, _, df_ok (df := f_law) h1 sc_law rfl rfl rfl (fun _ _ _ _ _ _ hr => b_law (glb X base k) hr), h2, h1.kp, h3⟩, len0 (df := f_law) rfl rfl⟩, X.m_abs, X.m_all, X.m_bool, X.m_enumerate, X.m_int, X.m_isinstance, X.m_len, X.m_list, X.m_max, X.m_min, X.m_range, X.m_repr, X.m_sorted, X.m_str, X.m_tuple, X.m_zip, X.c_AHEAD, X.c_EITHER, X.c_LETTER, X.c_LETTERS, X.c_NOT⟩
end NT.Law

set_option Elab.async false
set_option linter.all false
set_option maxRecDepth 100000
set_option maxHeartbeats 2000000
set_option autoImplicit false
namespace NT.Law
open PySem PySem.Spec PyProof.Rows L2 NT

/-! what a step is -/
inductive St where
  | lt (c : Nat) | nt (i : Nat) | ei (i j : Nat) | ah (i : Nat) | si (i j : Nat)
def toD : St → D
  | .lt c => .tup [.str "letter", .str (ch c)]
  | .nt i => .tup [.str "not", .int i]
  | .ei i j => .tup [.str "either", .int i, .int j]
  | .ah i => .tup [.str "ahead", .int i]
  | .si i j => .tup [.str "since", .int i, .int j]
abbrev LT : Str := "abcdefghijklmnopqrstuvwxyz"
def inLT (d : D) : Bool := (inD d (.str LT)).getD false
def isw (z : Str) : Bool := (signs z).all inLT
def sInt (d : D) (hi : Int) : Bool := match d with | .int v => !decide (v < 0) && decide (v ≤ hi) | _ => false
def sdS (l : List D) (at_ : Int) : Bool := match l with
  | .str z :: x :: r =>
    if z = "letter" then r.isEmpty && (match x with | .str w => isw w && decide (w.length = 1) | _ => false)
    else if z = "not" ∨ z = "ahead" then r.isEmpty && sInt x (at_ - 1)
    else if z = "either" ∨ z = "since" then (match r with | [y] => sInt x (at_ - 1) && sInt y (at_ - 1) | _ => false)
    else false
  | _ => false
def sd (d : D) (at_ : Int) : Bool := match d with | .tup l => sdS l at_ | _ => false
def nc : D → Bool | .mut _ => false | .scr _ => false | _ => true
theorem nc_dp {n : Nat} {d : D} (h : D.dp n d = true) : nc d = true := by
  cases d <;> first | rfl | (simp [D.dp] at h)

section
variable {k : Nat} {μ : Mu}
theorem is_integer_spec {d : D} {hi : Int} (h : nc d = true) : callN PP (k + 1) 0 [d, .int 0, .int hi] μ = .ok (.bl (sInt d hi), false) μ := by
  rw [call_eq (df := f_is_integer) rfl rfl]
  cases d <;> first | (simp [nc] at h; done) | skip
  case int v =>
    by_cases h1 : v < 0
    · simp [f_is_integer, i_is_integer, biD, typD, sInt, h1]
    · simp [f_is_integer, i_is_integer, biD, typD, sInt, h1, cmpD, isD, D.isNon, ordD, cmpI]
  all_goals simp [f_is_integer, i_is_integer, biD, typD, sInt]
theorem sign_in {d : D} {z : Str} (h : d ∈ signs z) : (inD d (.str LT)) = some (inLT d) := by
  obtain ⟨c, _, rfl⟩ := List.mem_map.mp h
  rfl
theorem is_word_spec {d : D} (h : nc d = true) : callN PP (k + 1) 1 [d] μ = .ok (.bl (match d with | .str z => isw z | _ => false), false) μ := by
  rw [call_eq (df := f_is_word) rfl rfl]
  cases d <;> first | (simp [nc] at h; done) | skip
  case str z =>
    have e : lcGo (.name 1) (evc (callN PP k) none) (ev (callN PP k) (.cmp .In (.var 1) (.c (.str LT)))) [.ok (.str z), .no] (signs z) [] μ = .ok ([] ++ (signs z).map fun d => .bl (inLT d)) μ :=
      lcGo_map fun x hx => ⟨_, rfl, by simp, .pl, by simp [cmpD, sign_in hx], rfl⟩
    have e2 : (((signs z).map inLT).all id) = isw z := by simp [isw]
    simp [f_is_word, i_is_word, biD, typD, iterD, rowD, e, bls_map, isw]
  all_goals simp [f_is_word, i_is_word, biD, typD]
theorem said_step_spec {d : D} {at_ : Int} (h : nc d = true) (hl : ∀ l, d = .tup l → ∀ x ∈ l, nc x = true) : callN PP (k + 2) 3 [d, .int at_] μ = .ok (.bl (sd d at_), false) μ := by
  rw [call_eq (df := f_is_said_step) rfl rfl]
  cases d <;> first | (simp [nc] at h; done) | skip
  case tup l =>
    have hl' := hl l rfl
    clear hl
    match l, hl' with
    | [], _ => simp [f_is_said_step, i_is_said_step, biD, typD, sd, sdS]
    | [x], _ => cases x <;> simp [f_is_said_step, i_is_said_step, biD, typD, sd, sdS]
    | x :: y :: r, hl =>
      have hx := hl x (by simp)
      have hy := hl y (by simp)
      have l2 : ¬ ((r.length : Int) + 1 + 1 < 2) := by omega
      cases x <;> first | (simp [nc] at hx; done) | skip
      case str z =>
        have e1 : exe (callN PP (k + 1)) (.ifs (.or (.not (.bi (.isi .tuple) [(.var 0)])) (.or (.cmp .Lt (.bi .len [(.var 0)]) (.c (.int 2))) (.not (.bi (.isi .str) [(.idx (.var 0) (.c (.int 0)))])))) [.ret (.c (.bl false))] []) [.ok (.tup (.str z :: y :: r)), .ok (.int at_), .no] μ = .ok (.nx [.ok (.tup (.str z :: y :: r)), .ok (.int at_), .no]) μ := by
          simp [biD, typD, l2]
        show (exes (callN PP (k + 1)) i_is_said_step [.ok (.tup (.str z :: y :: r)), .ok (.int at_), .no] μ).bind endK = _
        unfold i_is_said_step
        rw [exes_cons, e1]
        have hz : (r.length : Int) + 1 + 1 = 2 ↔ r = [] := by rw [← List.length_eq_zero_iff]; omega
        have hz3 : (r.length : Int) + 1 + 1 = 3 ↔ ∃ w, r = [w] := by rw [← List.length_eq_one_iff]; omega
        have ce : ∀ w : Str, ([w] : List Str).contains z = decide (z = w) := fun w => by simp [List.contains_cons]
        have ce2 : ∀ w w' : Str, ([w, w'] : List Str).contains z = decide (z = w ∨ z = w') := fun w w' => by simp [List.contains_cons]
        rw [RE.ok_bind, seqK_nx, exes_cons, exe_mtch]
        have e2 : ev (callN PP (k + 1)) (.idx (.var 0) (.c (.int 0))) [.ok (.tup (.str z :: y :: r)), .ok (.int at_), .no] μ = .ok (.str z, .pl) μ := by simp
        rw [e2, RE.ok_bind, mtchK_eq, exm_cons, exm_cons, exm_cons, exm_nil, ce, ce2, ce2]
        have hnn : nc y = true := hy
        by_cases h1 : z = "letter"
        · rw [if_pos (decide_eq_true h1)]
          by_cases hr : r = []
          · subst hr
            have e3 := is_word_spec (k := k) (μ := μ) hy
            cases y <;> first | (simp [nc] at hy; done) | skip
            case str w =>
              cases hw : isw w <;> simp [biD, e3, hw, sd, sdS, h1, eqD_int]
              omega
            all_goals simp [biD, e3, sd, sdS, h1]
          · have hq : ¬ ((r.length : Int) + 1 + 1 = 2) := fun q => hr (hz.mp q)
            simp [biD, hq, sd, sdS, h1, hr]
        rw [if_neg (by simp [h1])]
        by_cases h2 : z = "not" ∨ z = "ahead"
        · rw [if_pos (decide_eq_true h2)]
          by_cases hr : r = []
          · subst hr
            have e3 := is_integer_spec (k := k) (μ := μ) (hi := at_ - 1) hy
            simp [biD, e3, sd, sdS, h1, h2]
          · have hq : ¬ ((r.length : Int) + 1 + 1 = 2) := fun q => hr (hz.mp q)
            simp [biD, hq, sd, sdS, h1, h2, hr]
        rw [if_neg (by simp [h2])]
        by_cases h3 : z = "either" ∨ z = "since"
        · rw [if_pos (decide_eq_true h3)]
          by_cases hr : ∃ w, r = [w]
          · obtain ⟨w, rfl⟩ := hr
            have hw := hl w (by simp)
            have e3 : lcGo (.name 2) (evc (callN PP (k + 1)) none) (ev (callN PP (k + 1)) (.call 0 [(.var 2), (.c (.int 0)), (.bin .Sub (.var 1) (.c (.int 1)))])) [.ok (.tup [.str z, y, w]), .ok (.int at_), .no] [y, w] [] μ = .ok ([] ++ [y, w].map fun d => .bl (sInt d (at_ - 1))) μ :=
              lcGo_map fun x hx => by
                have hx : nc x = true := by
                  rcases List.mem_cons.mp hx with rfl | hx
                  · exact hy
                  · rcases List.mem_cons.mp hx with rfl | hx
                    · exact hw
                    · cases hx
                have e4 := is_integer_spec (k := k) (μ := μ) (hi := at_ - 1) hx
                exact ⟨_, rfl, by simp, .pl, by simp [e4], rfl⟩
            have ec : cutD (.tup [.str z, y, w]) (some 1) none = some (.tup [y, w], .pl) := rfl
            simp [biD, frzSlot, ec, iterD, rowD, e3, blsD, sd, sdS, h1, h2, h3]
          · have hq : ¬ ((r.length : Int) + 1 + 1 = 3) := fun q => hr (hz3.mp q)
            have hs : sd (.tup (.str z :: y :: r)) at_ = false := by
              simp only [sd, sdS, h1, h2, h3, if_true, if_false]
              match r, hr with
              | [], _ => rfl
              | [w], hr => exact absurd ⟨w, rfl⟩ hr
              | _ :: _ :: _, _ => rfl
            simp [biD, frzSlot, hq, hs]
        · rw [if_neg (by simp [h3])]
          simp [sd, sdS, h1, h2, h3]
      all_goals simp [f_is_said_step, i_is_said_step, biD, typD, sd, sdS, l2]
  all_goals simp [f_is_said_step, i_is_said_step, biD, typD, sd]
/-! sayings -/
def isSayL : Nat → List D → Bool
  | _, [] => true
  | i, d :: r => sd d i && isSayL (i + 1) r
def isSay (d : D) : Bool := match d with | .tup l => !l.isEmpty && isSayL 0 l | _ => false
def enF (d : D) : D := match d with | .tup [.int i, x] => .bl (sd x i) | _ => .non
theorem en_map : ∀ (i : Nat) (l : List D), ∃ bs : List Bool, (enumD i l).map enF = bs.map (fun b => .bl b) ∧ bs.all id = isSayL i l
  | i, [] => ⟨[], rfl, rfl⟩
  | i, d :: r => by
    obtain ⟨bs, h1, h2⟩ := en_map (i + 1) r
    exact ⟨sd d i :: bs, by simp [enumD, enF, h1], by simp [isSayL, ← h2]⟩
theorem en_mem : ∀ {i : Nat} {l : List D} {x : D}, x ∈ enumD i l → ∃ (j : Nat) (y : D), x = .tup [.int j, y] ∧ y ∈ l
  | _, [], _, h => by simp [enumD] at h
  | i, d :: r, x, h => by
    rcases List.mem_cons.mp h with rfl | h
    · exact ⟨i, d, rfl, List.mem_cons_self⟩
    · obtain ⟨j, y, e, hy⟩ := en_mem h
      exact ⟨j, y, e, List.mem_cons_of_mem _ hy⟩
theorem eqD_nil_tup {l : List D} (h : D.dpL 7 l = true) : eqD (.tup l) (.tup []) = some l.isEmpty := by
  have h1 : D.dp 8 (.tup l) = true := by simp only [D.dp]; exact h
  have h2 : D.dp 8 (.tup []) = true := rfl
  unfold eqD
  simp only [h1, h2, Bool.and_self, if_true]
  cases l with
  | nil => rfl
  | cons x xs => rfl
theorem is_saying_spec {d : D} (h : D.dp 8 d = true ∨ d = .dct []) : callN PP (k + 3) 4 [d] μ = .ok (.bl (isSay d), false) μ := by
  rw [call_eq (df := f_is_saying) rfl rfl]
  rcases h with h | rfl
  · cases d <;> first | (simp [D.dp] at h; done) | skip
    case tup l =>
      have hl : D.dpL 7 l = true := by simpa only [D.dp] using h
      by_cases he : l = []
      · subst he
        simp [f_is_saying, i_is_saying, biD, typD, eqD_nil_tup (l := []) rfl, isSay]
      · have hne : l.isEmpty = false := by cases l with | nil => exact absurd rfl he | cons _ _ => rfl
        have e3 : lcGo (.tup [1, 2]) (evc (callN PP (k + 2)) none) (ev (callN PP (k + 2)) (.call 3 [(.var 2), (.var 1)])) [.ok (.tup l), .no, .no] (enumD 0 l) [] μ = .ok ([] ++ (enumD 0 l).map enF) μ :=
          lcGo_map fun x hx => by
            obtain ⟨j, y, rfl, hy⟩ := en_mem hx
            have hy := dpL_all.mp hl y hy
            have e4 := said_step_spec (k := k) (μ := μ) (at_ := j) (nc_dp hy) fun l' e z hz => by
              subst e
              simp only [D.dp] at hy
              exact nc_dp (dpL_all.mp hy z hz)
            exact ⟨_, rfl, by simp, .pl, by simp [e4, enF], rfl⟩
        obtain ⟨bs, h1, h2⟩ := en_map 0 l
        rw [h1] at e3
        have h3 : blsD (bs.map fun b => .bl b) = some bs := by rw [bls_map (p := fun b => b)]; simp
        simp [f_is_saying, i_is_saying, biD, typD, eqD_nil_tup hl, hne, frzSlot, iterD, rowD, e3, h3, h2, isSay, he]
    all_goals simp [f_is_saying, i_is_saying, biD, typD, isSay]
  · simp [f_is_saying, i_is_saying, biD, typD, isSay]
theorem require_saying_spec {d : D} (h : D.dp 8 d = true) (hs : isSay d = true) : callN PP (k + 4) 5 [d] μ = .ok (.non, false) μ := by
  rw [call_eq (df := f_require_saying) rfl rfl]
  simp [f_require_saying, i_require_saying, is_saying_spec (k := k) (μ := μ) (.inl h), hs]
theorem require_word_spec {z : Str} (hs : isw z = true) : callN PP (k + 2) 2 [.str z] μ = .ok (.non, false) μ := by
  rw [call_eq (df := f_require_word) rfl rfl]
  simp [f_require_word, i_require_word, is_word_spec (k := k) (μ := μ) (d := .str z) rfl, hs]

/-! truths step by step -/
def bls (f : List Bool) : List D := f.map fun b => .bl b
def befD : Option (List Bool) → D | none => .non | some b => .tup (bls b)
def letD : Option Nat → D | none => .non | some c => .str (ch c)
def gt (f : List Bool) (i : Nat) : Bool := f.getD i false
def stv : St → List Bool → Option (List Bool) → Option Nat → Bool
  | .lt c, _, _, l => decide (l = some c)
  | .nt i, f, _, _ => !gt f i
  | .ei i j, f, _, _ => gt f i || gt f j
  | .ah i, _, b, _ => match b with | none => false | some b => gt b i
  | .si i j, f, b, _ => gt f j || (match b with | none => false | some b => gt f i && gt b f.length)
def stOk (n m : Nat) : St → Prop
  | .lt _ => True
  | .nt i => i < n
  | .ei i j => i < n ∧ j < n
  | .ah i => i < m
  | .si i j => i < n ∧ j < n ∧ n < m
theorem atI_bls {f : List Bool} {i : Nat} (h : i < f.length) : atI (bls f) (i : Int) = some (.bl (gt f i)) := by
  rw [atI_nat (by simpa [bls] using h)]
  simp [bls, gt, List.getElem?_eq_getElem h]
def befL (n : Nat) : Option (List Bool) → Nat | none => n + 1 | some b => b.length
def lOk : St → Prop | .lt c => c < 0x110000 | _ => True
theorem step_truth_spec {s : St} {f : List Bool} {b : Option (List Bool)} {l : Option Nat} (h : stOk f.length (befL f.length b) s) (hc : lOk s) :
    callN PP (k + 1) 6 [toD s, .lst (bls f), befD b, letD l] μ = .ok (.bl (stv s f b l), false) μ := by
  rw [call_eq (df := f_step_truth) rfl rfl]
  have hfl : (bls f).length = f.length := by simp [bls]
  cases s with
  | lt c =>
    have hc : c < 1114112 := hc
    cases l with
    | none => simp [f_step_truth, i_step_truth, toD, letD, stv, eqD, D.dp, D.py, PyData.eqv, ch, PyData.strOk, hc]
    | some c' => simp [f_step_truth, i_step_truth, toD, letD, stv, ch_inj]
  | nt i =>
    have e1 := atI_bls (f := f) (i := i) h
    simp [f_step_truth, i_step_truth, toD, stv, e1]
  | ei i j =>
    have e1 := atI_bls (f := f) (i := i) h.1
    have e2 := atI_bls (f := f) (i := j) h.2
    cases hv : gt f i <;> simp [f_step_truth, i_step_truth, toD, stv, e1, e2, hv]
  | ah i =>
    cases b with
    | none => simp [f_step_truth, i_step_truth, toD, stv, befD, cmpD, isD, D.isNon]
    | some b =>
      have e1 := atI_bls (f := b) (i := i) h
      simp [f_step_truth, i_step_truth, toD, stv, befD, cmpD, isD, D.isNon, e1]
  | si i j =>
    have e1 := atI_bls (f := f) (i := i) h.1
    have e2 := atI_bls (f := f) (i := j) h.2.1
    cases hv : gt f j with
    | true => simp [f_step_truth, i_step_truth, toD, stv, e1, e2, hv]
    | false =>
      cases b with
      | none => simp [f_step_truth, i_step_truth, toD, stv, befD, cmpD, isD, D.isNon, e1, e2, hv]
      | some b =>
        have e3 := atI_bls (f := b) (i := f.length) h.2.2
        cases hw : gt f i <;> simp [f_step_truth, i_step_truth, toD, stv, befD, cmpD, isD, D.isNon, e1, e2, e3, hv, hw, biD, hfl]
end
end NT.Law

set_option Elab.async false
set_option linter.all false
set_option maxRecDepth 100000
set_option maxHeartbeats 2000000
set_option autoImplicit false
namespace NT.Law
open PySem PySem.Spec PyProof.Rows L2 NT

def okAt (t : Nat) : St → Prop
  | .lt c => c < 0x110000
  | .nt i => i < t
  | .ei i j => i < t ∧ j < t
  | .ah i => i < t
  | .si i j => i < t ∧ j < t
theorem okAt.st {t m : Nat} {s : St} (h : okAt t s) (hm : t < m) : stOk t m s ∧ lOk s := by
  cases s <;> simp [okAt, stOk, lOk] at h ⊢ <;> omega
structure Val (ss : List St) : Prop where
  ok : ∀ (t : Nat) (s : St), ss[t]? = some s → okAt t s
  ne : ss ≠ []
  len : ss.length ≤ 1000
def behG (b : Option (List Bool)) (l : Option Nat) : List St → List Bool → List Bool
  | [], f => f
  | s :: r, f => behG b l r (f ++ [stv s f b l])
theorem behG_len {b : Option (List Bool)} {l : Option Nat} : ∀ (ss : List St) (f : List Bool), (behG b l ss f).length = f.length + ss.length
  | [], f => rfl
  | s :: r, f => by
    unfold behG
    rw [behG_len r]
    simp
    omega
theorem behG_snoc {b : Option (List Bool)} {l : Option Nat} : ∀ (ss : List St) (s : St) (f : List Bool), behG b l (ss ++ [s]) f = behG b l ss f ++ [stv s (behG b l ss f) b l]
  | [], s, f => rfl
  | x :: r, s, f => by
    show behG b l (r ++ [s]) _ = _
    rw [behG_snoc r s]
    rfl
def beh (ss : List St) (b : Option (List Bool)) (l : Option Nat) : List Bool := behG b l ss []
def sayD (ss : List St) : D := .tup (ss.map toD)
def befOk (n : Nat) : Option (List Bool) → Prop | none => True | some b => b.length = n
theorem bls_snoc {f : List Bool} {v : Bool} : bls (f ++ [v]) = bls f ++ [.bl v] := by simp [bls]
theorem take_snoc {α : Type} {l : List α} {i : Nat} {x : α} (h : l[i]? = some x) : l.take (i + 1) = l.take i ++ [x] := by
  rw [List.take_succ, h]; rfl

section
variable {k : Nat} {μ : Mu}
theorem behind_spec {ss : List St} {b : Option (List Bool)} {l : Option Nat} (h : Val ss) (hb : befOk ss.length b) (hf : μ.all (·.all D.flat) = true) :
    callN PP (k + 2) 7 [sayD ss, befD b, letD l] μ = .ok (.tup (bls (beh ss b l)), false) μ := by
  rw [call_eq (df := f_truths_behind) rfl rfl]
  obtain ⟨g', μ', e, rfl, x, rfl⟩ := forGo_all (t := .name 4) (b := exes (callN PP (k + 1)) [.frz 4, .app 3 (.call 6 [(.var 4), (.var 3), (.var 1), (.var 2)])]) (items := ss.map toD) (g := [.ok (sayD ss), .ok (befD b), .ok (letD l), .own [], .no]) (μ := μ)
    (fun i g μ' => μ' = μ ∧ ∃ x, g = [.ok (sayD ss), .ok (befD b), .ok (letD l), .own (bls (behG b l (ss.take i) [])), x]) ⟨rfl, .no, rfl⟩ (by
      rintro i x g μ' hi ⟨rfl, x4, rfl⟩
      rw [List.getElem?_map] at hi
      obtain ⟨s, hs, rfl⟩ := Option.map_eq_some_iff.mp hi
      have hil : i < ss.length := (List.getElem?_eq_some_iff.mp hs).1
      have hlen : (behG b l (ss.take i) []).length = i := by rw [behG_len, List.length_take, Nat.min_eq_left (by omega)]; simp
      have hm : i < befL i b := by
        cases b with
        | none => exact Nat.lt_succ_self i
        | some b => have : b.length = ss.length := hb; show i < b.length; omega
      have hok := (h.ok i s hs).st hm
      have e3 := step_truth_spec (k := k) (μ := μ') (s := s) (f := behG b l (ss.take i) []) (b := b) (l := l) (by rw [hlen]; exact hok.1) hok.2
      have hz : (bls (behG b l (ss.take i) [])).length < SZ := by
        have := h.len
        simp only [bls, List.length_map, hlen]
        show i < 16777216
        omega
      have ea := appK_ok (g := [.ok (sayD ss), .ok (befD b), .ok (letD l), .own (bls (behG b l (ss.take i) [])), .ok (toD s)]) (μ := μ') (i := 3) (d := .bl (stv s (behG b l (ss.take i) []) b l)) (q := .pl) rfl rfl hz
      refine ⟨_, rfl, [.ok (sayD ss), .ok (befD b), .ok (letD l), .own (bls (behG b l (ss.take (i + 1)) [])), .ok (toD s)], μ', .inl ?_, rfl, _, rfl⟩
      rw [take_snoc hs, behG_snoc, bls_snoc]
      simp [frzSlot, e3, D.flat, hf, ea])
  have e2 : ss.take (ss.map toD).length = ss := by rw [List.length_map]; exact List.take_length
  rw [e2] at e
  have e' : (sayD ss) = .tup (ss.map toD) := rfl
  simp [f_truths_behind, i_truths_behind, iterD, e', rowD]
  rw [← e', e]
  simp [biD, beh]
def tr (ss : List St) (w : List Nat) : List Bool := w.foldl (fun f c => beh ss (some f) (some c)) (beh ss none none)
theorem beh_len {ss : List St} {b : Option (List Bool)} {l : Option Nat} : (beh ss b l).length = ss.length := by unfold beh; rw [behG_len]; simp
theorem tr_len {ss : List St} (w : List Nat) : (tr ss w).length = ss.length := by
  unfold tr
  have : ∀ (w : List Nat) (f : List Bool), f.length = ss.length → (w.foldl (fun f c => beh ss (some f) (some c)) f).length = ss.length := fun w => by
    induction w with
    | nil => intro f h; exact h
    | cons c w ih => intro f h; exact ih _ beh_len
  exact this w _ beh_len
theorem tr_snoc {ss : List St} {w : List Nat} {c : Nat} : tr ss (w ++ [c]) = beh ss (some (tr ss w)) (some c) := by simp [tr, List.foldl_append]
theorem truths_in_spec {ss : List St} {w : List Nat} (h : Val ss) (hf : μ.all (·.all D.flat) = true) : callN PP (k + 3) 8 [sayD ss, .str (st w)] μ = .ok (.tup (bls (tr ss w)), false) μ := by
  rw [call_eq (df := f_truths_in) rfl rfl]
  obtain ⟨g', μ', e, rfl, x, rfl⟩ := forGo_all (t := .name 3) (b := exes (callN PP (k + 2)) [.frz 2, .frz 3, .asg 2 (.call 7 [(.var 0), (.var 2), (.var 3)])]) (items := chs w) (g := [.ok (sayD ss), .ok (.str (st w)), .ok (.tup (bls (beh ss none none))), .no]) (μ := μ)
    (fun i g μ' => μ' = μ ∧ ∃ x, g = [.ok (sayD ss), .ok (.str (st w)), .ok (.tup (bls (tr ss (w.take i)))), x]) ⟨rfl, .no, rfl⟩ (by
      rintro i x g μ' hi ⟨rfl, x3, rfl⟩
      obtain ⟨c, hc, rfl⟩ := Option.map_eq_some_iff.mp ((List.getElem?_map ..).symm.trans hi)
      have e3 := behind_spec (k := k) (μ := μ') (b := some (tr ss (w.take i))) (l := some c) h (tr_len _) hf
      refine ⟨_, rfl, [.ok (sayD ss), .ok (.str (st w)), .ok (.tup (bls (tr ss (w.take (i + 1))))), .ok (.str (ch c))], μ', .inl ?_, rfl, _, rfl⟩
      rw [take_snoc hc, tr_snoc]
      simp only [befD, letD] at e3
      simp [frzSlot, e3])
  have e2 : w.take (chs w).length = w := by rw [chs_len]; exact List.take_length
  rw [e2] at e
  have e4 := behind_spec (k := k) (μ := μ') (b := none) (l := none) h trivial hf
  simp only [befD, letD] at e4
  simp [f_truths_in, i_truths_in, e4, iterD, rowD_str, e]
theorem truths_spec {ss : List St} {w : List Nat} (h : Val ss) (hs : isSay (sayD ss) = true) (hd : D.dp 8 (sayD ss) = true) (hw : isw (st w) = true) (hf : μ.all (·.all D.flat) = true) : callN PP (k + 5) 9 [sayD ss, .str (st w)] μ = .ok (.tup (bls (tr ss w)), false) μ := by
  rw [call_eq (df := f_truths) rfl rfl]
  simp [f_truths, i_truths, require_saying_spec (k := k) (μ := μ) hd hs, require_word_spec (k := k + 2) (μ := μ) hw, truths_in_spec (k := k + 1) (μ := μ) (w := w) h hf]
theorem holds_spec {ss : List St} {w : List Nat} (h : Val ss) (hs : isSay (sayD ss) = true) (hd : D.dp 8 (sayD ss) = true) (hw : isw (st w) = true) (hf : μ.all (·.all D.flat) = true) : callN PP (k + 5) 10 [sayD ss, .str (st w)] μ = .ok (.bl (gt (tr ss w) (ss.length - 1)), false) μ := by
  rw [call_eq (df := f_holds) rfl rfl]
  have hl : 0 < ss.length := List.length_pos_iff.mpr h.ne
  have e1 : atI (bls (tr ss w)) (-1) = some (.bl (gt (tr ss w) (ss.length - 1))) := by
    have e2 := atI_bls (f := tr ss w) (i := ss.length - 1) (by rw [tr_len]; omega)
    have e3 : ∀ (l : List D), 0 < l.length → atI l (-1) = atI l ((l.length - 1 : Nat) : Int) := fun l hl => by
      unfold atI ixN
      rw [if_neg (by omega), if_pos (by omega), if_pos (by omega), if_pos (by omega)]
      congr 1
      congr 1
      omega
    rw [e3 _ (by simp [bls, tr_len, hl])]
    have e4 : (bls (tr ss w)).length = ss.length := by simp [bls, tr_len]
    rw [e4]
    exact e2
  simp [f_holds, i_holds, require_saying_spec (k := k) (μ := μ) hd hs, require_word_spec (k := k + 2) (μ := μ) hw, truths_in_spec (k := k + 1) (μ := μ) (w := w) h hf, e1]
end
end NT.Law

set_option Elab.async false
set_option linter.all false
set_option maxRecDepth 100000
set_option maxHeartbeats 4000000
set_option autoImplicit false
namespace NT.Law
open PySem PySem.Spec PyProof.Rows L2 NT

def gr (r : List (List Bool)) (i : Nat) : List Bool := r.getD i []
def sinceAt (a b : List Bool) (e : Nat) : Bool := !(((List.range (e + 1)).filter (gt b)).filter fun p => !((a.drop (p + 1)).take (e + 1 - (p + 1))).contains false).isEmpty
def rowOf (w : List Nat) (r : List (List Bool)) : St → List Bool
  | .lt c => false :: w.map fun x => decide (x = c)
  | .nt i => (gr r i).map (!·)
  | .ei i j => List.zipWith (· || ·) (gr r i) (gr r j)
  | .ah i => false :: (gr r i).dropLast
  | .si i j => (List.range (w.length + 1)).map fun e => sinceAt (gr r i) (gr r j) e
def tabG (w : List Nat) : List St → List (List Bool) → List (List Bool)
  | [], r => r
  | s :: ss, r => tabG w ss (r ++ [rowOf w r s])
def tab (ss : List St) (w : List Nat) : List (List Bool) := tabG w ss []
theorem tabG_snoc {w : List Nat} : ∀ (ss : List St) (s : St) (r : List (List Bool)), tabG w (ss ++ [s]) r = tabG w ss r ++ [rowOf w (tabG w ss r) s]
  | [], s, r => rfl
  | x :: ss, s, r => by
    show tabG w (ss ++ [s]) _ = _
    rw [tabG_snoc ss s]
    rfl
theorem tabG_len {w : List Nat} : ∀ (ss : List St) (r : List (List Bool)), (tabG w ss r).length = r.length + ss.length
  | [], r => rfl
  | x :: ss, r => by
    unfold tabG
    rw [tabG_len ss]
    simp
    omega
/-- all rows have their length -/
def RowL (n : Nat) (r : List (List Bool)) : Prop := ∀ x ∈ r, x.length = n
theorem gr_mem {r : List (List Bool)} {i : Nat} (h : i < r.length) : gr r i ∈ r := by
  simp [gr, List.getElem?_eq_getElem h]
theorem rowOf_len {w : List Nat} {r : List (List Bool)} {s : St} (h : RowL (w.length + 1) r) (hs : okAt r.length s) : (rowOf w r s).length = w.length + 1 := by
  cases s with
  | lt c => simp [rowOf]
  | nt i => simp [rowOf, h _ (gr_mem hs)]
  | ei i j => simp [rowOf, h _ (gr_mem hs.1), h _ (gr_mem hs.2)]
  | ah i => simp [rowOf, h _ (gr_mem hs)]
  | si i j => simp [rowOf]
def rowsD (r : List (List Bool)) : List D := r.map fun x => .lst (bls x)
theorem atI_rows {r : List (List Bool)} {i : Nat} (h : i < r.length) : atI (rowsD r) (i : Int) = some (.lst (bls (gr r i))) := by
  rw [atI_nat (by simpa [rowsD] using h)]
  simp [rowsD, gr, List.getElem?_eq_getElem h]
theorem bls_len {f : List Bool} : (bls f).length = f.length := by simp [bls]

section
variable {C : Cs} {μ : Mu}
theorem lc_letter {w : List Nat} {c : Nat} {x0 x1 x2 x3 x4 x6 x7 x8 x9 x10 x12 x13 : Slot} :
    lcGo (.name 11) (evc C none) (ev C (.cmp .Eq (.var 11) (.var 5))) [x0, x1, x2, x3, x4, .ok (.str (ch c)), x6, x7, x8, x9, x10, .no, x12, x13] (chs w) [] μ = .ok (bls (w.map fun x => decide (x = c))) μ := by
  have h := lcGo_map (t := .name 11) (cond := evc C none) (el := ev C (.cmp .Eq (.var 11) (.var 5))) (g := [x0, x1, x2, x3, x4, .ok (.str (ch c)), x6, x7, x8, x9, x10, .no, x12, x13]) (μ := μ) (items := chs w) (acc := [])
    (f := fun d => match d with | .str z => .bl (decide (z = ch c)) | _ => .non) fun x hx => by
      obtain ⟨d, _, rfl⟩ := List.mem_map.mp hx
      exact ⟨_, rfl, by simp, .pl, by simp, rfl⟩
  rw [h]
  simp [chs, bls, ch_inj, Function.comp_def]
theorem lc_not {f : List Bool} {x0 x1 x2 x3 x4 x5 x6 x7 x8 x10 x11 x12 x13 : Slot} :
    lcGo (.name 9) (evc C none) (ev C (.not (.var 9))) [x0, x1, x2, x3, x4, x5, x6, x7, x8, .no, x10, x11, x12, x13] (bls f) [] μ = .ok (bls (f.map (!·))) μ := by
  have h := lcGo_map (t := .name 9) (cond := evc C none) (el := ev C (.not (.var 9))) (g := [x0, x1, x2, x3, x4, x5, x6, x7, x8, .no, x10, x11, x12, x13]) (μ := μ) (items := bls f) (acc := [])
    (f := fun d => match d with | .bl z => .bl (!z) | _ => .non) fun x hx => by
      obtain ⟨d, _, rfl⟩ := List.mem_map.mp hx
      exact ⟨_, rfl, by simp, .pl, by simp, rfl⟩
  rw [h]
  simp [bls, Function.comp_def]
theorem zip_bls : ∀ (a b : List Bool), zipD (bls a) (bls b) = (a.zip b).map fun p => .tup [.bl p.1, .bl p.2]
  | [], _ => by simp [bls, zipD]
  | _ :: _, [] => by simp [bls, zipD]
  | x :: a, y :: b => by
    show D.tup [.bl x, .bl y] :: zipD (bls a) (bls b) = _
    rw [zip_bls a b]; rfl
theorem lc_or {a b : List Bool} {x0 x1 x2 x3 x4 x5 x6 x7 x8 x9 x10 x11 : Slot} :
    lcGo (.tup [12, 13]) (evc C none) (ev C (.or (.var 12) (.var 13))) [x0, x1, x2, x3, x4, x5, x6, x7, x8, x9, x10, x11, .no, .no] (zipD (bls a) (bls b)) [] μ = .ok (bls (List.zipWith (· || ·) a b)) μ := by
  have h := lcGo_map (t := .tup [12, 13]) (cond := evc C none) (el := ev C (.or (.var 12) (.var 13))) (g := [x0, x1, x2, x3, x4, x5, x6, x7, x8, x9, x10, x11, .no, .no]) (μ := μ) (items := zipD (bls a) (bls b)) (acc := [])
    (f := fun d => match d with | .tup [.bl z, .bl y] => .bl (z || y) | _ => .non) fun x hx => by
      rw [zip_bls] at hx
      obtain ⟨⟨z, y⟩, _, rfl⟩ := List.mem_map.mp hx
      exact ⟨_, rfl, by simp, .pl, by cases z <;> simp, rfl⟩
  rw [h, zip_bls]
  simp [bls, Function.comp_def, List.zip, List.map_zipWith]
def ints' (l : List Nat) : List D := l.map fun (n : Nat) => D.int (n : Int)
theorem intL_ints {n : Nat} : intL 0 n = ints' (List.range n) := by simp [intL, ints']
theorem dp_ints {l : List Nat} : D.dpL 7 (ints' l) = true := dpL_all.mpr fun d hd => by
  obtain ⟨n, _, rfl⟩ := List.mem_map.mp hd
  rfl
theorem dp_bls {n : Nat} {l : List Bool} : D.dpL n (bls l) = true := dpL_all.mpr fun d hd => by
  obtain ⟨n, _, rfl⟩ := List.mem_map.mp hd
  unfold D.dp; rfl
theorem notin_bls {f : List Bool} : cmpD .NotIn (.bl false) (.lst (bls f)) = some (!f.contains false) := by
  have h1 : D.dp 8 (.bl false) = true := rfl
  have h2 : (bls f).any (fun z => PyData.eqv z.py (D.bl false).py) = f.contains false := by
    induction f with
    | nil => rfl
    | cons b f ih =>
      show (PyData.eqv (D.bl b).py (D.bl false).py || (bls f).any _) = _
      rw [ih]
      cases b <;> simp [D.py, PyData.eqv]
  show (inD (.bl false) (.lst (bls f))).map (!·) = _
  simp only [inD, memD, h1, dp_bls, Bool.and_self, if_true, h2, Option.map_some]
theorem cut_bls {f : List Bool} {p e : Nat} (hp : p ≤ e) (he : e < f.length) : cutD (.lst (bls f)) (some ((p : Int) + 1)) (some ((e : Int) + 1)) = some (.lst (bls ((f.drop (p + 1)).take (e + 1 - (p + 1)))), .fr) := by
  have e1 : (p : Int) + 1 = ((p + 1 : Nat) : Int) := by omega
  have e2 : (e : Int) + 1 = ((e + 1 : Nat) : Int) := by omega
  rw [e1, e2]
  simp only [cutD, cutL, HT.sIx_nat, bls_len]
  rw [Nat.min_eq_left (show p + 1 ≤ f.length by omega), Nat.min_eq_left (show e + 1 ≤ f.length by omega)]
  simp [bls, List.map_take, List.map_drop]
theorem lc_starts {r : List (List Bool)} {i j e n : Nat} {x0 x1 x4 x5 x6 x7 x8 x9 x11 x12 x13 : Slot} (hj : j < r.length) (hr : RowL n r) (he : e < n) :
    lcGo (.name 10) (evc C (some (.idx (.idx (.var 2) (.idx (.var 3) (.c (.int 2)))) (.var 10)))) (ev C (.var 10)) [x0, x1, .own (rowsD r), .ok (toD (.si i j)), x4, x5, x6, x7, x8, x9, .no, x11, x12, x13] (intL 0 (e + 1)) [] μ = .ok (ints' ((List.range (e + 1)).filter (gt (gr r j)))) μ := by
  have hl : (gr r j).length = n := hr _ (gr_mem hj)
  have h := lcGo_filter (t := .name 10) (cond := evc C (some (.idx (.idx (.var 2) (.idx (.var 3) (.c (.int 2)))) (.var 10)))) (el := ev C (.var 10)) (g := [x0, x1, .own (rowsD r), .ok (toD (.si i j)), x4, x5, x6, x7, x8, x9, .no, x11, x12, x13]) (μ := μ) (items := intL 0 (e + 1)) (acc := [])
    (f := fun d => d) (p := fun d => match d with | .int v => gt (gr r j) v.toNat | _ => false) fun x hx => by
      rw [intL_ints] at hx
      obtain ⟨p, hp, rfl⟩ := List.mem_map.mp hx
      have hp := List.mem_range.mp hp
      have e1 := atI_rows hj
      have e2 := atI_bls (f := gr r j) (i := p) (by omega)
      refine ⟨_, rfl, by simp [toD, e1, e2], fun _ => ⟨.pl, by simp, rfl⟩⟩
  rw [h, intL_ints]
  simp [ints', List.filter_map, Function.comp_def]
theorem lc_since {r : List (List Bool)} {l : List Nat} {i e n : Nat} {x0 x1 x3 x4 x6 x8 x9 x11 x12 x13 : Slot} (hi : i < r.length) (hr : RowL n r) (he : e < n) (hl : ∀ p ∈ l, p ≤ e) :
    lcGo (.name 10) (evc C (some (.cmp .NotIn (.c (.bl false)) (.cut (.idx (.var 2) (.var 5)) (some (.bin .Add (.var 10) (.c (.int 1)))) (some (.bin .Add (.var 7) (.c (.int 1)))))))) (ev C (.var 10)) [x0, x1, .own (rowsD r), x3, x4, .ok (.int i), x6, .ok (.int e), x8, x9, .no, x11, x12, x13] (ints' l) [] μ =
      .ok (ints' (l.filter fun p => !(((gr r i).drop (p + 1)).take (e + 1 - (p + 1))).contains false)) μ := by
  have hll : (gr r i).length = n := hr _ (gr_mem hi)
  have h := lcGo_filter (t := .name 10) (cond := evc C (some (.cmp .NotIn (.c (.bl false)) (.cut (.idx (.var 2) (.var 5)) (some (.bin .Add (.var 10) (.c (.int 1)))) (some (.bin .Add (.var 7) (.c (.int 1)))))))) (el := ev C (.var 10)) (g := [x0, x1, .own (rowsD r), x3, x4, .ok (.int i), x6, .ok (.int e), x8, x9, .no, x11, x12, x13]) (μ := μ) (items := ints' l) (acc := [])
    (f := fun d => d) (p := fun d => match d with | .int v => !(((gr r i).drop (v.toNat + 1)).take (e + 1 - (v.toNat + 1))).contains false | _ => false) fun x hx => by
      obtain ⟨p, hp, rfl⟩ := List.mem_map.mp hx
      have hp := hl p hp
      have e1 := atI_rows hi
      have e2 := cut_bls (f := gr r i) (p := p) (e := e) hp (by omega)
      have e3 := notin_bls (f := ((gr r i).drop (p + 1)).take (e + 1 - (p + 1)))
      refine ⟨_, rfl, ?_, fun _ => ⟨.pl, by simp, rfl⟩⟩
      simp only [evc_some, ev_cmp, ev_c, RE.ok_bind, cmpK1_eq, ev_cut, ev_idx, ev_var, List.getElem?_cons_succ, List.getElem?_cons_zero, varK_own, varK_ok, idxK_eq, idxK2_eq, idxD_lst, idxD_tup, e1, Option.map_some, RE.of_some, cutK_eq, evo_some, ev_bin, binK_eq, binK2_eq, binD_add, oK_eq, cutK2_eq, cutK3_eq, List.set_cons_succ, List.set_cons_zero, e2, cmpK2_eq, e3, truK_eq, Int.toNat_natCast]
  rw [h]
  simp [ints', List.filter_map, Function.comp_def]
abbrev gS (S : D) (w : List Nat) (r : List (List Bool)) (i j : Nat) (x4 : Slot) (row : List D) (x7 x8 x9 x10 x11 x12 x13 : Slot) : Slots := [.ok S, .ok (.str (st w)), .own (rowsD r), .ok (toD (.si i j)), x4, .ok (.int i), .own row, x7, x8, x9, x10, x11, x12, x13]
theorem it_range {m : Nat} (h : m ≤ 10000) : iterD .range [.int ((m : Int) + 1)] = some (intL 0 (m + 1)) := by
  have e1 : ((m : Int) + 1).toNat = m + 1 := by omega
  simp only [iterD, e1]
  rw [if_pos ⟨by omega, by omega⟩]
section
variable {S : D} {w : List Nat} {r : List (List Bool)} {i j m : Nat} {x4 y8 x9 x10 x11 x12 x13 : Slot} {row : List D} {starts fin : List Nat}
theorem s_one (hml : m ≤ 10000)
    (l1 : lcGo (.name 10) (evc C (some (.idx (.idx (.var 2) (.idx (.var 3) (.c (.int 2)))) (.var 10)))) (ev C (.var 10)) (gS S w r i j x4 row (.ok (.int m)) y8 x9 .no x11 x12 x13) (intL 0 (m + 1)) [] μ = .ok (ints' starts) μ) :
    exe C (.asg 8 (.lc [10] .range [(.bin .Add (.var 7) (.c (.int 1)))] (.name 10) (some (.idx (.idx (.var 2) (.idx (.var 3) (.c (.int 2)))) (.var 10))) (.var 10))) (gS S w r i j x4 row (.ok (.int m)) y8 x9 x10 x11 x12 x13) μ = .ok (.nx (gS S w r i j x4 row (.ok (.int m)) (.own (ints' starts)) x9 x10 x11 x12 x13)) μ := by
  have e1 : evs C [(.bin .Add (.var 7) (.c (.int 1)))] (gS S w r i j x4 row (.ok (.int m)) y8 x9 x10 x11 x12 x13) μ = .ok [(.int ((m : Int) + 1), .pl)] μ := rfl
  rw [exe_asg, ev_lc, e1, RE.ok_bind, lcK_eq]
  show ((lcK1 C _ _ _ _ (iterD .range [.int ((m : Int) + 1)]) μ).bind _) = _
  rw [it_range hml, lcK1_some]
  show (((lcGo (.name 10) _ _ (gS S w r i j x4 row (.ok (.int m)) y8 x9 .no x11 x12 x13) (intL 0 (m + 1)) [] μ).bind _).bind _) = _
  rw [l1]
  rfl
theorem s_two (hz : row.length < SZ)
    (l2 : lcGo (.name 10) (evc C (some (.cmp .NotIn (.c (.bl false)) (.cut (.idx (.var 2) (.var 5)) (some (.bin .Add (.var 10) (.c (.int 1)))) (some (.bin .Add (.var 7) (.c (.int 1)))))))) (ev C (.var 10)) (gS S w r i j x4 row (.ok (.int m)) (.own (ints' starts)) x9 .no x11 x12 x13) (ints' starts) [] μ = .ok (ints' fin) μ) :
    exe C (.app 6 (.cmp .NotEq (.lc [10] .seq [(.var 8)] (.name 10) (some (.cmp .NotIn (.c (.bl false)) (.cut (.idx (.var 2) (.var 5)) (some (.bin .Add (.var 10) (.c (.int 1)))) (some (.bin .Add (.var 7) (.c (.int 1))))))) (.var 10)) (.lst []))) (gS S w r i j x4 row (.ok (.int m)) (.own (ints' starts)) x9 x10 x11 x12 x13) μ = .ok (.nx (gS S w r i j x4 (row ++ [.bl (!fin.isEmpty)]) (.ok (.int m)) (.own (ints' starts)) x9 x10 x11 x12 x13)) μ := by
  have q1 := eqD_nil_lst (l := ints' fin) dp_ints
  have hem : (ints' fin).isEmpty = fin.isEmpty := by cases fin <;> rfl
  have ea := appK_ok (g := gS S w r i j x4 row (.ok (.int m)) (.own (ints' starts)) x9 x10 x11 x12 x13) (μ := μ) (i := 6) (d := .bl (!fin.isEmpty)) (q := .pl) rfl rfl hz
  have e1 : evs C [.var 8] (gS S w r i j x4 row (.ok (.int m)) (.own (ints' starts)) x9 x10 x11 x12 x13) μ = .ok [(.lst (ints' starts), .bo 8)] μ := rfl
  have e2 : ev C (.lc [10] .seq [(.var 8)] (.name 10) (some (.cmp .NotIn (.c (.bl false)) (.cut (.idx (.var 2) (.var 5)) (some (.bin .Add (.var 10) (.c (.int 1)))) (some (.bin .Add (.var 7) (.c (.int 1))))))) (.var 10)) (gS S w r i j x4 row (.ok (.int m)) (.own (ints' starts)) x9 x10 x11 x12 x13) μ = .ok (.lst (ints' fin), .fr) μ := by
    rw [ev_lc, e1, RE.ok_bind, lcK_eq]
    show (lcGo (.name 10) _ _ (gS S w r i j x4 row (.ok (.int m)) (.own (ints' starts)) x9 .no x11 x12 x13) (ints' starts) [] μ).bind _ = _
    rw [l2]
    rfl
  have e3 : cmpD .NotEq (.lst (ints' fin)) (.lst []) = some (!fin.isEmpty) := by rw [cmpD_ne, q1, hem]; rfl
  have e4 : ev C (.lst []) (gS S w r i j x4 row (.ok (.int m)) (.own (ints' starts)) x9 x10 x11 x12 x13) μ = .ok (.lst [], .fr) μ := rfl
  rw [exe_app, ev_cmp, e2, RE.ok_bind, cmpK1_eq, e4, RE.ok_bind, cmpK2_eq, e3]
  exact ea
end
theorem row_since {w : List Nat} {r : List (List Bool)} {i j : Nat} {x4 x7 x8 x9 x10 x11 x12 x13 : Slot} (hi : i < r.length) (hj : j < r.length) (hr : RowL (w.length + 1) r) (hz : w.length ≤ 1000) {S : D} :
    ∃ y7 y8, forGo (.name 7) (exes C [(.asg 8 (.lc [10] .range [(.bin .Add (.var 7) (.c (.int 1)))] (.name 10) (some (.idx (.idx (.var 2) (.idx (.var 3) (.c (.int 2)))) (.var 10))) (.var 10))), (.app 6 (.cmp .NotEq (.lc [10] .seq [(.var 8)] (.name 10) (some (.cmp .NotIn (.c (.bl false)) (.cut (.idx (.var 2) (.var 5)) (some (.bin .Add (.var 10) (.c (.int 1)))) (some (.bin .Add (.var 7) (.c (.int 1))))))) (.var 10)) (.lst [])))]) (intL 0 (w.length + 1)) (gS S w r i j x4 [] x7 x8 x9 x10 x11 x12 x13) μ = .ok (.nx (gS S w r i j x4 (bls (rowOf w r (.si i j))) y7 y8 x9 x10 x11 x12 x13)) μ := by
  have key := forGo_all (t := .name 7) (b := exes C [(.asg 8 (.lc [10] .range [(.bin .Add (.var 7) (.c (.int 1)))] (.name 10) (some (.idx (.idx (.var 2) (.idx (.var 3) (.c (.int 2)))) (.var 10))) (.var 10))), (.app 6 (.cmp .NotEq (.lc [10] .seq [(.var 8)] (.name 10) (some (.cmp .NotIn (.c (.bl false)) (.cut (.idx (.var 2) (.var 5)) (some (.bin .Add (.var 10) (.c (.int 1)))) (some (.bin .Add (.var 7) (.c (.int 1))))))) (.var 10)) (.lst [])))]) (items := intL 0 (w.length + 1)) (g := gS S w r i j x4 [] x7 x8 x9 x10 x11 x12 x13) (μ := μ)
    (fun m g μ' => μ' = μ ∧ ∃ y7 y8, g = gS S w r i j x4 (bls ((List.range m).map fun e => sinceAt (gr r i) (gr r j) e)) y7 y8 x9 x10 x11 x12 x13) ⟨rfl, x7, x8, rfl⟩ (by
      rintro m x g μ' hi' ⟨hμ, y7, y8, rfl⟩
      subst hμ
      rw [intL_ints] at hi'
      obtain ⟨m', hm', rfl⟩ := Option.map_eq_some_iff.mp ((List.getElem?_map ..).symm.trans hi')
      have hml : m < w.length + 1 := by
        have := (List.getElem?_eq_some_iff.mp hm').1
        simpa using this
      rw [List.getElem?_range hml] at hm'
      cases hm'
      have l1 := lc_starts (C := C) (μ := μ') (r := r) (i := i) (j := j) (e := m) (n := w.length + 1) (x0 := .ok S) (x1 := .ok (.str (st w))) (x4 := x4) (x5 := .ok (.int i)) (x6 := .own (bls ((List.range m).map fun e => sinceAt (gr r i) (gr r j) e))) (x7 := .ok (.int m)) (x8 := y8) (x9 := x9) (x11 := x11) (x12 := x12) (x13 := x13) hj hr hml
      have s1 := s_one (x10 := x10) (show m ≤ 10000 by omega) l1
      generalize hst : (List.range (m + 1)).filter (gt (gr r j)) = starts at s1
      have hle : ∀ p ∈ starts, p ≤ m := fun p hp => by
        rw [← hst] at hp
        have := List.mem_range.mp (List.mem_filter.mp hp).1
        omega
      have hlen : (bls ((List.range m).map fun e => sinceAt (gr r i) (gr r j) e)).length < SZ := by
        rw [bls_len, List.length_map, List.length_range]
        show m < 16777216
        omega
      have l2 := lc_since (C := C) (μ := μ') (r := r) (l := starts) (i := i) (e := m) (n := w.length + 1) (x0 := .ok S) (x1 := .ok (.str (st w))) (x3 := .ok (toD (.si i j))) (x4 := x4) (x6 := .own (bls ((List.range m).map fun e => sinceAt (gr r i) (gr r j) e))) (x8 := .own (ints' starts)) (x9 := x9) (x11 := x11) (x12 := x12) (x13 := x13) hi hr hml hle
      have s2 := s_two (x10 := x10) hlen l2
      generalize hfin : (starts.filter fun p => !(((gr r i).drop (p + 1)).take (m + 1 - (p + 1))).contains false) = fin at s2
      have hF : (List.range (m + 1)).map (fun e => sinceAt (gr r i) (gr r j) e) = (List.range m).map (fun e => sinceAt (gr r i) (gr r j) e) ++ [!fin.isEmpty] := by
        rw [List.range_succ, List.map_append]
        simp only [List.map_cons, List.map_nil, sinceAt, hst, hfin]
      refine ⟨_, rfl, _, μ', .inl ?_, rfl, .ok (.int m), .own (ints' starts), rfl⟩
      rw [hF, bls_snoc, exes_cons]
      show (exe C (.asg 8 (.lc [10] .range [(.bin .Add (.var 7) (.c (.int 1)))] (.name 10) (some (.idx (.idx (.var 2) (.idx (.var 3) (.c (.int 2)))) (.var 10))) (.var 10))) (gS S w r i j x4 (bls ((List.range m).map fun e => sinceAt (gr r i) (gr r j) e)) (.ok (.int m)) y8 x9 x10 x11 x12 x13) μ').bind _ = _
      rw [s1, RE.ok_bind, seqK_nx, exes_cons, s2]
      rfl)
  obtain ⟨g', μ', e, hμ, y7, y8, hg⟩ := key
  subst hμ hg
  refine ⟨y7, y8, ?_⟩
  rw [e]
  simp only [intL_ints, ints', List.length_map, List.length_range]
  rfl
theorem binD_lst {a b : List D} (h : a.length + b.length ≤ 16777216) : binD .Add (.lst a) (.lst b) = some (.lst (a ++ b), .fr) := by
  simp only [binD]
  rw [if_pos (show a.length + b.length ≤ SZ from h)]
theorem cut_last {f : List Bool} : cutD (.lst (bls f)) none (some (-1)) = some (.lst (bls f.dropLast), .fr) := by
  simp only [cutD, cutL, HT.sIx_none, List.drop_zero, Nat.sub_zero, bls_len]
  have e : HT.sIx f.length f.length (some (-1)) = f.length - 1 := by
    unfold HT.sIx
    simp only
    rw [if_pos (by decide)]
    omega
  rw [e, List.dropLast_eq_take]
  simp [bls, List.map_take]
theorem tab_lt {w : List Nat} {r : List (List Bool)} {c : Nat} {S : D} {x4 x5 x6 x7 x8 x9 x10 x11 x12 x13 : Slot} (hr : RowL (w.length + 1) r) (hs : okAt r.length (.lt c)) (hz : w.length ≤ 1000) (hrl : r.length ≤ 1000) :
    ∃ y4 y5 y6 y7 y8, exes C [.asgT (.tup [4, 5]) (.tup [(.idx (.var 3) (.c (.int 0))), (.idx (.var 3) (.c (.int 1)))]), .ifs (.cmp .Eq (.var 4) (.c (.str "letter"))) [.app 2 (.bin .Add (.lst [(.c (.bl false))]) (.lc [11] .seq [(.var 1)] (.name 11) none (.cmp .Eq (.var 11) (.var 5))))] [], .ifs (.cmp .Eq (.var 4) (.c (.str "not"))) [.app 2 (.lc [9] .seq [(.idx (.var 2) (.var 5))] (.name 9) none (.not (.var 9)))] [], .ifs (.cmp .Eq (.var 4) (.c (.str "either"))) [.app 2 (.lc [12, 13] .zip [(.idx (.var 2) (.var 5)), (.idx (.var 2) (.idx (.var 3) (.c (.int 2))))] (.tup [12, 13]) none (.or (.var 12) (.var 13)))] [], .ifs (.cmp .Eq (.var 4) (.c (.str "ahead"))) [.app 2 (.bin .Add (.lst [(.c (.bl false))]) (.cut (.idx (.var 2) (.var 5)) none (some (.neg (.c (.int 1))))))] [], .ifs (.cmp .Eq (.var 4) (.c (.str "since"))) [.asg 6 (.lst []), .for_ .range [(.bin .Add (.bi .len [(.var 1)]) (.c (.int 1)))] (.name 7) [.asg 8 (.lc [10] .range [(.bin .Add (.var 7) (.c (.int 1)))] (.name 10) (some (.idx (.idx (.var 2) (.idx (.var 3) (.c (.int 2)))) (.var 10))) (.var 10)), .app 6 (.cmp .NotEq (.lc [10] .seq [(.var 8)] (.name 10) (some (.cmp .NotIn (.c (.bl false)) (.cut (.idx (.var 2) (.var 5)) (some (.bin .Add (.var 10) (.c (.int 1)))) (some (.bin .Add (.var 7) (.c (.int 1))))))) (.var 10)) (.lst []))], .frz 6, .app 2 (.var 6)] []] [.ok S, .ok (.str (st w)), .own (rowsD r), .ok (toD (.lt c)), x4, x5, x6, x7, x8, x9, x10, x11, x12, x13] μ = .ok (.nx [.ok S, .ok (.str (st w)), .own (rowsD (r ++ [rowOf w r (.lt c)])), .ok (toD (.lt c)), y4, y5, y6, y7, y8, x9, x10, x11, x12, x13]) μ := by
  have hrz : (rowsD r).length < SZ := by
    simp only [rowsD, List.length_map]
    show r.length < 16777216
    omega
  have hsn : rowsD (r ++ [rowOf w r (.lt c)]) = rowsD r ++ [.lst (bls (rowOf w r (.lt c)))] := by simp [rowsD]
  rw [hsn]
  have l1 := lc_letter (C := C) (μ := μ) (w := w) (c := c) (x0 := .ok S) (x1 := .ok (.str (st w))) (x2 := .own (rowsD r)) (x3 := .ok (toD (.lt c))) (x4 := .ok (.str "letter")) (x6 := x6) (x7 := x7) (x8 := x8) (x9 := x9) (x10 := x10) (x12 := x12) (x13 := x13)
  have b1 := binD_lst (a := [.bl false]) (b := bls (w.map fun x => decide (x = c))) (by simp [bls]; omega)
  have ea := appK_ok (g := [.ok S, .ok (.str (st w)), .own (rowsD r), .ok (toD (.lt c)), .ok (.str "letter"), .ok (.str (ch c)), x6, x7, x8, x9, x10, x11, x12, x13]) (μ := μ) (i := 2) (d := .lst (bls (rowOf w r (.lt c)))) (q := .fr) rfl rfl hrz
  have e1 : [D.bl false] ++ bls (w.map fun x => decide (x = c)) = bls (rowOf w r (.lt c)) := rfl
  rw [e1] at b1
  simp only [toD] at l1 ea ⊢
  refine ⟨.ok (.str "letter"), .ok (.str (ch c)), x6, x7, x8, ?_⟩
  simp [szv, iterD, rowD_str, l1, b1, ea]

theorem tab_nt {w : List Nat} {r : List (List Bool)} {i : Nat} {S : D} {x4 x5 x6 x7 x8 x9 x10 x11 x12 x13 : Slot} (hr : RowL (w.length + 1) r) (hs : okAt r.length (.nt i)) (hz : w.length ≤ 1000) (hrl : r.length ≤ 1000) :
    ∃ y4 y5 y6 y7 y8, exes C [.asgT (.tup [4, 5]) (.tup [(.idx (.var 3) (.c (.int 0))), (.idx (.var 3) (.c (.int 1)))]), .ifs (.cmp .Eq (.var 4) (.c (.str "letter"))) [.app 2 (.bin .Add (.lst [(.c (.bl false))]) (.lc [11] .seq [(.var 1)] (.name 11) none (.cmp .Eq (.var 11) (.var 5))))] [], .ifs (.cmp .Eq (.var 4) (.c (.str "not"))) [.app 2 (.lc [9] .seq [(.idx (.var 2) (.var 5))] (.name 9) none (.not (.var 9)))] [], .ifs (.cmp .Eq (.var 4) (.c (.str "either"))) [.app 2 (.lc [12, 13] .zip [(.idx (.var 2) (.var 5)), (.idx (.var 2) (.idx (.var 3) (.c (.int 2))))] (.tup [12, 13]) none (.or (.var 12) (.var 13)))] [], .ifs (.cmp .Eq (.var 4) (.c (.str "ahead"))) [.app 2 (.bin .Add (.lst [(.c (.bl false))]) (.cut (.idx (.var 2) (.var 5)) none (some (.neg (.c (.int 1))))))] [], .ifs (.cmp .Eq (.var 4) (.c (.str "since"))) [.asg 6 (.lst []), .for_ .range [(.bin .Add (.bi .len [(.var 1)]) (.c (.int 1)))] (.name 7) [.asg 8 (.lc [10] .range [(.bin .Add (.var 7) (.c (.int 1)))] (.name 10) (some (.idx (.idx (.var 2) (.idx (.var 3) (.c (.int 2)))) (.var 10))) (.var 10)), .app 6 (.cmp .NotEq (.lc [10] .seq [(.var 8)] (.name 10) (some (.cmp .NotIn (.c (.bl false)) (.cut (.idx (.var 2) (.var 5)) (some (.bin .Add (.var 10) (.c (.int 1)))) (some (.bin .Add (.var 7) (.c (.int 1))))))) (.var 10)) (.lst []))], .frz 6, .app 2 (.var 6)] []] [.ok S, .ok (.str (st w)), .own (rowsD r), .ok (toD (.nt i)), x4, x5, x6, x7, x8, x9, x10, x11, x12, x13] μ = .ok (.nx [.ok S, .ok (.str (st w)), .own (rowsD (r ++ [rowOf w r (.nt i)])), .ok (toD (.nt i)), y4, y5, y6, y7, y8, x9, x10, x11, x12, x13]) μ := by
  have hrz : (rowsD r).length < SZ := by
    simp only [rowsD, List.length_map]
    show r.length < 16777216
    omega
  have hsn : rowsD (r ++ [rowOf w r (.nt i)]) = rowsD r ++ [.lst (bls (rowOf w r (.nt i)))] := by simp [rowsD]
  rw [hsn]
  have h1 := atI_rows hs
  have l1 := lc_not (C := C) (μ := μ) (f := gr r i) (x0 := .ok S) (x1 := .ok (.str (st w))) (x2 := .own (rowsD r)) (x3 := .ok (toD (.nt i))) (x4 := .ok (.str "not")) (x5 := .ok (.int i)) (x6 := x6) (x7 := x7) (x8 := x8) (x10 := x10) (x11 := x11) (x12 := x12) (x13 := x13)
  have ea := appK_ok (g := [.ok S, .ok (.str (st w)), .own (rowsD r), .ok (toD (.nt i)), .ok (.str "not"), .ok (.int i), x6, x7, x8, x9, x10, x11, x12, x13]) (μ := μ) (i := 2) (d := .lst (bls (rowOf w r (.nt i)))) (q := .fr) rfl rfl hrz
  simp only [toD] at l1 ea ⊢
  refine ⟨.ok (.str "not"), .ok (.int i), x6, x7, x8, ?_⟩
  have e1 : bls ((gr r i).map (!·)) = bls (rowOf w r (.nt i)) := rfl
  rw [e1] at l1
  simp [szv, iterD, rowD, h1, l1, ea]

theorem tab_ei {w : List Nat} {r : List (List Bool)} {i j : Nat} {S : D} {x4 x5 x6 x7 x8 x9 x10 x11 x12 x13 : Slot} (hr : RowL (w.length + 1) r) (hs : okAt r.length (.ei i j)) (hz : w.length ≤ 1000) (hrl : r.length ≤ 1000) :
    ∃ y4 y5 y6 y7 y8, exes C [.asgT (.tup [4, 5]) (.tup [(.idx (.var 3) (.c (.int 0))), (.idx (.var 3) (.c (.int 1)))]), .ifs (.cmp .Eq (.var 4) (.c (.str "letter"))) [.app 2 (.bin .Add (.lst [(.c (.bl false))]) (.lc [11] .seq [(.var 1)] (.name 11) none (.cmp .Eq (.var 11) (.var 5))))] [], .ifs (.cmp .Eq (.var 4) (.c (.str "not"))) [.app 2 (.lc [9] .seq [(.idx (.var 2) (.var 5))] (.name 9) none (.not (.var 9)))] [], .ifs (.cmp .Eq (.var 4) (.c (.str "either"))) [.app 2 (.lc [12, 13] .zip [(.idx (.var 2) (.var 5)), (.idx (.var 2) (.idx (.var 3) (.c (.int 2))))] (.tup [12, 13]) none (.or (.var 12) (.var 13)))] [], .ifs (.cmp .Eq (.var 4) (.c (.str "ahead"))) [.app 2 (.bin .Add (.lst [(.c (.bl false))]) (.cut (.idx (.var 2) (.var 5)) none (some (.neg (.c (.int 1))))))] [], .ifs (.cmp .Eq (.var 4) (.c (.str "since"))) [.asg 6 (.lst []), .for_ .range [(.bin .Add (.bi .len [(.var 1)]) (.c (.int 1)))] (.name 7) [.asg 8 (.lc [10] .range [(.bin .Add (.var 7) (.c (.int 1)))] (.name 10) (some (.idx (.idx (.var 2) (.idx (.var 3) (.c (.int 2)))) (.var 10))) (.var 10)), .app 6 (.cmp .NotEq (.lc [10] .seq [(.var 8)] (.name 10) (some (.cmp .NotIn (.c (.bl false)) (.cut (.idx (.var 2) (.var 5)) (some (.bin .Add (.var 10) (.c (.int 1)))) (some (.bin .Add (.var 7) (.c (.int 1))))))) (.var 10)) (.lst []))], .frz 6, .app 2 (.var 6)] []] [.ok S, .ok (.str (st w)), .own (rowsD r), .ok (toD (.ei i j)), x4, x5, x6, x7, x8, x9, x10, x11, x12, x13] μ = .ok (.nx [.ok S, .ok (.str (st w)), .own (rowsD (r ++ [rowOf w r (.ei i j)])), .ok (toD (.ei i j)), y4, y5, y6, y7, y8, x9, x10, x11, x12, x13]) μ := by
  have hrz : (rowsD r).length < SZ := by
    simp only [rowsD, List.length_map]
    show r.length < 16777216
    omega
  have hsn : rowsD (r ++ [rowOf w r (.ei i j)]) = rowsD r ++ [.lst (bls (rowOf w r (.ei i j)))] := by simp [rowsD]
  rw [hsn]
  have h1 := atI_rows hs.1
  have h2 := atI_rows hs.2
  have l1 := lc_or (C := C) (μ := μ) (a := gr r i) (b := gr r j) (x0 := .ok S) (x1 := .ok (.str (st w))) (x2 := .own (rowsD r)) (x3 := .ok (toD (.ei i j))) (x4 := .ok (.str "either")) (x5 := .ok (.int i)) (x6 := x6) (x7 := x7) (x8 := x8) (x9 := x9) (x10 := x10) (x11 := x11)
  have ea := appK_ok (g := [.ok S, .ok (.str (st w)), .own (rowsD r), .ok (toD (.ei i j)), .ok (.str "either"), .ok (.int i), x6, x7, x8, x9, x10, x11, x12, x13]) (μ := μ) (i := 2) (d := .lst (bls (rowOf w r (.ei i j)))) (q := .fr) rfl rfl hrz
  simp only [toD] at l1 ea ⊢
  refine ⟨.ok (.str "either"), .ok (.int i), x6, x7, x8, ?_⟩
  have e1 : bls (List.zipWith (· || ·) (gr r i) (gr r j)) = bls (rowOf w r (.ei i j)) := rfl
  rw [e1] at l1
  simp [szv, iterD, rowD, h1, h2, l1, ea]

theorem tab_ah {w : List Nat} {r : List (List Bool)} {i : Nat} {S : D} {x4 x5 x6 x7 x8 x9 x10 x11 x12 x13 : Slot} (hr : RowL (w.length + 1) r) (hs : okAt r.length (.ah i)) (hz : w.length ≤ 1000) (hrl : r.length ≤ 1000) :
    ∃ y4 y5 y6 y7 y8, exes C [.asgT (.tup [4, 5]) (.tup [(.idx (.var 3) (.c (.int 0))), (.idx (.var 3) (.c (.int 1)))]), .ifs (.cmp .Eq (.var 4) (.c (.str "letter"))) [.app 2 (.bin .Add (.lst [(.c (.bl false))]) (.lc [11] .seq [(.var 1)] (.name 11) none (.cmp .Eq (.var 11) (.var 5))))] [], .ifs (.cmp .Eq (.var 4) (.c (.str "not"))) [.app 2 (.lc [9] .seq [(.idx (.var 2) (.var 5))] (.name 9) none (.not (.var 9)))] [], .ifs (.cmp .Eq (.var 4) (.c (.str "either"))) [.app 2 (.lc [12, 13] .zip [(.idx (.var 2) (.var 5)), (.idx (.var 2) (.idx (.var 3) (.c (.int 2))))] (.tup [12, 13]) none (.or (.var 12) (.var 13)))] [], .ifs (.cmp .Eq (.var 4) (.c (.str "ahead"))) [.app 2 (.bin .Add (.lst [(.c (.bl false))]) (.cut (.idx (.var 2) (.var 5)) none (some (.neg (.c (.int 1))))))] [], .ifs (.cmp .Eq (.var 4) (.c (.str "since"))) [.asg 6 (.lst []), .for_ .range [(.bin .Add (.bi .len [(.var 1)]) (.c (.int 1)))] (.name 7) [.asg 8 (.lc [10] .range [(.bin .Add (.var 7) (.c (.int 1)))] (.name 10) (some (.idx (.idx (.var 2) (.idx (.var 3) (.c (.int 2)))) (.var 10))) (.var 10)), .app 6 (.cmp .NotEq (.lc [10] .seq [(.var 8)] (.name 10) (some (.cmp .NotIn (.c (.bl false)) (.cut (.idx (.var 2) (.var 5)) (some (.bin .Add (.var 10) (.c (.int 1)))) (some (.bin .Add (.var 7) (.c (.int 1))))))) (.var 10)) (.lst []))], .frz 6, .app 2 (.var 6)] []] [.ok S, .ok (.str (st w)), .own (rowsD r), .ok (toD (.ah i)), x4, x5, x6, x7, x8, x9, x10, x11, x12, x13] μ = .ok (.nx [.ok S, .ok (.str (st w)), .own (rowsD (r ++ [rowOf w r (.ah i)])), .ok (toD (.ah i)), y4, y5, y6, y7, y8, x9, x10, x11, x12, x13]) μ := by
  have hrz : (rowsD r).length < SZ := by
    simp only [rowsD, List.length_map]
    show r.length < 16777216
    omega
  have hsn : rowsD (r ++ [rowOf w r (.ah i)]) = rowsD r ++ [.lst (bls (rowOf w r (.ah i)))] := by simp [rowsD]
  rw [hsn]
  have h1 := atI_rows hs
  have b1 := binD_lst (a := [.bl false]) (b := bls (gr r i).dropLast) (by simp [bls, hr _ (gr_mem hs)]; omega)
  have ea := appK_ok (g := [.ok S, .ok (.str (st w)), .own (rowsD r), .ok (toD (.ah i)), .ok (.str "ahead"), .ok (.int i), x6, x7, x8, x9, x10, x11, x12, x13]) (μ := μ) (i := 2) (d := .lst (bls (rowOf w r (.ah i)))) (q := .fr) rfl rfl hrz
  have e1 : [D.bl false] ++ bls (gr r i).dropLast = bls (rowOf w r (.ah i)) := rfl
  rw [e1] at b1
  simp only [toD] at ea ⊢
  refine ⟨.ok (.str "ahead"), .ok (.int i), x6, x7, x8, ?_⟩
  simp [szv, h1, cut_last, b1, ea]

theorem ifs_skip {t : E} {a : List S} {g : Slots} (h : ev C t g μ = .ok (.bl false, .pl) μ) : exe C (.ifs t a []) g μ = .ok (.nx g) μ := by
  rw [exe_ifs, h, RE.ok_bind, iteK_f, exes_nil]
theorem tab_si {w : List Nat} {r : List (List Bool)} {i j : Nat} {S : D} {x4 x5 x6 x7 x8 x9 x10 x11 x12 x13 : Slot} (hr : RowL (w.length + 1) r) (hs : okAt r.length (.si i j)) (hz : w.length ≤ 1000) (hrl : r.length ≤ 1000) :
    ∃ y4 y5 y6 y7 y8, exes C [.asgT (.tup [4, 5]) (.tup [(.idx (.var 3) (.c (.int 0))), (.idx (.var 3) (.c (.int 1)))]), .ifs (.cmp .Eq (.var 4) (.c (.str "letter"))) [.app 2 (.bin .Add (.lst [(.c (.bl false))]) (.lc [11] .seq [(.var 1)] (.name 11) none (.cmp .Eq (.var 11) (.var 5))))] [], .ifs (.cmp .Eq (.var 4) (.c (.str "not"))) [.app 2 (.lc [9] .seq [(.idx (.var 2) (.var 5))] (.name 9) none (.not (.var 9)))] [], .ifs (.cmp .Eq (.var 4) (.c (.str "either"))) [.app 2 (.lc [12, 13] .zip [(.idx (.var 2) (.var 5)), (.idx (.var 2) (.idx (.var 3) (.c (.int 2))))] (.tup [12, 13]) none (.or (.var 12) (.var 13)))] [], .ifs (.cmp .Eq (.var 4) (.c (.str "ahead"))) [.app 2 (.bin .Add (.lst [(.c (.bl false))]) (.cut (.idx (.var 2) (.var 5)) none (some (.neg (.c (.int 1))))))] [], .ifs (.cmp .Eq (.var 4) (.c (.str "since"))) [.asg 6 (.lst []), .for_ .range [(.bin .Add (.bi .len [(.var 1)]) (.c (.int 1)))] (.name 7) [.asg 8 (.lc [10] .range [(.bin .Add (.var 7) (.c (.int 1)))] (.name 10) (some (.idx (.idx (.var 2) (.idx (.var 3) (.c (.int 2)))) (.var 10))) (.var 10)), .app 6 (.cmp .NotEq (.lc [10] .seq [(.var 8)] (.name 10) (some (.cmp .NotIn (.c (.bl false)) (.cut (.idx (.var 2) (.var 5)) (some (.bin .Add (.var 10) (.c (.int 1)))) (some (.bin .Add (.var 7) (.c (.int 1))))))) (.var 10)) (.lst []))], .frz 6, .app 2 (.var 6)] []] [.ok S, .ok (.str (st w)), .own (rowsD r), .ok (toD (.si i j)), x4, x5, x6, x7, x8, x9, x10, x11, x12, x13] μ = .ok (.nx [.ok S, .ok (.str (st w)), .own (rowsD (r ++ [rowOf w r (.si i j)])), .ok (toD (.si i j)), y4, y5, y6, y7, y8, x9, x10, x11, x12, x13]) μ := by
  have hrz : (rowsD r).length < SZ := by
    simp only [rowsD, List.length_map]
    show r.length < 16777216
    omega
  have hsn : rowsD (r ++ [rowOf w r (.si i j)]) = rowsD r ++ [.lst (bls (rowOf w r (.si i j)))] := by simp [rowsD]
  rw [hsn]
  obtain ⟨y7, y8, l1⟩ := row_since (C := C) (μ := μ) (w := w) (r := r) (i := i) (j := j) (x4 := .ok (.str "since")) (x7 := x7) (x8 := x8) (x9 := x9) (x10 := x10) (x11 := x11) (x12 := x12) (x13 := x13) hs.1 hs.2 hr hz (S := S)
  have ea := appK_ok (g := [.ok S, .ok (.str (st w)), .own (rowsD r), .ok (toD (.si i j)), .ok (.str "since"), .ok (.int i), .ok (.lst (bls (rowOf w r (.si i j)))), y7, y8, x9, x10, x11, x12, x13]) (μ := μ) (i := 2) (d := .lst (bls (rowOf w r (.si i j)))) (q := .pl) rfl rfl hrz
  have hit := it_range (m := w.length) (by omega)
  refine ⟨.ok (.str "since"), .ok (.int i), .ok (.lst (bls (rowOf w r (.si i j)))), y7, y8, ?_⟩
  have p1 : exes C [.asgT (.tup [4, 5]) (.tup [(.idx (.var 3) (.c (.int 0))), (.idx (.var 3) (.c (.int 1)))]), .ifs (.cmp .Eq (.var 4) (.c (.str "letter"))) [.app 2 (.bin .Add (.lst [(.c (.bl false))]) (.lc [11] .seq [(.var 1)] (.name 11) none (.cmp .Eq (.var 11) (.var 5))))] [], .ifs (.cmp .Eq (.var 4) (.c (.str "not"))) [.app 2 (.lc [9] .seq [(.idx (.var 2) (.var 5))] (.name 9) none (.not (.var 9)))] [], .ifs (.cmp .Eq (.var 4) (.c (.str "either"))) [.app 2 (.lc [12, 13] .zip [(.idx (.var 2) (.var 5)), (.idx (.var 2) (.idx (.var 3) (.c (.int 2))))] (.tup [12, 13]) none (.or (.var 12) (.var 13)))] [], .ifs (.cmp .Eq (.var 4) (.c (.str "ahead"))) [.app 2 (.bin .Add (.lst [(.c (.bl false))]) (.cut (.idx (.var 2) (.var 5)) none (some (.neg (.c (.int 1))))))] [], .ifs (.cmp .Eq (.var 4) (.c (.str "since"))) [.asg 6 (.lst []), .for_ .range [(.bin .Add (.bi .len [(.var 1)]) (.c (.int 1)))] (.name 7) [.asg 8 (.lc [10] .range [(.bin .Add (.var 7) (.c (.int 1)))] (.name 10) (some (.idx (.idx (.var 2) (.idx (.var 3) (.c (.int 2)))) (.var 10))) (.var 10)), .app 6 (.cmp .NotEq (.lc [10] .seq [(.var 8)] (.name 10) (some (.cmp .NotIn (.c (.bl false)) (.cut (.idx (.var 2) (.var 5)) (some (.bin .Add (.var 10) (.c (.int 1)))) (some (.bin .Add (.var 7) (.c (.int 1))))))) (.var 10)) (.lst []))], .frz 6, .app 2 (.var 6)] []] [.ok S, .ok (.str (st w)), .own (rowsD r), .ok (toD (.si i j)), x4, x5, x6, x7, x8, x9, x10, x11, x12, x13] μ = exes C [.ifs (.cmp .Eq (.var 4) (.c (.str "since"))) [.asg 6 (.lst []), .for_ .range [(.bin .Add (.bi .len [(.var 1)]) (.c (.int 1)))] (.name 7) [(.asg 8 (.lc [10] .range [(.bin .Add (.var 7) (.c (.int 1)))] (.name 10) (some (.idx (.idx (.var 2) (.idx (.var 3) (.c (.int 2)))) (.var 10))) (.var 10))), (.app 6 (.cmp .NotEq (.lc [10] .seq [(.var 8)] (.name 10) (some (.cmp .NotIn (.c (.bl false)) (.cut (.idx (.var 2) (.var 5)) (some (.bin .Add (.var 10) (.c (.int 1)))) (some (.bin .Add (.var 7) (.c (.int 1))))))) (.var 10)) (.lst [])))], .frz 6, .app 2 (.var 6)] []] [.ok S, .ok (.str (st w)), .own (rowsD r), .ok (toD (.si i j)), .ok (.str "since"), .ok (.int i), x6, x7, x8, x9, x10, x11, x12, x13] μ := by
    have e1 : exe C (.asgT (.tup [4, 5]) (.tup [(.idx (.var 3) (.c (.int 0))), (.idx (.var 3) (.c (.int 1)))])) [.ok S, .ok (.str (st w)), .own (rowsD r), .ok (toD (.si i j)), x4, x5, x6, x7, x8, x9, x10, x11, x12, x13] μ = .ok (.nx [.ok S, .ok (.str (st w)), .own (rowsD r), .ok (toD (.si i j)), .ok (.str "since"), .ok (.int i), x6, x7, x8, x9, x10, x11, x12, x13]) μ := by simp [szv, toD]
    have n1 : ev C (.cmp .Eq (.var 4) (.c (.str "letter"))) [.ok S, .ok (.str (st w)), .own (rowsD r), .ok (toD (.si i j)), .ok (.str "since"), .ok (.int i), x6, x7, x8, x9, x10, x11, x12, x13] μ = .ok (.bl false, .pl) μ := by simp
    have n2 : ev C (.cmp .Eq (.var 4) (.c (.str "not"))) [.ok S, .ok (.str (st w)), .own (rowsD r), .ok (toD (.si i j)), .ok (.str "since"), .ok (.int i), x6, x7, x8, x9, x10, x11, x12, x13] μ = .ok (.bl false, .pl) μ := by simp
    have n3 : ev C (.cmp .Eq (.var 4) (.c (.str "either"))) [.ok S, .ok (.str (st w)), .own (rowsD r), .ok (toD (.si i j)), .ok (.str "since"), .ok (.int i), x6, x7, x8, x9, x10, x11, x12, x13] μ = .ok (.bl false, .pl) μ := by simp
    have n4 : ev C (.cmp .Eq (.var 4) (.c (.str "ahead"))) [.ok S, .ok (.str (st w)), .own (rowsD r), .ok (toD (.si i j)), .ok (.str "since"), .ok (.int i), x6, x7, x8, x9, x10, x11, x12, x13] μ = .ok (.bl false, .pl) μ := by simp
    rw [exes_cons, e1, RE.ok_bind, seqK_nx, exes_cons, ifs_skip n1, RE.ok_bind, seqK_nx, exes_cons, ifs_skip n2, RE.ok_bind, seqK_nx, exes_cons, ifs_skip n3, RE.ok_bind, seqK_nx, exes_cons, ifs_skip n4, RE.ok_bind, seqK_nx]
  have p2 : exe C (.ifs (.cmp .Eq (.var 4) (.c (.str "since"))) [.asg 6 (.lst []), .for_ .range [(.bin .Add (.bi .len [(.var 1)]) (.c (.int 1)))] (.name 7) [(.asg 8 (.lc [10] .range [(.bin .Add (.var 7) (.c (.int 1)))] (.name 10) (some (.idx (.idx (.var 2) (.idx (.var 3) (.c (.int 2)))) (.var 10))) (.var 10))), (.app 6 (.cmp .NotEq (.lc [10] .seq [(.var 8)] (.name 10) (some (.cmp .NotIn (.c (.bl false)) (.cut (.idx (.var 2) (.var 5)) (some (.bin .Add (.var 10) (.c (.int 1)))) (some (.bin .Add (.var 7) (.c (.int 1))))))) (.var 10)) (.lst [])))], .frz 6, .app 2 (.var 6)] []) [.ok S, .ok (.str (st w)), .own (rowsD r), .ok (toD (.si i j)), .ok (.str "since"), .ok (.int i), x6, x7, x8, x9, x10, x11, x12, x13] μ = exes C [.asg 6 (.lst []), .for_ .range [(.bin .Add (.bi .len [(.var 1)]) (.c (.int 1)))] (.name 7) [(.asg 8 (.lc [10] .range [(.bin .Add (.var 7) (.c (.int 1)))] (.name 10) (some (.idx (.idx (.var 2) (.idx (.var 3) (.c (.int 2)))) (.var 10))) (.var 10))), (.app 6 (.cmp .NotEq (.lc [10] .seq [(.var 8)] (.name 10) (some (.cmp .NotIn (.c (.bl false)) (.cut (.idx (.var 2) (.var 5)) (some (.bin .Add (.var 10) (.c (.int 1)))) (some (.bin .Add (.var 7) (.c (.int 1))))))) (.var 10)) (.lst [])))], .frz 6, .app 2 (.var 6)] [.ok S, .ok (.str (st w)), .own (rowsD r), .ok (toD (.si i j)), .ok (.str "since"), .ok (.int i), x6, x7, x8, x9, x10, x11, x12, x13] μ := by
    have n5 : ev C (.cmp .Eq (.var 4) (.c (.str "since"))) [.ok S, .ok (.str (st w)), .own (rowsD r), .ok (toD (.si i j)), .ok (.str "since"), .ok (.int i), x6, x7, x8, x9, x10, x11, x12, x13] μ = .ok (.bl true, .pl) μ := by simp
    rw [exe_ifs, n5, RE.ok_bind, iteK_t]
  have p3 : exe C (.for_ .range [(.bin .Add (.bi .len [(.var 1)]) (.c (.int 1)))] (.name 7) [(.asg 8 (.lc [10] .range [(.bin .Add (.var 7) (.c (.int 1)))] (.name 10) (some (.idx (.idx (.var 2) (.idx (.var 3) (.c (.int 2)))) (.var 10))) (.var 10))), (.app 6 (.cmp .NotEq (.lc [10] .seq [(.var 8)] (.name 10) (some (.cmp .NotIn (.c (.bl false)) (.cut (.idx (.var 2) (.var 5)) (some (.bin .Add (.var 10) (.c (.int 1)))) (some (.bin .Add (.var 7) (.c (.int 1))))))) (.var 10)) (.lst [])))]) (gS S w r i j (.ok (.str "since")) [] x7 x8 x9 x10 x11 x12 x13) μ = .ok (.nx (gS S w r i j (.ok (.str "since")) (bls (rowOf w r (.si i j))) y7 y8 x9 x10 x11 x12 x13)) μ := by
    have q : evs C [(.bin .Add (.bi .len [(.var 1)]) (.c (.int 1)))] (gS S w r i j (.ok (.str "since")) [] x7 x8 x9 x10 x11 x12 x13) μ = .ok [(.int ((w.length : Int) + 1), .pl)] μ := by
      simp [biD, st_len]
    rw [exe_for, q, RE.ok_bind, forK_eq]
    show forK1 C _ _ (gS S w r i j (.ok (.str "since")) [] x7 x8 x9 x10 x11 x12 x13) (iterD .range [.int ((w.length : Int) + 1)]) μ = _
    rw [hit, forK1_eq]
    exact l1
  rw [p1, exes_cons, p2]
  have p4 : exe C (.asg 6 (.lst [])) [.ok S, .ok (.str (st w)), .own (rowsD r), .ok (toD (.si i j)), .ok (.str "since"), .ok (.int i), x6, x7, x8, x9, x10, x11, x12, x13] μ = .ok (.nx (gS S w r i j (.ok (.str "since")) [] x7 x8 x9 x10 x11 x12 x13)) μ := by simp
  have p5 : exe C (.frz 6) (gS S w r i j (.ok (.str "since")) (bls (rowOf w r (.si i j))) y7 y8 x9 x10 x11 x12 x13) μ = .ok (.nx [.ok S, .ok (.str (st w)), .own (rowsD r), .ok (toD (.si i j)), .ok (.str "since"), .ok (.int i), .ok (.lst (bls (rowOf w r (.si i j)))), y7, y8, x9, x10, x11, x12, x13]) μ := by simp [frzSlot]
  have p6 : exe C (.app 2 (.var 6)) [.ok S, .ok (.str (st w)), .own (rowsD r), .ok (toD (.si i j)), .ok (.str "since"), .ok (.int i), .ok (.lst (bls (rowOf w r (.si i j)))), y7, y8, x9, x10, x11, x12, x13] μ = .ok (.nx [.ok S, .ok (.str (st w)), .own (rowsD r ++ [.lst (bls (rowOf w r (.si i j)))]), .ok (toD (.si i j)), .ok (.str "since"), .ok (.int i), .ok (.lst (bls (rowOf w r (.si i j)))), y7, y8, x9, x10, x11, x12, x13]) μ := by
    rw [exe_app]
    exact ea
  rw [exes_cons, p4, RE.ok_bind, seqK_nx, exes_cons, p3, RE.ok_bind, seqK_nx, exes_cons, p5, RE.ok_bind, seqK_nx, exes_cons, p6]
  rfl

theorem tab_step {w : List Nat} {r : List (List Bool)} {s : St} {S : D} {x4 x5 x6 x7 x8 x9 x10 x11 x12 x13 : Slot} (hr : RowL (w.length + 1) r) (hs : okAt r.length s) (hz : w.length ≤ 1000) (hrl : r.length ≤ 1000) :
    ∃ y4 y5 y6 y7 y8, exes C [.asgT (.tup [4, 5]) (.tup [(.idx (.var 3) (.c (.int 0))), (.idx (.var 3) (.c (.int 1)))]), .ifs (.cmp .Eq (.var 4) (.c (.str "letter"))) [.app 2 (.bin .Add (.lst [(.c (.bl false))]) (.lc [11] .seq [(.var 1)] (.name 11) none (.cmp .Eq (.var 11) (.var 5))))] [], .ifs (.cmp .Eq (.var 4) (.c (.str "not"))) [.app 2 (.lc [9] .seq [(.idx (.var 2) (.var 5))] (.name 9) none (.not (.var 9)))] [], .ifs (.cmp .Eq (.var 4) (.c (.str "either"))) [.app 2 (.lc [12, 13] .zip [(.idx (.var 2) (.var 5)), (.idx (.var 2) (.idx (.var 3) (.c (.int 2))))] (.tup [12, 13]) none (.or (.var 12) (.var 13)))] [], .ifs (.cmp .Eq (.var 4) (.c (.str "ahead"))) [.app 2 (.bin .Add (.lst [(.c (.bl false))]) (.cut (.idx (.var 2) (.var 5)) none (some (.neg (.c (.int 1))))))] [], .ifs (.cmp .Eq (.var 4) (.c (.str "since"))) [.asg 6 (.lst []), .for_ .range [(.bin .Add (.bi .len [(.var 1)]) (.c (.int 1)))] (.name 7) [.asg 8 (.lc [10] .range [(.bin .Add (.var 7) (.c (.int 1)))] (.name 10) (some (.idx (.idx (.var 2) (.idx (.var 3) (.c (.int 2)))) (.var 10))) (.var 10)), .app 6 (.cmp .NotEq (.lc [10] .seq [(.var 8)] (.name 10) (some (.cmp .NotIn (.c (.bl false)) (.cut (.idx (.var 2) (.var 5)) (some (.bin .Add (.var 10) (.c (.int 1)))) (some (.bin .Add (.var 7) (.c (.int 1))))))) (.var 10)) (.lst []))], .frz 6, .app 2 (.var 6)] []] [.ok S, .ok (.str (st w)), .own (rowsD r), .ok (toD s), x4, x5, x6, x7, x8, x9, x10, x11, x12, x13] μ = .ok (.nx [.ok S, .ok (.str (st w)), .own (rowsD (r ++ [rowOf w r s])), .ok (toD s), y4, y5, y6, y7, y8, x9, x10, x11, x12, x13]) μ := by
  cases s with
  | lt c => exact tab_lt hr hs hz hrl
  | nt i => exact tab_nt hr hs hz hrl
  | ei i j => exact tab_ei hr hs hz hrl
  | ah i => exact tab_ah hr hs hz hrl
  | si i j => exact tab_si hr hs hz hrl
theorem table_spec {ss : List St} {w : List Nat} (h : Val ss) (hz : w.length ≤ 1000) {k : Nat} : callN PP (k + 1) 18 [sayD ss, .str (st w)] μ = .ok (.lst (rowsD (tab ss w)), true) μ := by
  rw [call_eq (df := f__law_table_of) rfl rfl]
  have key := forGo_all (t := .name 3) (b := exes (callN PP k) [.asgT (.tup [4, 5]) (.tup [(.idx (.var 3) (.c (.int 0))), (.idx (.var 3) (.c (.int 1)))]), .ifs (.cmp .Eq (.var 4) (.c (.str "letter"))) [.app 2 (.bin .Add (.lst [(.c (.bl false))]) (.lc [11] .seq [(.var 1)] (.name 11) none (.cmp .Eq (.var 11) (.var 5))))] [], .ifs (.cmp .Eq (.var 4) (.c (.str "not"))) [.app 2 (.lc [9] .seq [(.idx (.var 2) (.var 5))] (.name 9) none (.not (.var 9)))] [], .ifs (.cmp .Eq (.var 4) (.c (.str "either"))) [.app 2 (.lc [12, 13] .zip [(.idx (.var 2) (.var 5)), (.idx (.var 2) (.idx (.var 3) (.c (.int 2))))] (.tup [12, 13]) none (.or (.var 12) (.var 13)))] [], .ifs (.cmp .Eq (.var 4) (.c (.str "ahead"))) [.app 2 (.bin .Add (.lst [(.c (.bl false))]) (.cut (.idx (.var 2) (.var 5)) none (some (.neg (.c (.int 1))))))] [], .ifs (.cmp .Eq (.var 4) (.c (.str "since"))) [.asg 6 (.lst []), .for_ .range [(.bin .Add (.bi .len [(.var 1)]) (.c (.int 1)))] (.name 7) [.asg 8 (.lc [10] .range [(.bin .Add (.var 7) (.c (.int 1)))] (.name 10) (some (.idx (.idx (.var 2) (.idx (.var 3) (.c (.int 2)))) (.var 10))) (.var 10)), .app 6 (.cmp .NotEq (.lc [10] .seq [(.var 8)] (.name 10) (some (.cmp .NotIn (.c (.bl false)) (.cut (.idx (.var 2) (.var 5)) (some (.bin .Add (.var 10) (.c (.int 1)))) (some (.bin .Add (.var 7) (.c (.int 1))))))) (.var 10)) (.lst []))], .frz 6, .app 2 (.var 6)] []]) (items := ss.map toD) (g := [.ok (sayD ss), .ok (.str (st w)), .own (rowsD []), .no, .no, .no, .no, .no, .no, .no, .no, .no, .no, .no]) (μ := μ)
    (fun i g μ' => μ' = μ ∧ RowL (w.length + 1) (tabG w (ss.take i) []) ∧ ∃ y3 y4 y5 y6 y7 y8, g = [.ok (sayD ss), .ok (.str (st w)), .own (rowsD (tabG w (ss.take i) [])), y3, y4, y5, y6, y7, y8, .no, .no, .no, .no, .no]) ⟨rfl, (by intro x hx; simp [tabG] at hx), .no, .no, .no, .no, .no, .no, rfl⟩ (by
      rintro i x g μ' hi ⟨hμ, hr, y3, y4, y5, y6, y7, y8, rfl⟩
      subst hμ
      obtain ⟨s, hs, rfl⟩ := Option.map_eq_some_iff.mp ((List.getElem?_map ..).symm.trans hi)
      have hil : i < ss.length := (List.getElem?_eq_some_iff.mp hs).1
      have hlen : (tabG w (ss.take i) []).length = i := by rw [tabG_len, List.length_take, Nat.min_eq_left (by omega)]; simp
      have hok : okAt (tabG w (ss.take i) []).length s := by rw [hlen]; exact h.ok i s hs
      obtain ⟨z4, z5, z6, z7, z8, e⟩ := tab_step (C := callN PP k) (μ := μ') (w := w) (r := tabG w (ss.take i) []) (s := s) (S := sayD ss) (x4 := y4) (x5 := y5) (x6 := y6) (x7 := y7) (x8 := y8) (x9 := .no) (x10 := .no) (x11 := .no) (x12 := .no) (x13 := .no) hr hok hz (by have := h.len; omega)
      refine ⟨_, rfl, _, μ', .inl e, rfl, ?_, .ok (toD s), z4, z5, z6, z7, z8, ?_⟩
      · rw [take_snoc hs, tabG_snoc]
        intro x hx
        rcases List.mem_append.mp hx with hx | hx
        · exact hr x hx
        · rw [List.mem_singleton.mp hx]
          exact rowOf_len hr hok
      · rw [take_snoc hs, tabG_snoc])
  obtain ⟨g', μ', e, hμ, _, y3, y4, y5, y6, y7, y8, hg⟩ := key
  subst hμ hg
  have e2 : ss.take (ss.map toD).length = ss := by rw [List.length_map]; exact List.take_length
  rw [e2] at e
  have e' : (sayD ss) = .tup (ss.map toD) := rfl
  have e3 : rowsD [] = [] := rfl
  rw [e3] at e
  simp [f__law_table_of, i__law_table_of, iterD, e', rowD]
  rw [← e', e]
  simp [tab]
end
end NT.Law

set_option Elab.async false
set_option linter.all false
set_option maxRecDepth 100000
set_option maxHeartbeats 2000000
set_option autoImplicit false
namespace NT.Law
open PySem PySem.Spec PyProof.Rows L2 NT

def col (n : Nat) (R : List (List Bool)) : List Bool := R.map fun x => gt x n
theorem gt_col {n i : Nat} {R : List (List Bool)} (h : i < R.length) : gt (col n R) i = gt (gr R i) n := by
  simp [gt, col, gr, List.getElem?_eq_getElem h]
theorem gt_map {f : List Bool} {n : Nat} (h : n < f.length) : gt (f.map (!·)) n = !gt f n := by simp [gt, List.getElem?_eq_getElem h]
theorem gt_zip {a b : List Bool} {n : Nat} (h : n < a.length) (h2 : n < b.length) : gt (List.zipWith (· || ·) a b) n = (gt a n || gt b n) := by
  simp [gt, List.getElem?_zipWith, List.getElem?_eq_getElem h, List.getElem?_eq_getElem h2]
theorem gt_get {f : List Bool} {n : Nat} (h : n < f.length) : gt f n = f[n] := by simp [gt, List.getElem?_eq_getElem h]
theorem ex_mem {α : Type} {l : List α} : l ≠ [] ↔ ∃ x, x ∈ l := ⟨fun h => by cases l with | nil => exact absurd rfl h | cons x _ => exact ⟨x, List.mem_cons_self⟩, fun ⟨x, hx⟩ e => by rw [e] at hx; cases hx⟩
theorem since_iff {a b : List Bool} {e : Nat} (he : e < a.length) : sinceAt a b e = true ↔ ∃ p, p ≤ e ∧ gt b p = true ∧ ∀ q, p < q → q ≤ e → gt a q = true := by
  unfold sinceAt
  rw [Bool.not_eq_true', ← Bool.not_eq_true, List.isEmpty_iff, ← ne_eq, ex_mem]
  constructor
  · rintro ⟨p, hp⟩
    obtain ⟨h1, h2⟩ := List.mem_filter.mp hp
    obtain ⟨h3, h4⟩ := List.mem_filter.mp h1
    have h3 := List.mem_range.mp h3
    refine ⟨p, by omega, h4, fun q hq hq2 => ?_⟩
    rw [gt_get (by omega)]
    have h5 : false ∉ (a.drop (p + 1)).take (e + 1 - (p + 1)) := by simpa using h2
    cases hv : a[q] with
    | true => rfl
    | false =>
      exfalso
      apply h5
      have : ((a.drop (p + 1)).take (e + 1 - (p + 1)))[q - (p + 1)]? = some false := by
        rw [List.getElem?_take_of_lt (by omega), List.getElem?_drop, show p + 1 + (q - (p + 1)) = q by omega, List.getElem?_eq_getElem (by omega), hv]
      exact List.mem_of_getElem? this
  · rintro ⟨p, hp, h4, h5⟩
    refine ⟨p, List.mem_filter.mpr ⟨List.mem_filter.mpr ⟨List.mem_range.mpr (by omega), h4⟩, ?_⟩⟩
    have : false ∉ (a.drop (p + 1)).take (e + 1 - (p + 1)) := fun hm => by
      obtain ⟨q, hq, e1⟩ := List.getElem_of_mem hm
      have hq' : q < e + 1 - (p + 1) := by
        have := List.length_take_le (e + 1 - (p + 1)) (a.drop (p + 1))
        omega
      rw [List.getElem_take, List.getElem_drop] at e1
      have h6 := h5 (p + 1 + q) (by omega) (by omega)
      rw [gt_get (by omega), e1] at h6
      cases h6
    simpa using this
theorem since_zero {a b : List Bool} (he : 0 < a.length) : sinceAt a b 0 = gt b 0 := by
  rw [Bool.eq_iff_iff, since_iff he]
  constructor
  · rintro ⟨p, hp, h1, _⟩
    obtain rfl : p = 0 := by omega
    exact h1
  · intro h
    exact ⟨0, Nat.le_refl _, h, fun q h1 h2 => by omega⟩
theorem since_succ {a b : List Bool} {n : Nat} (he : n + 1 < a.length) : sinceAt a b (n + 1) = (gt b (n + 1) || (gt a (n + 1) && sinceAt a b n)) := by
  rw [Bool.eq_iff_iff, since_iff he, Bool.or_eq_true, Bool.and_eq_true, since_iff (by omega)]
  constructor
  · rintro ⟨p, hp, h1, h2⟩
    by_cases e : p = n + 1
    · subst e; exact .inl h1
    · exact .inr ⟨h2 (n + 1) (by omega) (Nat.le_refl _), p, by omega, h1, fun q hq hq2 => h2 q hq (by omega)⟩
  · rintro (h | ⟨h1, p, hp, h2, h3⟩)
    · exact ⟨n + 1, Nat.le_refl _, h, fun q h1 h2 => by omega⟩
    · refine ⟨p, by omega, h2, fun q hq hq2 => ?_⟩
      by_cases e : q = n + 1
      · subst e; exact h1
      · exact h3 q hq (by omega)
theorem tabG_pre {w : List Nat} : ∀ (ss : List St) (r : List (List Bool)), ∃ more, tabG w ss r = r ++ more
  | [], r => ⟨[], by simp [tabG]⟩
  | s :: ss, r => by
    obtain ⟨m, e⟩ := tabG_pre ss (r ++ [rowOf w r s])
    exact ⟨rowOf w r s :: m, by unfold tabG; rw [e]; simp⟩
theorem tabG_rowL {w : List Nat} {ss : List St} (h : Val ss) : ∀ t, t ≤ ss.length → RowL (w.length + 1) (tabG w (ss.take t) [])
  | 0, _ => by intro x hx; simp [tabG] at hx
  | t + 1, ht => by
    have hs : ss[t]? = some ss[t] := List.getElem?_eq_getElem (by omega)
    have hlen : (tabG w (ss.take t) []).length = t := by rw [tabG_len, List.length_take, Nat.min_eq_left (by omega)]; simp
    rw [take_snoc hs, tabG_snoc]
    intro x hx
    rcases List.mem_append.mp hx with hx | hx
    · exact tabG_rowL h t (by omega) x hx
    · rw [List.mem_singleton.mp hx]
      exact rowOf_len (tabG_rowL h t (by omega)) (by rw [hlen]; exact h.ok t _ hs)
/-- one step, at one place -/
theorem step_col {w : List Nat} {R : List (List Bool)} {s : St} {n : Nat} {b : Option (List Bool)} {l : Option Nat} (hR : RowL (w.length + 1) R) (hs : okAt R.length s) (hn : n ≤ w.length)
    (hb : n = 0 ∧ b = none ∧ l = none ∨ ∃ m f, n = m + 1 ∧ b = some f ∧ l = w[m]? ∧ (∀ i, i < R.length → gt f i = gt (gr R i) m) ∧ gt f R.length = gt (rowOf w R s) m) :
    stv s (col n R) b l = gt (rowOf w R s) n := by
  have L : ∀ {i : Nat}, i < R.length → (gr R i).length = w.length + 1 := fun hi => hR _ (gr_mem hi)
  rcases hb with ⟨rfl, rfl, rfl⟩ | ⟨m, f, rfl, rfl, rfl, hf, hg⟩
  · cases s with
    | lt c => simp [stv, rowOf, gt]
    | nt i =>
      show (!gt (col 0 R) i) = gt ((gr R i).map (!·)) 0
      rw [gt_col hs, gt_map (by rw [L hs]; omega)]
    | ei i j =>
      show (gt (col 0 R) i || gt (col 0 R) j) = gt (List.zipWith (· || ·) (gr R i) (gr R j)) 0
      rw [gt_col hs.1, gt_col hs.2, gt_zip (by rw [L hs.1]; omega) (by rw [L hs.2]; omega)]
    | ah i => simp [stv, rowOf, gt]
    | si i j =>
      show (gt (col 0 R) j || false) = gt ((List.range (w.length + 1)).map fun e => sinceAt (gr R i) (gr R j) e) 0
      rw [gt_col hs.2, Bool.or_false, gt_get (f := (List.range (w.length + 1)).map fun e => sinceAt (gr R i) (gr R j) e) (n := 0) (by simp)]
      simp only [List.getElem_map, List.getElem_range]
      rw [since_zero (by rw [L hs.1]; omega)]
  · have hwm : w[m]? = some w[m] := List.getElem?_eq_getElem (by omega)
    cases s with
    | lt c =>
      rw [hwm]
      simp [stv, rowOf, gt, hwm]
    | nt i =>
      show (!gt (col (m + 1) R) i) = gt ((gr R i).map (!·)) (m + 1)
      rw [gt_col hs, gt_map (by rw [L hs]; omega)]
    | ei i j =>
      show (gt (col (m + 1) R) i || gt (col (m + 1) R) j) = gt (List.zipWith (· || ·) (gr R i) (gr R j)) (m + 1)
      rw [gt_col hs.1, gt_col hs.2, gt_zip (by rw [L hs.1]; omega) (by rw [L hs.2]; omega)]
    | ah i =>
      show gt f i = gt (false :: (gr R i).dropLast) (m + 1)
      rw [hf i hs]
      have hl := L hs
      simp only [gt, List.getD_eq_getElem?_getD, List.getElem?_cons_succ]
      rw [List.getElem?_dropLast, if_pos (by omega)]
    | si i j =>
      have hg : gt f R.length = sinceAt (gr R i) (gr R j) m := by
        rw [hg]
        show gt ((List.range (w.length + 1)).map fun e => sinceAt (gr R i) (gr R j) e) m = _
        rw [gt_get (f := (List.range (w.length + 1)).map fun e => sinceAt (gr R i) (gr R j) e) (n := m) (by simp; omega)]
        simp
      have hcl : (col (m + 1) R).length = R.length := by simp [col]
      show (gt (col (m + 1) R) j || (gt (col (m + 1) R) i && gt f (col (m + 1) R).length)) = gt ((List.range (w.length + 1)).map fun e => sinceAt (gr R i) (gr R j) e) (m + 1)
      rw [hcl, hg, gt_col hs.1, gt_col hs.2, gt_get (f := (List.range (w.length + 1)).map fun e => sinceAt (gr R i) (gr R j) e) (n := m + 1) (by simp; omega)]
      simp only [List.getElem_map, List.getElem_range]
      rw [since_succ (by rw [L hs.1]; omega)]
theorem beh_col {ss : List St} {w : List Nat} {n : Nat} {b : Option (List Bool)} {l : Option Nat} (h : Val ss) (hn : n ≤ w.length)
    (hb : n = 0 ∧ b = none ∧ l = none ∨ ∃ m, n = m + 1 ∧ b = some (col m (tab ss w)) ∧ l = w[m]?) : ∀ t, t ≤ ss.length → behG b l (ss.take t) [] = col n (tabG w (ss.take t) [])
  | 0, _ => by simp [behG, tabG, col]
  | t + 1, ht => by
    have hs : ss[t]? = some ss[t] := List.getElem?_eq_getElem (by omega)
    have hlen : (tabG w (ss.take t) []).length = t := by rw [tabG_len, List.length_take, Nat.min_eq_left (by omega)]; simp
    have ih := beh_col h hn hb t (by omega)
    have hok : okAt (tabG w (ss.take t) []).length ss[t] := by rw [hlen]; exact h.ok t _ hs
    have hcol : col n (tabG w (ss.take t) [] ++ [rowOf w (tabG w (ss.take t) []) ss[t]]) = col n (tabG w (ss.take t) []) ++ [gt (rowOf w (tabG w (ss.take t) []) ss[t]) n] := by simp [col]
    rw [take_snoc hs, behG_snoc, tabG_snoc, hcol, ih]
    congr 2
    refine step_col (tabG_rowL h t (by omega)) hok hn ?_
    rcases hb with hb | ⟨m, rfl, rfl, rfl⟩
    · exact .inl hb
    · refine .inr ⟨m, _, rfl, rfl, rfl, ?_⟩
      obtain ⟨more, em⟩ := tabG_pre (w := w) (ss.drop (t + 1)) (tabG w (ss.take t) [] ++ [rowOf w (tabG w (ss.take t) []) ss[t]])
      have et : tab ss w = tabG w (ss.take t) [] ++ [rowOf w (tabG w (ss.take t) []) ss[t]] ++ more := by
        rw [← em]
        have : ∀ (a c : List St) (r : List (List Bool)), tabG w (a ++ c) r = tabG w c (tabG w a r) := fun a => by
          induction a with
          | nil => intro c r; rfl
          | cons x a ih => intro c r; exact ih c _
        rw [← tabG_snoc, ← take_snoc hs, ← this, List.take_append_drop]
        rfl
      have hl : ∀ i, i < t → gr (tab ss w) i = gr (tabG w (ss.take t) []) i := fun i hi => by
        rw [et]
        simp only [gr, List.getD_eq_getElem?_getD]
        rw [List.append_assoc, List.getElem?_append_left (by omega)]
      have hlt : gr (tab ss w) t = rowOf w (tabG w (ss.take t) []) ss[t] := by
        rw [et]
        simp only [gr, List.getD_eq_getElem?_getD]
        rw [List.append_assoc, List.getElem?_append_right (by omega), hlen]
        simp
      have htl : t < (tab ss w).length := by rw [et]; simp [hlen]
      rw [hlen]
      refine ⟨fun i hi => ?_, ?_⟩
      · rw [gt_col (by omega), hl i hi]
      · rw [gt_col htl, hlt]
theorem tr_tab {ss : List St} {w : List Nat} (h : Val ss) : ∀ n, n ≤ w.length → tr ss (w.take n) = col n (tab ss w)
  | 0, _ => by
    have := beh_col (w := w) (n := 0) (b := none) (l := none) h (Nat.zero_le _) (.inl ⟨rfl, rfl, rfl⟩) ss.length (Nat.le_refl _)
    rw [List.take_length] at this
    exact this
  | n + 1, hn => by
    have hw : w[n]? = some w[n] := List.getElem?_eq_getElem (by omega)
    rw [take_snoc hw, tr_snoc, tr_tab h n (by omega)]
    have := beh_col (w := w) (n := n + 1) (b := some (col n (tab ss w))) (l := some w[n]) h hn (.inr ⟨n, rfl, rfl, hw.symm⟩) ss.length (Nat.le_refl _)
    rw [List.take_length] at this
    exact this
end NT.Law

set_option Elab.async false
set_option linter.all false
set_option maxRecDepth 100000
set_option maxHeartbeats 2000000
set_option autoImplicit false
namespace NT.Law
open PySem PySem.Spec PyProof.Rows L2 NT

theorem it_rng {m : Nat} (h : m ≤ 10000) : iterD .range [.int (m : Int)] = some (intL 0 m) := by
  simp only [iterD, Int.toNat_natCast]
  rw [if_pos ⟨by omega, by omega⟩]
theorem intL_len' {lo : Int} {n : Nat} : (intL lo n).length = n := by simp [intL]
theorem intL_get {lo : Int} {n i : Nat} {x : D} (h : (intL lo n)[i]? = some x) : i < n ∧ x = .int (lo + i) := by
  have hi : i < n := by
    have := (List.getElem?_eq_some_iff.mp h).1
    simpa [intL] using this
  refine ⟨hi, ?_⟩
  simp [intL, hi] at h
  exact h.symm
section
variable {k r j : Nat} {μ : Mu}
theorem word_spec {cs : List Nat} {n : Nat} (h : Dice (r + n + 1) j μ) (hc : cs ≠ []) (hl : cs.length ≤ 100) (hn : n ≤ 1000) :
    ∃ w μ', callN PP (k + 3) 16 [.mut j, .str (st cs), .int n] μ = .ok (.str (st w), false) μ' ∧ w.length ≤ n ∧ (∀ c ∈ w, c ∈ cs) ∧ Dice r j μ' ∧ Sm j μ μ' := by
  have h0 : Dice ((r + n) + 1) j μ := h
  obtain ⟨x, μ1, e1, hx0, hx1, hD1, hS1⟩ := roll_spec (P := PP) (i := 12) (k := k + 1) (n := (n : Int) + 1) rfl h0 (by omega) (by omega)
  obtain ⟨m, rfl⟩ := Int.eq_ofNat_of_zero_le hx0
  have hmn : m ≤ n := by omega
  obtain ⟨rr, μ2, e2, w, rfl, hwl, hwc, hD2, hS2⟩ := lcGo_all (t := .name 3) (cond := evc (callN PP (k + 2)) none) (el := ev (callN PP (k + 2)) (.call 13 [(.var 0), (.bi .list [(.var 1)])])) (g := [.ok (.mut j), .ok (.str (st cs)), .ok (.int n), .no]) (items := intL 0 m) (μ := μ1)
    (fun i acc μ' => ∃ w, acc = chs w ∧ w.length = i ∧ (∀ c ∈ w, c ∈ cs) ∧ Dice (r + (n - i)) j μ' ∧ Sm j μ1 μ') ⟨[], rfl, rfl, by simp, hD1, .refl⟩ (by
      rintro i x acc μ' hi ⟨w, rfl, hwl, hwc, hD, hS⟩
      obtain ⟨him, rfl⟩ := intL_get hi
      have hne : chs cs ≠ [] := by cases cs with | nil => exact absurd rfl hc | cons _ _ => simp [chs]
      obtain ⟨y, μ3, e3, hy, hD3, hS3⟩ := one_of_spec (P := PP) (i := 13) (ir := 12) (k := k) (r := r + (n - (i + 1))) (d := .lst (chs cs)) (l := chs cs) rfl rfl (hD.mono (by omega)) (.inl rfl) hne (by rw [chs_len]; omega)
      obtain ⟨c, hcc, rfl⟩ := List.mem_map.mp hy
      refine ⟨_, rfl, .inr ⟨μ', .str (ch c), .pl, μ3, by simp, ?_, rfl, w ++ [c], by simp [chs], by simp [hwl], ?_, hD3, hS.trans hS3⟩⟩
      · have hb : biD .list [.str (st cs)] = some (.lst (chs cs), .fr) := by simp only [biD, rowD_str]; rfl
        simp [hb, e3]
      · intro c' hc'
        rcases List.mem_append.mp hc' with z | z
        · exact hwc c' z
        · rw [List.mem_singleton.mp z]; exact hcc)
  rw [intL_len'] at hwl hD2
  refine ⟨w, μ2, ?_, by omega, hwc, hD2.mono (by omega), hS1.trans hS2⟩
  rw [call_eq (df := f__law_word) rfl rfl]
  have hj := miD_join (cs := w) (by show _ ≤ 16777216; omega)
  have hit := it_rng (m := m) (by omega)
  simp [f__law_word, i__law_word, e1, hit, e2, hj]

/-! a drawn saying -/
structure Drn (cs : List Nat) (ss : List St) : Prop where
  ok : ∀ (t : Nat) (s : St), ss[t]? = some s → okAt t s
  lt : ∀ c, St.lt c ∈ ss → c ∈ cs
theorem Drn.snoc {cs : List Nat} {ss : List St} {s : St} (h : Drn cs ss) (h1 : okAt ss.length s) (h2 : ∀ c, s = .lt c → c ∈ cs) : Drn cs (ss ++ [s]) := by
  refine ⟨fun t s' e => ?_, fun c hc => ?_⟩
  · by_cases ht : t < ss.length
    · rw [List.getElem?_append_left ht] at e; exact h.ok t s' e
    · rw [List.getElem?_append_right (by omega)] at e
      have : t - ss.length = 0 := by
        by_cases z : t - ss.length = 0
        · exact z
        · rw [List.getElem?_eq_none (by simp; omega)] at e; cases e
      rw [this] at e
      cases e
      have : t = ss.length := by omega
      subst this
      exact h1
  · rcases List.mem_append.mp hc with z | z
    · exact h.lt c z
    · exact h2 c (List.mem_singleton.mp z).symm
abbrev gSay (j : Nat) (cs : List Nat) (l : List D) (x4 x5 x6 x7 : Slot) : Slots := [.ok (.mut j), .ok (.str (st cs)), .ok (.int 9), .own l, x4, x5, x6, x7]
theorem one_of_cs {cs : List Nat} (h : Dice (r + 1) j μ) (hc : cs ≠ []) (hl : cs.length ≤ 100) : ∃ c μ', callN PP (k + 2) 13 [.mut j, .lst (chs cs)] μ = .ok (.str (ch c), false) μ' ∧ c ∈ cs ∧ Dice r j μ' ∧ Sm j μ μ' := by
  have hne : chs cs ≠ [] := by cases cs with | nil => exact absurd rfl hc | cons _ _ => simp [chs]
  obtain ⟨y, μ3, e3, hy, hD3, hS3⟩ := one_of_spec (P := PP) (i := 13) (ir := 12) (k := k) (r := r) (d := .lst (chs cs)) (l := chs cs) rfl rfl h (.inl rfl) hne (by rw [chs_len]; omega)
  obtain ⟨c, hcc, rfl⟩ := List.mem_map.mp hy
  exact ⟨c, μ3, e3, hcc, hD3, hS3⟩
end
section
variable {C : Cs} {k r j : Nat} {μ μ2 : Mu} {cs : List Nat}
theorem ifs_take {t : E} {a b : List S} {g : Slots} (h : ev C t g μ = .ok (.bl true, .pl) μ) : exe C (.ifs t a b) g μ = exes C a g μ := by
  rw [exe_ifs, h, RE.ok_bind, iteK_t]
theorem say_app {te : E} {l : List D} {d : D} {x4 x5 x6 x7 : Slot} (h : ev C te (gSay j cs l x4 x5 x6 x7) μ = .ok (d, .pl) μ2) (hz : l.length ≤ 1000) : exe C (.app 3 te) (gSay j cs l x4 x5 x6 x7) μ = .ok (.nx (gSay j cs (l ++ [d]) x4 x5 x6 x7)) μ2 := by
  rw [exe_app, h, RE.ok_bind]
  exact appK_ok rfl rfl (by show _ < 16777216; omega)
theorem say_eq {l : List D} {x4 x6 x7 : Slot} {v n : Nat} : ev C (.cmp .Eq (.var 5) (.c (.int (n : Int)))) (gSay j cs l x4 (.ok (.int (v : Int))) x6 x7) μ = .ok (.bl (decide (v = n)), .pl) μ := by
  have e : decide ((v : Int) = (n : Int)) = decide (v = n) := by
    rw [decide_eq_decide]; omega
  simp [e]
theorem say_gt {l : List D} {x4 x6 x7 : Slot} {v : Nat} : ev C (.cmp .Gt (.var 5) (.c (.int 3))) (gSay j cs l x4 (.ok (.int (v : Int))) x6 x7) μ = .ok (.bl (decide (3 < v)), .pl) μ := by
  have e : decide ((3 : Int) < (v : Int)) = decide (3 < v) := by
    rw [decide_eq_decide]; omega
  simp [e]
theorem say_way {cs : List Nat} {ss : List St} {a p q v : Nat} (hD : Dice (r + 1) j μ) (hc : cs ≠ []) (hl : cs.length ≤ 100) (hab : ∀ c ∈ cs, c < 0x110000) (hs : Drn cs ss) (ha : ss.length = a) (hal : a ≤ 100) (hp : p < a) (hq : q < a) (hv : v < 6) :
    ∃ s μ', exes (callN PP (k + 2)) [.ifs (.cmp .Eq (.var 5) (.c (.int 0))) [.app 3 (.tup [(.c (.str "letter")), (.call 13 [(.var 0), (.bi .list [(.var 1)])])])] [], .ifs (.cmp .Eq (.var 5) (.c (.int 1))) [.frz 6, .app 3 (.tup [(.c (.str "not")), (.var 6)])] [], .ifs (.cmp .Eq (.var 5) (.c (.int 2))) [.frz 6, .frz 7, .app 3 (.tup [(.c (.str "either")), (.var 6), (.var 7)])] [], .ifs (.cmp .Eq (.var 5) (.c (.int 3))) [.frz 6, .app 3 (.tup [(.c (.str "ahead")), (.var 6)])] [], .ifs (.cmp .Gt (.var 5) (.c (.int 3))) [.frz 6, .frz 7, .app 3 (.tup [(.c (.str "since")), (.var 6), (.var 7)])] []] (gSay j cs (ss.map toD) (.ok (.int a)) (.ok (.int v)) (.ok (.int p)) (.ok (.int q))) μ = .ok (.nx (gSay j cs ((ss ++ [s]).map toD) (.ok (.int a)) (.ok (.int v)) (.ok (.int p)) (.ok (.int q)))) μ' ∧ Drn cs (ss ++ [s]) ∧ Dice r j μ' ∧ Sm j μ μ' := by
  have hz : (ss.map toD).length ≤ 1000 := by rw [List.length_map]; omega
  have D0 := hD.mono (Nat.le_succ r)
  by_cases h0 : v = 0
  · subst h0
    obtain ⟨c, μ', e, hcc, hD', hS'⟩ := one_of_cs (k := k) hD hc hl
    have hb : biD .list [.str (st cs)] = some (.lst (chs cs), .fr) := by simp only [biD, rowD_str]; rfl
    have ht : ev (callN PP (k + 2)) (.tup [(.c (.str "letter")), (.call 13 [(.var 0), (.bi .list [(.var 1)])])]) (gSay j cs (ss.map toD) (.ok (.int a)) (.ok (.int ((0 : Nat) : Int))) (.ok (.int p)) (.ok (.int q))) μ = .ok (toD (.lt c), .pl) μ' := by simp [szv, hb, e, toD]
    have ha2 := say_app ht hz
    have hmm : ss.map toD ++ [toD (St.lt c)] = (ss ++ [St.lt c]).map toD := by simp
    rw [hmm] at ha2
    have t0 : ev (callN PP (k + 2)) (.cmp .Eq (.var 5) (.c (.int 0))) (gSay j cs (ss.map toD) (.ok (.int a)) (.ok (.int ((0 : Nat) : Int))) (.ok (.int p)) (.ok (.int q))) μ = .ok (.bl true, .pl) μ := (by have := @say_eq (callN PP (k + 2)) j μ cs (ss.map toD) (.ok (.int a)) (.ok (.int p)) (.ok (.int q)) 0 0; simpa using this)
    have t1 : ev (callN PP (k + 2)) (.cmp .Eq (.var 5) (.c (.int 1))) (gSay j cs ((ss ++ [St.lt c]).map toD) (.ok (.int a)) (.ok (.int ((0 : Nat) : Int))) (.ok (.int p)) (.ok (.int q))) μ' = .ok (.bl false, .pl) μ' := (by have := @say_eq (callN PP (k + 2)) j μ' cs ((ss ++ [St.lt c]).map toD) (.ok (.int a)) (.ok (.int p)) (.ok (.int q)) 0 1; simpa using this)
    have t2 : ev (callN PP (k + 2)) (.cmp .Eq (.var 5) (.c (.int 2))) (gSay j cs ((ss ++ [St.lt c]).map toD) (.ok (.int a)) (.ok (.int ((0 : Nat) : Int))) (.ok (.int p)) (.ok (.int q))) μ' = .ok (.bl false, .pl) μ' := (by have := @say_eq (callN PP (k + 2)) j μ' cs ((ss ++ [St.lt c]).map toD) (.ok (.int a)) (.ok (.int p)) (.ok (.int q)) 0 2; simpa using this)
    have t3 : ev (callN PP (k + 2)) (.cmp .Eq (.var 5) (.c (.int 3))) (gSay j cs ((ss ++ [St.lt c]).map toD) (.ok (.int a)) (.ok (.int ((0 : Nat) : Int))) (.ok (.int p)) (.ok (.int q))) μ' = .ok (.bl false, .pl) μ' := (by have := @say_eq (callN PP (k + 2)) j μ' cs ((ss ++ [St.lt c]).map toD) (.ok (.int a)) (.ok (.int p)) (.ok (.int q)) 0 3; simpa using this)
    have t4 : ev (callN PP (k + 2)) (.cmp .Gt (.var 5) (.c (.int 3))) (gSay j cs ((ss ++ [St.lt c]).map toD) (.ok (.int a)) (.ok (.int ((0 : Nat) : Int))) (.ok (.int p)) (.ok (.int q))) μ' = .ok (.bl false, .pl) μ' := (by have := @say_gt (callN PP (k + 2)) j μ' cs ((ss ++ [St.lt c]).map toD) (.ok (.int a)) (.ok (.int p)) (.ok (.int q)) 0; simpa using this)
    exact ⟨St.lt c, μ', by rw [exes_cons, ifs_take t0, exes_cons, ha2, RE.ok_bind, seqK_nx, exes_nil, RE.ok_bind, seqK_nx, exes_cons, ifs_skip t1, RE.ok_bind, seqK_nx, exes_cons, ifs_skip t2, RE.ok_bind, seqK_nx, exes_cons, ifs_skip t3, RE.ok_bind, seqK_nx, exes_cons, ifs_skip t4, RE.ok_bind, seqK_nx, exes_nil], hs.snoc (by show c < 0x110000; exact hab c hcc) (fun c' e => by cases e; exact hcc), hD', hS'⟩
  by_cases h1 : v = 1
  · subst h1
    have ht : ev (callN PP (k + 2)) (.tup [(.c (.str "not")), (.var 6)]) (gSay j cs (ss.map toD) (.ok (.int a)) (.ok (.int ((1 : Nat) : Int))) (.ok (.int p)) (.ok (.int q))) μ = .ok (toD (St.nt p), .pl) μ := by simp [szv, toD]
    have ha2 := say_app ht hz
    have hmm : ss.map toD ++ [toD (St.nt p)] = (ss ++ [St.nt p]).map toD := by simp
    rw [hmm] at ha2
    have t0 : ev (callN PP (k + 2)) (.cmp .Eq (.var 5) (.c (.int 0))) (gSay j cs (ss.map toD) (.ok (.int a)) (.ok (.int ((1 : Nat) : Int))) (.ok (.int p)) (.ok (.int q))) μ = .ok (.bl false, .pl) μ := (by have := @say_eq (callN PP (k + 2)) j μ cs (ss.map toD) (.ok (.int a)) (.ok (.int p)) (.ok (.int q)) 1 0; simpa using this)
    have t1 : ev (callN PP (k + 2)) (.cmp .Eq (.var 5) (.c (.int 1))) (gSay j cs (ss.map toD) (.ok (.int a)) (.ok (.int ((1 : Nat) : Int))) (.ok (.int p)) (.ok (.int q))) μ = .ok (.bl true, .pl) μ := (by have := @say_eq (callN PP (k + 2)) j μ cs (ss.map toD) (.ok (.int a)) (.ok (.int p)) (.ok (.int q)) 1 1; simpa using this)
    have t2 : ev (callN PP (k + 2)) (.cmp .Eq (.var 5) (.c (.int 2))) (gSay j cs ((ss ++ [St.nt p]).map toD) (.ok (.int a)) (.ok (.int ((1 : Nat) : Int))) (.ok (.int p)) (.ok (.int q))) μ = .ok (.bl false, .pl) μ := (by have := @say_eq (callN PP (k + 2)) j μ cs ((ss ++ [St.nt p]).map toD) (.ok (.int a)) (.ok (.int p)) (.ok (.int q)) 1 2; simpa using this)
    have t3 : ev (callN PP (k + 2)) (.cmp .Eq (.var 5) (.c (.int 3))) (gSay j cs ((ss ++ [St.nt p]).map toD) (.ok (.int a)) (.ok (.int ((1 : Nat) : Int))) (.ok (.int p)) (.ok (.int q))) μ = .ok (.bl false, .pl) μ := (by have := @say_eq (callN PP (k + 2)) j μ cs ((ss ++ [St.nt p]).map toD) (.ok (.int a)) (.ok (.int p)) (.ok (.int q)) 1 3; simpa using this)
    have t4 : ev (callN PP (k + 2)) (.cmp .Gt (.var 5) (.c (.int 3))) (gSay j cs ((ss ++ [St.nt p]).map toD) (.ok (.int a)) (.ok (.int ((1 : Nat) : Int))) (.ok (.int p)) (.ok (.int q))) μ = .ok (.bl false, .pl) μ := (by have := @say_gt (callN PP (k + 2)) j μ cs ((ss ++ [St.nt p]).map toD) (.ok (.int a)) (.ok (.int p)) (.ok (.int q)) 1; simpa using this)
    have f6 : exe (callN PP (k + 2)) (.frz 6) (gSay j cs (ss.map toD) (.ok (.int a)) (.ok (.int ((1 : Nat) : Int))) (.ok (.int p)) (.ok (.int q))) μ = .ok (.nx (gSay j cs (ss.map toD) (.ok (.int a)) (.ok (.int ((1 : Nat) : Int))) (.ok (.int p)) (.ok (.int q)))) μ := rfl
    have f7 : exe (callN PP (k + 2)) (.frz 7) (gSay j cs (ss.map toD) (.ok (.int a)) (.ok (.int ((1 : Nat) : Int))) (.ok (.int p)) (.ok (.int q))) μ = .ok (.nx (gSay j cs (ss.map toD) (.ok (.int a)) (.ok (.int ((1 : Nat) : Int))) (.ok (.int p)) (.ok (.int q)))) μ := rfl
    exact ⟨St.nt p, μ, by rw [exes_cons, ifs_skip t0, RE.ok_bind, seqK_nx, exes_cons, ifs_take t1, exes_cons, f6, RE.ok_bind, seqK_nx, exes_cons, ha2, RE.ok_bind, seqK_nx, exes_nil, RE.ok_bind, seqK_nx, exes_cons, ifs_skip t2, RE.ok_bind, seqK_nx, exes_cons, ifs_skip t3, RE.ok_bind, seqK_nx, exes_cons, ifs_skip t4, RE.ok_bind, seqK_nx, exes_nil], hs.snoc (by show p < _; omega) (fun c' e => by cases e), D0, .refl⟩
  by_cases h2 : v = 2
  · subst h2
    have ht : ev (callN PP (k + 2)) (.tup [(.c (.str "either")), (.var 6), (.var 7)]) (gSay j cs (ss.map toD) (.ok (.int a)) (.ok (.int ((2 : Nat) : Int))) (.ok (.int p)) (.ok (.int q))) μ = .ok (toD (St.ei p q), .pl) μ := by simp [szv, toD]
    have ha2 := say_app ht hz
    have hmm : ss.map toD ++ [toD (St.ei p q)] = (ss ++ [St.ei p q]).map toD := by simp
    rw [hmm] at ha2
    have t0 : ev (callN PP (k + 2)) (.cmp .Eq (.var 5) (.c (.int 0))) (gSay j cs (ss.map toD) (.ok (.int a)) (.ok (.int ((2 : Nat) : Int))) (.ok (.int p)) (.ok (.int q))) μ = .ok (.bl false, .pl) μ := (by have := @say_eq (callN PP (k + 2)) j μ cs (ss.map toD) (.ok (.int a)) (.ok (.int p)) (.ok (.int q)) 2 0; simpa using this)
    have t1 : ev (callN PP (k + 2)) (.cmp .Eq (.var 5) (.c (.int 1))) (gSay j cs (ss.map toD) (.ok (.int a)) (.ok (.int ((2 : Nat) : Int))) (.ok (.int p)) (.ok (.int q))) μ = .ok (.bl false, .pl) μ := (by have := @say_eq (callN PP (k + 2)) j μ cs (ss.map toD) (.ok (.int a)) (.ok (.int p)) (.ok (.int q)) 2 1; simpa using this)
    have t2 : ev (callN PP (k + 2)) (.cmp .Eq (.var 5) (.c (.int 2))) (gSay j cs (ss.map toD) (.ok (.int a)) (.ok (.int ((2 : Nat) : Int))) (.ok (.int p)) (.ok (.int q))) μ = .ok (.bl true, .pl) μ := (by have := @say_eq (callN PP (k + 2)) j μ cs (ss.map toD) (.ok (.int a)) (.ok (.int p)) (.ok (.int q)) 2 2; simpa using this)
    have t3 : ev (callN PP (k + 2)) (.cmp .Eq (.var 5) (.c (.int 3))) (gSay j cs ((ss ++ [St.ei p q]).map toD) (.ok (.int a)) (.ok (.int ((2 : Nat) : Int))) (.ok (.int p)) (.ok (.int q))) μ = .ok (.bl false, .pl) μ := (by have := @say_eq (callN PP (k + 2)) j μ cs ((ss ++ [St.ei p q]).map toD) (.ok (.int a)) (.ok (.int p)) (.ok (.int q)) 2 3; simpa using this)
    have t4 : ev (callN PP (k + 2)) (.cmp .Gt (.var 5) (.c (.int 3))) (gSay j cs ((ss ++ [St.ei p q]).map toD) (.ok (.int a)) (.ok (.int ((2 : Nat) : Int))) (.ok (.int p)) (.ok (.int q))) μ = .ok (.bl false, .pl) μ := (by have := @say_gt (callN PP (k + 2)) j μ cs ((ss ++ [St.ei p q]).map toD) (.ok (.int a)) (.ok (.int p)) (.ok (.int q)) 2; simpa using this)
    have f6 : exe (callN PP (k + 2)) (.frz 6) (gSay j cs (ss.map toD) (.ok (.int a)) (.ok (.int ((2 : Nat) : Int))) (.ok (.int p)) (.ok (.int q))) μ = .ok (.nx (gSay j cs (ss.map toD) (.ok (.int a)) (.ok (.int ((2 : Nat) : Int))) (.ok (.int p)) (.ok (.int q)))) μ := rfl
    have f7 : exe (callN PP (k + 2)) (.frz 7) (gSay j cs (ss.map toD) (.ok (.int a)) (.ok (.int ((2 : Nat) : Int))) (.ok (.int p)) (.ok (.int q))) μ = .ok (.nx (gSay j cs (ss.map toD) (.ok (.int a)) (.ok (.int ((2 : Nat) : Int))) (.ok (.int p)) (.ok (.int q)))) μ := rfl
    exact ⟨St.ei p q, μ, by rw [exes_cons, ifs_skip t0, RE.ok_bind, seqK_nx, exes_cons, ifs_skip t1, RE.ok_bind, seqK_nx, exes_cons, ifs_take t2, exes_cons, f6, RE.ok_bind, seqK_nx, exes_cons, f7, RE.ok_bind, seqK_nx, exes_cons, ha2, RE.ok_bind, seqK_nx, exes_nil, RE.ok_bind, seqK_nx, exes_cons, ifs_skip t3, RE.ok_bind, seqK_nx, exes_cons, ifs_skip t4, RE.ok_bind, seqK_nx, exes_nil], hs.snoc (⟨by omega, by omega⟩) (fun c' e => by cases e), D0, .refl⟩
  by_cases h3 : v = 3
  · subst h3
    have ht : ev (callN PP (k + 2)) (.tup [(.c (.str "ahead")), (.var 6)]) (gSay j cs (ss.map toD) (.ok (.int a)) (.ok (.int ((3 : Nat) : Int))) (.ok (.int p)) (.ok (.int q))) μ = .ok (toD (St.ah p), .pl) μ := by simp [szv, toD]
    have ha2 := say_app ht hz
    have hmm : ss.map toD ++ [toD (St.ah p)] = (ss ++ [St.ah p]).map toD := by simp
    rw [hmm] at ha2
    have t0 : ev (callN PP (k + 2)) (.cmp .Eq (.var 5) (.c (.int 0))) (gSay j cs (ss.map toD) (.ok (.int a)) (.ok (.int ((3 : Nat) : Int))) (.ok (.int p)) (.ok (.int q))) μ = .ok (.bl false, .pl) μ := (by have := @say_eq (callN PP (k + 2)) j μ cs (ss.map toD) (.ok (.int a)) (.ok (.int p)) (.ok (.int q)) 3 0; simpa using this)
    have t1 : ev (callN PP (k + 2)) (.cmp .Eq (.var 5) (.c (.int 1))) (gSay j cs (ss.map toD) (.ok (.int a)) (.ok (.int ((3 : Nat) : Int))) (.ok (.int p)) (.ok (.int q))) μ = .ok (.bl false, .pl) μ := (by have := @say_eq (callN PP (k + 2)) j μ cs (ss.map toD) (.ok (.int a)) (.ok (.int p)) (.ok (.int q)) 3 1; simpa using this)
    have t2 : ev (callN PP (k + 2)) (.cmp .Eq (.var 5) (.c (.int 2))) (gSay j cs (ss.map toD) (.ok (.int a)) (.ok (.int ((3 : Nat) : Int))) (.ok (.int p)) (.ok (.int q))) μ = .ok (.bl false, .pl) μ := (by have := @say_eq (callN PP (k + 2)) j μ cs (ss.map toD) (.ok (.int a)) (.ok (.int p)) (.ok (.int q)) 3 2; simpa using this)
    have t3 : ev (callN PP (k + 2)) (.cmp .Eq (.var 5) (.c (.int 3))) (gSay j cs (ss.map toD) (.ok (.int a)) (.ok (.int ((3 : Nat) : Int))) (.ok (.int p)) (.ok (.int q))) μ = .ok (.bl true, .pl) μ := (by have := @say_eq (callN PP (k + 2)) j μ cs (ss.map toD) (.ok (.int a)) (.ok (.int p)) (.ok (.int q)) 3 3; simpa using this)
    have t4 : ev (callN PP (k + 2)) (.cmp .Gt (.var 5) (.c (.int 3))) (gSay j cs ((ss ++ [St.ah p]).map toD) (.ok (.int a)) (.ok (.int ((3 : Nat) : Int))) (.ok (.int p)) (.ok (.int q))) μ = .ok (.bl false, .pl) μ := (by have := @say_gt (callN PP (k + 2)) j μ cs ((ss ++ [St.ah p]).map toD) (.ok (.int a)) (.ok (.int p)) (.ok (.int q)) 3; simpa using this)
    have f6 : exe (callN PP (k + 2)) (.frz 6) (gSay j cs (ss.map toD) (.ok (.int a)) (.ok (.int ((3 : Nat) : Int))) (.ok (.int p)) (.ok (.int q))) μ = .ok (.nx (gSay j cs (ss.map toD) (.ok (.int a)) (.ok (.int ((3 : Nat) : Int))) (.ok (.int p)) (.ok (.int q)))) μ := rfl
    have f7 : exe (callN PP (k + 2)) (.frz 7) (gSay j cs (ss.map toD) (.ok (.int a)) (.ok (.int ((3 : Nat) : Int))) (.ok (.int p)) (.ok (.int q))) μ = .ok (.nx (gSay j cs (ss.map toD) (.ok (.int a)) (.ok (.int ((3 : Nat) : Int))) (.ok (.int p)) (.ok (.int q)))) μ := rfl
    exact ⟨St.ah p, μ, by rw [exes_cons, ifs_skip t0, RE.ok_bind, seqK_nx, exes_cons, ifs_skip t1, RE.ok_bind, seqK_nx, exes_cons, ifs_skip t2, RE.ok_bind, seqK_nx, exes_cons, ifs_take t3, exes_cons, f6, RE.ok_bind, seqK_nx, exes_cons, ha2, RE.ok_bind, seqK_nx, exes_nil, RE.ok_bind, seqK_nx, exes_cons, ifs_skip t4, RE.ok_bind, seqK_nx, exes_nil], hs.snoc (by show p < _; omega) (fun c' e => by cases e), D0, .refl⟩
  by_cases h4 : v = 4
  · subst h4
    have ht : ev (callN PP (k + 2)) (.tup [(.c (.str "since")), (.var 6), (.var 7)]) (gSay j cs (ss.map toD) (.ok (.int a)) (.ok (.int ((4 : Nat) : Int))) (.ok (.int p)) (.ok (.int q))) μ = .ok (toD (St.si p q), .pl) μ := by simp [szv, toD]
    have ha2 := say_app ht hz
    have hmm : ss.map toD ++ [toD (St.si p q)] = (ss ++ [St.si p q]).map toD := by simp
    rw [hmm] at ha2
    have t0 : ev (callN PP (k + 2)) (.cmp .Eq (.var 5) (.c (.int 0))) (gSay j cs (ss.map toD) (.ok (.int a)) (.ok (.int ((4 : Nat) : Int))) (.ok (.int p)) (.ok (.int q))) μ = .ok (.bl false, .pl) μ := (by have := @say_eq (callN PP (k + 2)) j μ cs (ss.map toD) (.ok (.int a)) (.ok (.int p)) (.ok (.int q)) 4 0; simpa using this)
    have t1 : ev (callN PP (k + 2)) (.cmp .Eq (.var 5) (.c (.int 1))) (gSay j cs (ss.map toD) (.ok (.int a)) (.ok (.int ((4 : Nat) : Int))) (.ok (.int p)) (.ok (.int q))) μ = .ok (.bl false, .pl) μ := (by have := @say_eq (callN PP (k + 2)) j μ cs (ss.map toD) (.ok (.int a)) (.ok (.int p)) (.ok (.int q)) 4 1; simpa using this)
    have t2 : ev (callN PP (k + 2)) (.cmp .Eq (.var 5) (.c (.int 2))) (gSay j cs (ss.map toD) (.ok (.int a)) (.ok (.int ((4 : Nat) : Int))) (.ok (.int p)) (.ok (.int q))) μ = .ok (.bl false, .pl) μ := (by have := @say_eq (callN PP (k + 2)) j μ cs (ss.map toD) (.ok (.int a)) (.ok (.int p)) (.ok (.int q)) 4 2; simpa using this)
    have t3 : ev (callN PP (k + 2)) (.cmp .Eq (.var 5) (.c (.int 3))) (gSay j cs (ss.map toD) (.ok (.int a)) (.ok (.int ((4 : Nat) : Int))) (.ok (.int p)) (.ok (.int q))) μ = .ok (.bl false, .pl) μ := (by have := @say_eq (callN PP (k + 2)) j μ cs (ss.map toD) (.ok (.int a)) (.ok (.int p)) (.ok (.int q)) 4 3; simpa using this)
    have t4 : ev (callN PP (k + 2)) (.cmp .Gt (.var 5) (.c (.int 3))) (gSay j cs (ss.map toD) (.ok (.int a)) (.ok (.int ((4 : Nat) : Int))) (.ok (.int p)) (.ok (.int q))) μ = .ok (.bl true, .pl) μ := (by have := @say_gt (callN PP (k + 2)) j μ cs (ss.map toD) (.ok (.int a)) (.ok (.int p)) (.ok (.int q)) 4; simpa using this)
    have f6 : exe (callN PP (k + 2)) (.frz 6) (gSay j cs (ss.map toD) (.ok (.int a)) (.ok (.int ((4 : Nat) : Int))) (.ok (.int p)) (.ok (.int q))) μ = .ok (.nx (gSay j cs (ss.map toD) (.ok (.int a)) (.ok (.int ((4 : Nat) : Int))) (.ok (.int p)) (.ok (.int q)))) μ := rfl
    have f7 : exe (callN PP (k + 2)) (.frz 7) (gSay j cs (ss.map toD) (.ok (.int a)) (.ok (.int ((4 : Nat) : Int))) (.ok (.int p)) (.ok (.int q))) μ = .ok (.nx (gSay j cs (ss.map toD) (.ok (.int a)) (.ok (.int ((4 : Nat) : Int))) (.ok (.int p)) (.ok (.int q)))) μ := rfl
    exact ⟨St.si p q, μ, by rw [exes_cons, ifs_skip t0, RE.ok_bind, seqK_nx, exes_cons, ifs_skip t1, RE.ok_bind, seqK_nx, exes_cons, ifs_skip t2, RE.ok_bind, seqK_nx, exes_cons, ifs_skip t3, RE.ok_bind, seqK_nx, exes_cons, ifs_take t4, exes_cons, f6, RE.ok_bind, seqK_nx, exes_cons, f7, RE.ok_bind, seqK_nx, exes_cons, ha2, RE.ok_bind, seqK_nx, exes_nil, RE.ok_bind, seqK_nx, exes_nil], hs.snoc (⟨by omega, by omega⟩) (fun c' e => by cases e), D0, .refl⟩
  by_cases h5 : v = 5
  · subst h5
    have ht : ev (callN PP (k + 2)) (.tup [(.c (.str "since")), (.var 6), (.var 7)]) (gSay j cs (ss.map toD) (.ok (.int a)) (.ok (.int ((5 : Nat) : Int))) (.ok (.int p)) (.ok (.int q))) μ = .ok (toD (St.si p q), .pl) μ := by simp [szv, toD]
    have ha2 := say_app ht hz
    have hmm : ss.map toD ++ [toD (St.si p q)] = (ss ++ [St.si p q]).map toD := by simp
    rw [hmm] at ha2
    have t0 : ev (callN PP (k + 2)) (.cmp .Eq (.var 5) (.c (.int 0))) (gSay j cs (ss.map toD) (.ok (.int a)) (.ok (.int ((5 : Nat) : Int))) (.ok (.int p)) (.ok (.int q))) μ = .ok (.bl false, .pl) μ := (by have := @say_eq (callN PP (k + 2)) j μ cs (ss.map toD) (.ok (.int a)) (.ok (.int p)) (.ok (.int q)) 5 0; simpa using this)
    have t1 : ev (callN PP (k + 2)) (.cmp .Eq (.var 5) (.c (.int 1))) (gSay j cs (ss.map toD) (.ok (.int a)) (.ok (.int ((5 : Nat) : Int))) (.ok (.int p)) (.ok (.int q))) μ = .ok (.bl false, .pl) μ := (by have := @say_eq (callN PP (k + 2)) j μ cs (ss.map toD) (.ok (.int a)) (.ok (.int p)) (.ok (.int q)) 5 1; simpa using this)
    have t2 : ev (callN PP (k + 2)) (.cmp .Eq (.var 5) (.c (.int 2))) (gSay j cs (ss.map toD) (.ok (.int a)) (.ok (.int ((5 : Nat) : Int))) (.ok (.int p)) (.ok (.int q))) μ = .ok (.bl false, .pl) μ := (by have := @say_eq (callN PP (k + 2)) j μ cs (ss.map toD) (.ok (.int a)) (.ok (.int p)) (.ok (.int q)) 5 2; simpa using this)
    have t3 : ev (callN PP (k + 2)) (.cmp .Eq (.var 5) (.c (.int 3))) (gSay j cs (ss.map toD) (.ok (.int a)) (.ok (.int ((5 : Nat) : Int))) (.ok (.int p)) (.ok (.int q))) μ = .ok (.bl false, .pl) μ := (by have := @say_eq (callN PP (k + 2)) j μ cs (ss.map toD) (.ok (.int a)) (.ok (.int p)) (.ok (.int q)) 5 3; simpa using this)
    have t4 : ev (callN PP (k + 2)) (.cmp .Gt (.var 5) (.c (.int 3))) (gSay j cs (ss.map toD) (.ok (.int a)) (.ok (.int ((5 : Nat) : Int))) (.ok (.int p)) (.ok (.int q))) μ = .ok (.bl true, .pl) μ := (by have := @say_gt (callN PP (k + 2)) j μ cs (ss.map toD) (.ok (.int a)) (.ok (.int p)) (.ok (.int q)) 5; simpa using this)
    have f6 : exe (callN PP (k + 2)) (.frz 6) (gSay j cs (ss.map toD) (.ok (.int a)) (.ok (.int ((5 : Nat) : Int))) (.ok (.int p)) (.ok (.int q))) μ = .ok (.nx (gSay j cs (ss.map toD) (.ok (.int a)) (.ok (.int ((5 : Nat) : Int))) (.ok (.int p)) (.ok (.int q)))) μ := rfl
    have f7 : exe (callN PP (k + 2)) (.frz 7) (gSay j cs (ss.map toD) (.ok (.int a)) (.ok (.int ((5 : Nat) : Int))) (.ok (.int p)) (.ok (.int q))) μ = .ok (.nx (gSay j cs (ss.map toD) (.ok (.int a)) (.ok (.int ((5 : Nat) : Int))) (.ok (.int p)) (.ok (.int q)))) μ := rfl
    exact ⟨St.si p q, μ, by rw [exes_cons, ifs_skip t0, RE.ok_bind, seqK_nx, exes_cons, ifs_skip t1, RE.ok_bind, seqK_nx, exes_cons, ifs_skip t2, RE.ok_bind, seqK_nx, exes_cons, ifs_skip t3, RE.ok_bind, seqK_nx, exes_cons, ifs_take t4, exes_cons, f6, RE.ok_bind, seqK_nx, exes_cons, f7, RE.ok_bind, seqK_nx, exes_cons, ha2, RE.ok_bind, seqK_nx, exes_nil, RE.ok_bind, seqK_nx, exes_nil], hs.snoc (⟨by omega, by omega⟩) (fun c' e => by cases e), D0, .refl⟩
  omega
end
end NT.Law

set_option Elab.async false
set_option linter.all false
set_option maxRecDepth 100000
set_option maxHeartbeats 2000000
set_option autoImplicit false
namespace NT.Law
open PySem PySem.Spec PyProof.Rows L2 NT
section
variable {k r j : Nat} {μ : Mu} {cs : List Nat}
theorem say_turn {ss : List St} {a : Nat} {x5 x6 x7 : Slot} (hD : Dice (r + 4) j μ) (hc : cs ≠ []) (hl : cs.length ≤ 100) (hab : ∀ c ∈ cs, c < 0x110000) (hs : Drn cs ss) (ha : ss.length = a) (ha0 : 0 < a) (hal : a ≤ 100) :
    ∃ s y5 y6 y7 μ', exes (callN PP (k + 2)) [.frz 4, .par [5, 6, 7] [(.call 12 [(.var 0), (.c (.int 6))]), (.call 12 [(.var 0), (.var 4)]), (.call 12 [(.var 0), (.var 4)])], .ifs (.cmp .Eq (.var 5) (.c (.int 0))) [.app 3 (.tup [(.c (.str "letter")), (.call 13 [(.var 0), (.bi .list [(.var 1)])])])] [], .ifs (.cmp .Eq (.var 5) (.c (.int 1))) [.frz 6, .app 3 (.tup [(.c (.str "not")), (.var 6)])] [], .ifs (.cmp .Eq (.var 5) (.c (.int 2))) [.frz 6, .frz 7, .app 3 (.tup [(.c (.str "either")), (.var 6), (.var 7)])] [], .ifs (.cmp .Eq (.var 5) (.c (.int 3))) [.frz 6, .app 3 (.tup [(.c (.str "ahead")), (.var 6)])] [], .ifs (.cmp .Gt (.var 5) (.c (.int 3))) [.frz 6, .frz 7, .app 3 (.tup [(.c (.str "since")), (.var 6), (.var 7)])] []] (gSay j cs (ss.map toD) (.ok (.int a)) x5 x6 x7) μ = .ok (.nx (gSay j cs ((ss ++ [s]).map toD) (.ok (.int a)) y5 y6 y7)) μ' ∧ Drn cs (ss ++ [s]) ∧ Dice r j μ' ∧ Sm j μ μ' := by
  obtain ⟨v, μ1, e1, h1, h1', hD1, hS1⟩ := roll_spec (P := PP) (i := 12) (k := k + 1) (n := 6) (r := r + 3) rfl hD (by omega) (by omega)
  obtain ⟨p, μ2, e2, h2, h2', hD2, hS2⟩ := roll_spec (P := PP) (i := 12) (k := k + 1) (n := (a : Int)) (r := r + 2) rfl hD1 (by omega) (by omega)
  obtain ⟨q, μ3, e3, h3, h3', hD3, hS3⟩ := roll_spec (P := PP) (i := 12) (k := k + 1) (n := (a : Int)) (r := r + 1) rfl hD2 (by omega) (by omega)
  obtain ⟨v, rfl⟩ := Int.eq_ofNat_of_zero_le h1
  obtain ⟨p, rfl⟩ := Int.eq_ofNat_of_zero_le h2
  obtain ⟨q, rfl⟩ := Int.eq_ofNat_of_zero_le h3
  obtain ⟨s, μ', e4, hdr, hD4, hS4⟩ := say_way (k := k) (p := p) (q := q) (v := v) hD3 hc hl hab hs ha hal (by omega) (by omega) (by omega)
  have f4 : exe (callN PP (k + 2)) (.frz 4) (gSay j cs (ss.map toD) (.ok (.int a)) x5 x6 x7) μ = .ok (.nx (gSay j cs (ss.map toD) (.ok (.int a)) x5 x6 x7)) μ := rfl
  have pp : exe (callN PP (k + 2)) (.par [5, 6, 7] [(.call 12 [(.var 0), (.c (.int 6))]), (.call 12 [(.var 0), (.var 4)]), (.call 12 [(.var 0), (.var 4)])]) (gSay j cs (ss.map toD) (.ok (.int a)) x5 x6 x7) μ = .ok (.nx (gSay j cs (ss.map toD) (.ok (.int a)) (.ok (.int v)) (.ok (.int p)) (.ok (.int q)))) μ3 := by
    simp [e1, e2, e3]
  refine ⟨s, .ok (.int v), .ok (.int p), .ok (.int q), μ', ?_, hdr, hD4, ((hS1.trans hS2).trans hS3).trans hS4⟩
  rw [exes_cons, f4, RE.ok_bind, seqK_nx, exes_cons, pp, RE.ok_bind, seqK_nx]
  exact e4
theorem iterD_r2 {m : Nat} (h : m ≤ 10000) : iterD .range [.int 1, .int (1 + (m : Int))] = some (intL 1 m) := by
  have e1 : (1 + (m : Int) - 1).toNat = m := by omega
  simp only [iterD, e1]
  rw [if_pos (by omega)]
theorem draw_spec (h : Dice (r + 100) j μ) (hc : cs ≠ []) (hl : cs.length ≤ 100) (hab : ∀ c ∈ cs, c < 0x110000) :
    ∃ ss μ', callN PP (k + 3) 17 [.mut j, .str (st cs), .int 9] μ = .ok (sayD ss, false) μ' ∧ Drn cs ss ∧ 0 < ss.length ∧ ss.length ≤ 10 ∧ Dice r j μ' ∧ Sm j μ μ' := by
  obtain ⟨c, μ1, e1, hcc, hD1, hS1⟩ := one_of_cs (k := k) (r := r + 99) h hc hl
  obtain ⟨m, μ2, e2, hm0, hm1, hD2, hS2⟩ := roll_spec (P := PP) (i := 12) (k := k + 1) (n := 9) (r := r + 98) rfl hD1 (by omega) (by omega)
  obtain ⟨m, rfl⟩ := Int.eq_ofNat_of_zero_le hm0
  have hm : m ≤ 9 := by omega
  obtain ⟨g', μ3, e3, ss, x4, x5, x6, x7, hg, hlen, hdr, hD3, hS3⟩ := forGo_all (t := .name 4) (b := exes (callN PP (k + 2)) [.frz 4, .par [5, 6, 7] [(.call 12 [(.var 0), (.c (.int 6))]), (.call 12 [(.var 0), (.var 4)]), (.call 12 [(.var 0), (.var 4)])], .ifs (.cmp .Eq (.var 5) (.c (.int 0))) [.app 3 (.tup [(.c (.str "letter")), (.call 13 [(.var 0), (.bi .list [(.var 1)])])])] [], .ifs (.cmp .Eq (.var 5) (.c (.int 1))) [.frz 6, .app 3 (.tup [(.c (.str "not")), (.var 6)])] [], .ifs (.cmp .Eq (.var 5) (.c (.int 2))) [.frz 6, .frz 7, .app 3 (.tup [(.c (.str "either")), (.var 6), (.var 7)])] [], .ifs (.cmp .Eq (.var 5) (.c (.int 3))) [.frz 6, .app 3 (.tup [(.c (.str "ahead")), (.var 6)])] [], .ifs (.cmp .Gt (.var 5) (.c (.int 3))) [.frz 6, .frz 7, .app 3 (.tup [(.c (.str "since")), (.var 6), (.var 7)])] []]) (items := intL 1 m) (g := gSay j cs ([St.lt c].map toD) .no .no .no .no) (μ := μ2)
    (fun i g μ' => ∃ ss x4 x5 x6 x7, g = gSay j cs (ss.map toD) x4 x5 x6 x7 ∧ ss.length = i + 1 ∧ Drn cs ss ∧ Dice (r + (98 - 4 * i)) j μ' ∧ Sm j μ2 μ') ⟨[.lt c], .no, .no, .no, .no, rfl, rfl, ⟨fun t s e => by
      cases t with
      | zero => cases e; exact hab c hcc
      | succ t => simp at e, fun c' hc' => by cases List.mem_singleton.mp hc'; exact hcc⟩, hD2, .refl⟩ (by
      rintro i x g μ' hi ⟨ss, x4, x5, x6, x7, rfl, hlen, hdr, hD, hS⟩
      obtain ⟨him, rfl⟩ := intL_get hi
      obtain ⟨s, y5, y6, y7, μ4, e4, hdr4, hD4, hS4⟩ := say_turn (k := k) (r := r + (98 - 4 * (i + 1))) (a := i + 1) (x5 := x5) (x6 := x6) (x7 := x7) (hD.mono (by omega)) hc hl hab hdr hlen (by omega) (by omega)
      have ei : (1 : Int) + (i : Int) = ((i + 1 : Nat) : Int) := by omega
      rw [ei]
      exact ⟨_, rfl, _, μ4, .inl e4, ss ++ [s], _, _, _, _, rfl, by simp [hlen], hdr4, hD4, hS.trans hS4⟩)
  rw [intL_len'] at hlen hD3
  subst hg
  refine ⟨ss, μ3, ?_, hdr, by omega, by omega, hD3.mono (by omega), (hS1.trans hS2).trans hS3⟩
  have hb : biD .list [.str (st cs)] = some (.lst (chs cs), .fr) := by simp only [biD, rowD_str]; rfl
  have s1 : exe (callN PP (k + 2)) (.asg 3 (.lst [(.tup [(.c (.str "letter")), (.call 13 [(.var 0), (.bi .list [(.var 1)])])])])) [.ok (.mut j), .ok (.str (st cs)), .ok (.int 9), .no, .no, .no, .no, .no] μ = .ok (.nx (gSay j cs ([St.lt c].map toD) .no .no .no .no)) μ1 := by
    simp [szv, hb, e1, toD]
  have s2 : exe (callN PP (k + 2)) (.for_ .range [(.c (.int 1)), (.bin .Add (.c (.int 1)) (.call 12 [(.var 0), (.var 2)]))] (.name 4) [.frz 4, .par [5, 6, 7] [(.call 12 [(.var 0), (.c (.int 6))]), (.call 12 [(.var 0), (.var 4)]), (.call 12 [(.var 0), (.var 4)])], .ifs (.cmp .Eq (.var 5) (.c (.int 0))) [.app 3 (.tup [(.c (.str "letter")), (.call 13 [(.var 0), (.bi .list [(.var 1)])])])] [], .ifs (.cmp .Eq (.var 5) (.c (.int 1))) [.frz 6, .app 3 (.tup [(.c (.str "not")), (.var 6)])] [], .ifs (.cmp .Eq (.var 5) (.c (.int 2))) [.frz 6, .frz 7, .app 3 (.tup [(.c (.str "either")), (.var 6), (.var 7)])] [], .ifs (.cmp .Eq (.var 5) (.c (.int 3))) [.frz 6, .app 3 (.tup [(.c (.str "ahead")), (.var 6)])] [], .ifs (.cmp .Gt (.var 5) (.c (.int 3))) [.frz 6, .frz 7, .app 3 (.tup [(.c (.str "since")), (.var 6), (.var 7)])] []]) (gSay j cs ([St.lt c].map toD) .no .no .no .no) μ1 = .ok (.nx (gSay j cs (ss.map toD) x4 x5 x6 x7)) μ3 := by
    have q : evs (callN PP (k + 2)) [(.c (.int 1)), (.bin .Add (.c (.int 1)) (.call 12 [(.var 0), (.var 2)]))] (gSay j cs ([St.lt c].map toD) .no .no .no .no) μ1 = .ok [(.int 1, .pl), (.int (1 + (m : Int)), .pl)] μ2 := by
      simp [e2]
    rw [exe_for, q, RE.ok_bind, forK_eq]
    show forK1 (callN PP (k + 2)) (.name 4) [.frz 4, .par [5, 6, 7] [(.call 12 [(.var 0), (.c (.int 6))]), (.call 12 [(.var 0), (.var 4)]), (.call 12 [(.var 0), (.var 4)])], .ifs (.cmp .Eq (.var 5) (.c (.int 0))) [.app 3 (.tup [(.c (.str "letter")), (.call 13 [(.var 0), (.bi .list [(.var 1)])])])] [], .ifs (.cmp .Eq (.var 5) (.c (.int 1))) [.frz 6, .app 3 (.tup [(.c (.str "not")), (.var 6)])] [], .ifs (.cmp .Eq (.var 5) (.c (.int 2))) [.frz 6, .frz 7, .app 3 (.tup [(.c (.str "either")), (.var 6), (.var 7)])] [], .ifs (.cmp .Eq (.var 5) (.c (.int 3))) [.frz 6, .app 3 (.tup [(.c (.str "ahead")), (.var 6)])] [], .ifs (.cmp .Gt (.var 5) (.c (.int 3))) [.frz 6, .frz 7, .app 3 (.tup [(.c (.str "since")), (.var 6), (.var 7)])] []] (gSay j cs ([St.lt c].map toD) .no .no .no .no) (iterD .range [.int 1, .int (1 + (m : Int))]) μ2 = _
    rw [iterD_r2 (by omega), forK1_eq]
    exact e3
  have s3 : exe (callN PP (k + 2)) (.ret (.bi .tuple [(.var 3)])) (gSay j cs (ss.map toD) x4 x5 x6 x7) μ3 = .ok (.rt (sayD ss) false) μ3 := by
    simp [biD, sayD]
  rw [call_eq (df := f__law_saying) rfl rfl]
  show (exes (callN PP (k + 2)) [.asg 3 (.lst [(.tup [(.c (.str "letter")), (.call 13 [(.var 0), (.bi .list [(.var 1)])])])]), .for_ .range [(.c (.int 1)), (.bin .Add (.c (.int 1)) (.call 12 [(.var 0), (.var 2)]))] (.name 4) [.frz 4, .par [5, 6, 7] [(.call 12 [(.var 0), (.c (.int 6))]), (.call 12 [(.var 0), (.var 4)]), (.call 12 [(.var 0), (.var 4)])], .ifs (.cmp .Eq (.var 5) (.c (.int 0))) [.app 3 (.tup [(.c (.str "letter")), (.call 13 [(.var 0), (.bi .list [(.var 1)])])])] [], .ifs (.cmp .Eq (.var 5) (.c (.int 1))) [.frz 6, .app 3 (.tup [(.c (.str "not")), (.var 6)])] [], .ifs (.cmp .Eq (.var 5) (.c (.int 2))) [.frz 6, .frz 7, .app 3 (.tup [(.c (.str "either")), (.var 6), (.var 7)])] [], .ifs (.cmp .Eq (.var 5) (.c (.int 3))) [.frz 6, .app 3 (.tup [(.c (.str "ahead")), (.var 6)])] [], .ifs (.cmp .Gt (.var 5) (.c (.int 3))) [.frz 6, .frz 7, .app 3 (.tup [(.c (.str "since")), (.var 6), (.var 7)])] []], .ret (.bi .tuple [(.var 3)])] [.ok (.mut j), .ok (.str (st cs)), .ok (.int 9), .no, .no, .no, .no, .no] μ).bind endK = _
  rw [exes_cons, s1, RE.ok_bind, seqK_nx, exes_cons, s2, RE.ok_bind, seqK_nx, exes_cons, s3, RE.ok_bind, seqK_rt, RE.ok_bind, endK_rt]
end
end NT.Law

set_option Elab.async false
set_option linter.all false
set_option maxRecDepth 100000
set_option maxHeartbeats 4000000
set_option autoImplicit false
namespace NT.Law
open PySem PySem.Spec PyProof.Rows L2 NT
theorem strOk_lit (s : String) : PyData.strOk (Str.ofString s) = true := by
  rw [Str.ofString_eq_toList]
  simp only [PyData.strOk, Array.all_eq_true']
  intro c hc
  simp at hc
  obtain ⟨a, _, rfl⟩ := hc
  have h : a.toNat < 0x110000 := by
    have := a.valid
    show a.val.toNat < _
    rcases this with h | h
    · have : a.val.toNat < 0xd800 := h
      omega
    · exact h.2
  simpa using h
theorem isSayL_append : ∀ (i : Nat) (l m : List D), isSayL i (l ++ m) = (isSayL i l && isSayL (i + l.length) m)
  | i, [], m => by simp [isSayL]
  | i, d :: l, m => by
    show (sd d i && isSayL (i + 1) (l ++ m)) = _
    rw [isSayL_append (i + 1) l m]
    simp only [isSayL, List.length_cons, Bool.and_assoc]
    rw [show i + 1 + l.length = i + (l.length + 1) by omega]
def odd1 (n : Int) : List D := [.tup [.str "letter", .str "A"], .tup [.str "letter", .str "ab"], .tup [.str "letter", .str ""], .tup [.str "letter"], .tup [.str "Letter", .str "a"], .tup [.str "not", .int n], .tup [.str "not", .int (-1)]]
def odd2 (n : Int) : List D := [.tup [.str "not", .bl true], .tup [.str "not", .str "0"], .tup [.str "not", .int 0, .int 0], .tup [.str "either", .int 0], .tup [.str "either", .int 0, .int n], .tup [.str "since", .int (-1), .int 0], .tup []]
def odd3 (n : Int) : List D := [.tup [.str "ahead", .int (n + 1)], .tup [.str "ahead", .non], .str "not", .non, .int 0, .lst [.str "not", .int 0], .tup [.str "since", .int 0, .int 0, .int 0], .tup [.str "both", .int 0, .int 0]]
def odd4 : List D := [.tup [.str "not", .int 0], .tup [.str "since", .int 0, .int 0]]
theorem odd_dp {n : Int} : D.dpL 7 (odd1 n ++ odd2 n ++ odd3 n ++ odd4) = true := by
  simp [odd1, odd2, odd3, odd4, D.dpL, D.dp, strOk_lit]
theorem isw_A : isw "A" = false := by decide +kernel
theorem odd_sd {n m : Int} (hm : m ≤ n) (hn : 0 ≤ n) : ∀ x ∈ odd1 n ++ odd2 n ++ odd3 n, sd x m = false := by
  intro x hx
  have l1 : ("ab" : Str).length = 2 := by decide +kernel
  have l2 : ("" : Str).length = 0 := by decide +kernel
  have n1 : ¬ n ≤ m - 1 := by omega
  have n2 : ¬ n + 1 ≤ m - 1 := by omega
  simp only [odd1, odd2, odd3, List.mem_append, List.mem_cons, List.not_mem_nil, or_false] at hx
  rcases hx with (hx | hx) | hx
  · rcases hx with rfl | rfl | rfl | rfl | rfl | rfl | rfl <;> simp [sd, sdS, sInt, isw_A, l1, l2, n1]
  · rcases hx with rfl | rfl | rfl | rfl | rfl | rfl | rfl <;> simp [sd, sdS, sInt, n1]
  · rcases hx with rfl | rfl | rfl | rfl | rfl | rfl | rfl | rfl <;> simp [sd, sdS, sInt, n2]
theorem odd_sd4 : ∀ x ∈ odd4, sd x 0 = false := by
  intro x hx
  simp only [odd4, List.mem_cons, List.not_mem_nil, or_false] at hx
  rcases hx with rfl | rfl <;> simp [sd, sdS, sInt]
theorem dp_toD1 {s : St} {t n : Nat} (h : okAt t s) : D.dp (n + 1) (toD s) = true := by
  cases s with
  | lt c =>
    have h : c < 1114112 := h
    have h2 : PyData.strOk (ch c) = true := by simp [PyData.strOk, ch, h]
    simp only [toD, D.dp, D.dpL, strOk_lit, h2, Bool.and_self]
  | _ => simp [toD, D.dp, D.dpL, strOk_lit]
theorem dp_toD {s : St} {t : Nat} (h : okAt t s) : D.dp 7 (toD s) = true := dp_toD1 h
theorem dp_say {ss : List St} (h : ∀ (t : Nat) (s : St), ss[t]? = some s → okAt t s) : D.dpL 7 (ss.map toD) = true := dpL_all.mpr fun d hd => by
  obtain ⟨s, hs, rfl⟩ := List.mem_map.mp hd
  obtain ⟨t, ht, e⟩ := List.getElem_of_mem hs
  exact dp_toD (h t s (by rw [List.getElem?_eq_getElem ht, e]))
section
variable {k r j : Nat} {μ : Mu}
theorem odd_spec {ss : List St} (h : Dice (r + 2) j μ) (hok : ∀ (t : Nat) (s : St), ss[t]? = some s → okAt t s) (hl0 : 0 < ss.length) (hl : ss.length ≤ 100) :
    ∃ d μ', callN PP (k + 3) 20 [.mut j, sayD ss] μ = .ok (d, false) μ' ∧ isSay d = false ∧ (D.dp 8 d = true ∨ d = .dct []) ∧ Dice r j μ' ∧ Sm j μ μ' := by
  obtain ⟨v, μ1, e1, h1, h1', hD1, hS1⟩ := roll_spec (P := PP) (i := 12) (k := k + 1) (n := 3) (r := r + 1) rfl h (by omega) (by omega)
  obtain ⟨v, rfl⟩ := Int.eq_ofNat_of_zero_le h1
  obtain ⟨n, hn⟩ : ∃ n : Int, n = (ss.length : Int) := ⟨_, rfl⟩
  have hds := dp_say hok
  have sne : ss.map toD ≠ [] := by cases ss with | nil => simp at hl0 | cons _ _ => simp
  have p0 : exe (callN PP (k + 2)) (.par [3, 4] [(.bi .len [(.var 1)]), (.call 12 [(.var 0), (.c (.int 3))])]) [.ok (.mut j), .ok (sayD ss), .no, .no, .no] μ = .ok (.nx [.ok (.mut j), .ok (sayD ss), .no, .ok (.int n), .ok (.int v)]) μ1 := by
    simp [biD, sayD, e1, hn]
  have p2 : exe (callN PP (k + 2)) (.asg 2 (.lst [(.tup [(.c (.str "letter")), (.c (.str "A"))]), (.tup [(.c (.str "letter")), (.c (.str "ab"))]), (.tup [(.c (.str "letter")), (.c (.str ""))]), (.tup [(.c (.str "letter"))]), (.tup [(.c (.str "Letter")), (.c (.str "a"))]), (.tup [(.c (.str "not")), (.var 3)]), (.tup [(.c (.str "not")), (.neg (.c (.int 1)))])])) [.ok (.mut j), .ok (sayD ss), .no, .ok (.int n), .ok (.int v)] μ1 = .ok (.nx [.ok (.mut j), .ok (sayD ss), .own (odd1 n), .ok (.int n), .ok (.int v)]) μ1 := by
    simp [szv, odd1]
  have q4 : ev (callN PP (k + 2)) (.lst [(.tup [(.c (.str "not")), (.c (.bl true))]), (.tup [(.c (.str "not")), (.c (.str "0"))]), (.tup [(.c (.str "not")), (.c (.int 0)), (.c (.int 0))]), (.tup [(.c (.str "either")), (.c (.int 0))]), (.tup [(.c (.str "either")), (.c (.int 0)), (.var 3)]), (.tup [(.c (.str "since")), (.neg (.c (.int 1))), (.c (.int 0))]), (.tup [])]) [.ok (.mut j), .ok (sayD ss), .own (odd1 n), .ok (.int n), .ok (.int v)] μ1 = .ok (.lst (odd2 n), .fr) μ1 := by
    simp [szv, odd2]
  have b4 := binD_lst (a := odd1 n) (b := odd2 n) (by simp [odd1, odd2])
  have p4 : exe (callN PP (k + 2)) (.asg 2 (.bin .Add (.var 2) (.lst [(.tup [(.c (.str "not")), (.c (.bl true))]), (.tup [(.c (.str "not")), (.c (.str "0"))]), (.tup [(.c (.str "not")), (.c (.int 0)), (.c (.int 0))]), (.tup [(.c (.str "either")), (.c (.int 0))]), (.tup [(.c (.str "either")), (.c (.int 0)), (.var 3)]), (.tup [(.c (.str "since")), (.neg (.c (.int 1))), (.c (.int 0))]), (.tup [])]))) [.ok (.mut j), .ok (sayD ss), .own (odd1 n), .ok (.int n), .ok (.int v)] μ1 = .ok (.nx [.ok (.mut j), .ok (sayD ss), .own (odd1 n ++ odd2 n), .ok (.int n), .ok (.int v)]) μ1 := by
    rw [exe_asg, ev_bin, ev_var]
    show ((RE.ok (D.lst (odd1 n), Kd.bo 2) μ1).bind _).bind _ = _
    rw [RE.ok_bind, binK_eq, q4, RE.ok_bind, binK2_eq, b4]
    rfl
  have q5 : ev (callN PP (k + 2)) (.lst [(.tup [(.c (.str "ahead")), (.bin .Add (.var 3) (.c (.int 1)))]), (.tup [(.c (.str "ahead")), (.c .non)]), (.c (.str "not")), (.c .non), (.c (.int 0)), (.lst [(.c (.str "not")), (.c (.int 0))]), (.tup [(.c (.str "since")), (.c (.int 0)), (.c (.int 0)), (.c (.int 0))]), (.tup [(.c (.str "both")), (.c (.int 0)), (.c (.int 0))])]) [.ok (.mut j), .ok (sayD ss), .own (odd1 n ++ odd2 n), .ok (.int n), .ok (.int v)] μ1 = .ok (.lst (odd3 n), .fr) μ1 := by
    simp [szv, odd3]
  have b5 := binD_lst (a := odd1 n ++ odd2 n) (b := odd3 n) (by simp [odd1, odd2, odd3])
  have p5 : exe (callN PP (k + 2)) (.asg 2 (.bin .Add (.var 2) (.lst [(.tup [(.c (.str "ahead")), (.bin .Add (.var 3) (.c (.int 1)))]), (.tup [(.c (.str "ahead")), (.c .non)]), (.c (.str "not")), (.c .non), (.c (.int 0)), (.lst [(.c (.str "not")), (.c (.int 0))]), (.tup [(.c (.str "since")), (.c (.int 0)), (.c (.int 0)), (.c (.int 0))]), (.tup [(.c (.str "both")), (.c (.int 0)), (.c (.int 0))])]))) [.ok (.mut j), .ok (sayD ss), .own (odd1 n ++ odd2 n), .ok (.int n), .ok (.int v)] μ1 = .ok (.nx [.ok (.mut j), .ok (sayD ss), .own (odd1 n ++ odd2 n ++ odd3 n), .ok (.int n), .ok (.int v)]) μ1 := by
    rw [exe_asg, ev_bin, ev_var]
    show ((RE.ok (D.lst (odd1 n ++ odd2 n), Kd.bo 2) μ1).bind _).bind _ = _
    rw [RE.ok_bind, binK_eq, q5, RE.ok_bind, binK2_eq, b5]
    rfl
  have fz : ∀ x2, exe (callN PP (k + 2)) (.frz 3) [.ok (.mut j), .ok (sayD ss), x2, .ok (.int n), .ok (.int v)] μ1 = .ok (.nx [.ok (.mut j), .ok (sayD ss), x2, .ok (.int n), .ok (.int v)]) μ1 := fun _ => rfl
  rw [call_eq (df := f__law_odd) rfl rfl]
  show ∃ d μ', (exes (callN PP (k + 2)) [.par [3, 4] [(.bi .len [(.var 1)]), (.call 12 [(.var 0), (.c (.int 3))])], .frz 3, .asg 2 (.lst [(.tup [(.c (.str "letter")), (.c (.str "A"))]), (.tup [(.c (.str "letter")), (.c (.str "ab"))]), (.tup [(.c (.str "letter")), (.c (.str ""))]), (.tup [(.c (.str "letter"))]), (.tup [(.c (.str "Letter")), (.c (.str "a"))]), (.tup [(.c (.str "not")), (.var 3)]), (.tup [(.c (.str "not")), (.neg (.c (.int 1)))])]), .frz 3, .asg 2 (.bin .Add (.var 2) (.lst [(.tup [(.c (.str "not")), (.c (.bl true))]), (.tup [(.c (.str "not")), (.c (.str "0"))]), (.tup [(.c (.str "not")), (.c (.int 0)), (.c (.int 0))]), (.tup [(.c (.str "either")), (.c (.int 0))]), (.tup [(.c (.str "either")), (.c (.int 0)), (.var 3)]), (.tup [(.c (.str "since")), (.neg (.c (.int 1))), (.c (.int 0))]), (.tup [])])), .asg 2 (.bin .Add (.var 2) (.lst [(.tup [(.c (.str "ahead")), (.bin .Add (.var 3) (.c (.int 1)))]), (.tup [(.c (.str "ahead")), (.c .non)]), (.c (.str "not")), (.c .non), (.c (.int 0)), (.lst [(.c (.str "not")), (.c (.int 0))]), (.tup [(.c (.str "since")), (.c (.int 0)), (.c (.int 0)), (.c (.int 0))]), (.tup [(.c (.str "both")), (.c (.int 0)), (.c (.int 0))])])), .ifs (.cmp .Eq (.var 4) (.c (.int 0))) [.frz 2, .ret (.bin .Add (.var 1) (.tup [(.call 13 [(.var 0), (.var 2)])]))] [], .ifs (.cmp .Eq (.var 4) (.c (.int 1))) [.ret (.bin .Add (.tup [(.call 13 [(.var 0), (.bin .Add (.var 2) (.lst [(.tup [(.c (.str "not")), (.c (.int 0))]), (.tup [(.c (.str "since")), (.c (.int 0)), (.c (.int 0))])]))])]) (.var 1))] [], .ret (.call 13 [(.var 0), (.lst [(.c .non), (.tup []), (.c (.int 0)), (.c (.str "letter")), (.bi .list [(.var 1)]), (.c (.dct [])), (.tup [(.var 1)]), (.idx (.var 1) (.c (.int 0))), (.c (.bl true))])])] [.ok (.mut j), .ok (sayD ss), .no, .no, .no] μ).bind endK = _ ∧ _
  rw [exes_cons, p0, RE.ok_bind, seqK_nx, exes_cons, fz, RE.ok_bind, seqK_nx, exes_cons, p2, RE.ok_bind, seqK_nx, exes_cons, fz, RE.ok_bind, seqK_nx, exes_cons, p4, RE.ok_bind, seqK_nx, exes_cons, p5, RE.ok_bind, seqK_nx]
  generalize hL : odd1 n ++ odd2 n ++ odd3 n = L
  have hLl : L.length = 22 := by rw [← hL]; rfl
  have hLs : ∀ m, m ≤ n → ∀ x ∈ L, sd x m = false := fun m hm x hx => odd_sd hm (by omega) x (by rw [hL]; exact hx)
  have hLd : ∀ x ∈ L ++ odd4, D.dp 7 x = true := fun x hx => dpL_all.mp (odd_dp (n := n)) x (by rw [hL]; exact hx)
  have c0 : ∀ x2 μ, ev (callN PP (k + 2)) (.cmp .Eq (.var 4) (.c (.int 0))) [.ok (.mut j), .ok (sayD ss), x2, .ok (.int n), .ok (.int v)] μ = .ok (.bl (decide (v = 0)), .pl) μ := fun x2 μ => by
    have e : decide ((v : Int) = 0) = decide (v = 0) := by rw [decide_eq_decide]; omega
    simp [e]
  have c1 : ∀ x2 μ, ev (callN PP (k + 2)) (.cmp .Eq (.var 4) (.c (.int 1))) [.ok (.mut j), .ok (sayD ss), x2, .ok (.int n), .ok (.int v)] μ = .ok (.bl (decide (v = 1)), .pl) μ := fun x2 μ => by
    have e : decide ((v : Int) = 1) = decide (v = 1) := by rw [decide_eq_decide]; omega
    simp [e]
  by_cases v0 : v = 0
  · obtain ⟨x, μ2, e2, hx, hD2, hS2⟩ := one_of_spec (P := PP) (i := 13) (ir := 12) (k := k) (r := r) (d := .lst L) (l := L) rfl rfl hD1 (.inl rfl) (by intro z; rw [z] at hLl; cases hLl) (by omega)
    have r1 : exes (callN PP (k + 2)) [.frz 2, .ret (.bin .Add (.var 1) (.tup [(.call 13 [(.var 0), (.var 2)])]))] [.ok (.mut j), .ok (sayD ss), .own L, .ok (.int n), .ok (.int v)] μ1 = .ok (.rt (.tup (ss.map toD ++ [x])) false) μ2 := by
      have hz : ss.length + 1 ≤ 16777216 := by omega
      have bb : binD .Add (sayD ss) (.tup [x]) = some (.tup (ss.map toD ++ [x]), .pl) := by
        simp only [sayD, binD]
        rw [if_pos ⟨sne, by show _ ≤ 16777216; simp; omega⟩]
      simp [szv, frzSlot, e2, bb]
    rw [exes_cons, ifs_take (by have := c0 (.own L) μ1; simpa [v0] using this), r1]
    refine ⟨.tup (ss.map toD ++ [x]), μ2, rfl, ?_, .inl ?_, hD2, hS1.trans hS2⟩
    · have : sd x (ss.length : Int) = false := hLs _ (by omega) x hx
      simp [isSay, isSayL_append, isSayL, this]
    · simp only [D.dp]
      refine dpL_all.mpr fun y hy => ?_
      rcases List.mem_append.mp hy with z | z
      · exact dpL_all.mp hds y z
      · rw [List.mem_singleton.mp z]; exact hLd x (List.mem_append_left _ hx)
  rw [exes_cons, ifs_skip (by have := c0 (.own L) μ1; simpa [v0] using this), RE.ok_bind, seqK_nx]
  by_cases v1 : v = 1
  · obtain ⟨x, μ2, e2, hx, hD2, hS2⟩ := one_of_spec (P := PP) (i := 13) (ir := 12) (k := k) (r := r) (d := .lst (L ++ odd4)) (l := L ++ odd4) rfl rfl hD1 (.inl rfl) (by intro z; rw [List.append_eq_nil_iff] at z; rw [z.1] at hLl; cases hLl) (by simp [hLl, odd4])
    have b6 := binD_lst (a := L) (b := odd4) (by simp [hLl, odd4])
    have r1 : exes (callN PP (k + 2)) [.ret (.bin .Add (.tup [(.call 13 [(.var 0), (.bin .Add (.var 2) (.lst [(.tup [(.c (.str "not")), (.c (.int 0))]), (.tup [(.c (.str "since")), (.c (.int 0)), (.c (.int 0))])]))])]) (.var 1))] [.ok (.mut j), .ok (sayD ss), .own L, .ok (.int n), .ok (.int v)] μ1 = .ok (.rt (.tup (x :: ss.map toD)) false) μ2 := by
      have bb : binD .Add (.tup [x]) (sayD ss) = some (.tup (x :: ss.map toD), .pl) := by
        simp only [sayD, binD]
        rw [if_pos ⟨by simp, by show _ ≤ 16777216; simp; omega⟩]
        rfl
      have o4 : [D.tup [.str "not", .int 0], .tup [.str "since", .int 0, .int 0]] = odd4 := rfl
      simp [szv, o4, b6, e2, bb]
    rw [exes_cons, ifs_take (by have := c1 (.own L) μ1; simpa [v1] using this), r1]
    refine ⟨.tup (x :: ss.map toD), μ2, rfl, ?_, .inl ?_, hD2, hS1.trans hS2⟩
    · have : sd x ((0 : Nat) : Int) = false := by
        rcases List.mem_append.mp hx with z | z
        · exact hLs 0 (by omega) x z
        · exact odd_sd4 x z
      simp only [isSay, isSayL, this]
      simp
    · simp only [D.dp]
      refine dpL_all.mpr fun y hy => ?_
      rcases List.mem_cons.mp hy with rfl | z
      · exact hLd y hx
      · exact dpL_all.mp hds y z
  rw [exes_cons, ifs_skip (by have := c1 (.own L) μ1; simpa [v1] using this), RE.ok_bind, seqK_nx]
  obtain ⟨s0, sr, rfl⟩ : ∃ s0 sr, ss = s0 :: sr := by cases ss with | nil => simp at hl0 | cons a b => exact ⟨a, b, rfl⟩
  obtain ⟨M, hM⟩ : ∃ M : List D, M = [.non, .tup [], .int 0, .str "letter", .lst ((s0 :: sr).map toD), .dct [], .tup [sayD (s0 :: sr)], toD s0, .bl true] := ⟨_, rfl⟩
  obtain ⟨x, μ2, e2, hx, hD2, hS2⟩ := one_of_spec (P := PP) (i := 13) (ir := 12) (k := k) (r := r) (d := .lst M) (l := M) rfl rfl hD1 (.inl rfl) (by rw [hM]; simp) (by rw [hM]; simp)
  have q : evs (callN PP (k + 2)) [(.var 0), (.lst [(.c .non), (.tup []), (.c (.int 0)), (.c (.str "letter")), (.bi .list [(.var 1)]), (.c (.dct [])), (.tup [(.var 1)]), (.idx (.var 1) (.c (.int 0))), (.c (.bl true))])] [.ok (.mut j), .ok (sayD (s0 :: sr)), .own L, .ok (.int n), .ok (.int v)] μ1 = .ok [(.mut j, .pl), (.lst M, .fr)] μ1 := by
    have bl : biD .list [sayD (s0 :: sr)] = some (.lst ((s0 :: sr).map toD), .fr) := rfl
    have ix : idxD μ1 (sayD (s0 :: sr)) (.int 0) = some (toD s0) := by simp [sayD]
    rw [hM]
    simp [szv, bl, ix]
  refine ⟨x, μ2, ?_, ?_, ?_, hD2, hS1.trans hS2⟩
  · rw [exes_cons, exe_ret, ev_call, q, RE.ok_bind, callK_eq]
    show (((((callN PP (k + 2) 13 [.mut j, .lst M] μ1).bind _).bind _).bind _).bind _) = _
    rw [e2]
    rfl
  · rw [hM] at hx
    simp only [List.mem_cons, List.not_mem_nil, or_false] at hx
    rcases hx with rfl | rfl | rfl | rfl | rfl | rfl | rfl | rfl | rfl
    · rfl
    · rfl
    · rfl
    · rfl
    · rfl
    · rfl
    · cases s0 <;> rfl
    · cases s0 <;> rfl
    · rfl
  · rw [hM] at hx
    simp only [List.mem_cons, List.not_mem_nil, or_false] at hx
    rcases hx with rfl | rfl | rfl | rfl | rfl | rfl | rfl | rfl | rfl
    · exact .inl rfl
    · exact .inl rfl
    · exact .inl rfl
    · exact .inl (strOk_lit _)
    · exact .inl (by simp only [D.dp]; exact hds)
    · exact .inr rfl
    · refine .inl ?_
      simp only [sayD, D.dp, D.dpL, Bool.and_true]
      refine dpL_all.mpr fun d hd => ?_
      obtain ⟨s, hs, rfl⟩ := List.mem_map.mp hd
      obtain ⟨t, ht, e⟩ := List.getElem_of_mem hs
      exact dp_toD1 (hok t s (by rw [List.getElem?_eq_getElem ht, e]))
    · exact .inl (dp_mono (by omega) _ (dp_toD (hok 0 s0 rfl)))
    · exact .inl rfl
end
end NT.Law

set_option Elab.async false
set_option linter.all false
set_option maxRecDepth 100000
set_option maxHeartbeats 4000000
set_option autoImplicit false
namespace NT.Law
open PySem PySem.Spec PyProof.Rows L2 NT
abbrev AQ : List Nat := [97, 98, 99, 107, 120, 122, 113]
theorem isw_AQ {w : List Nat} (h : ∀ c ∈ w, c ∈ AQ) : isw (st w) = true := by
  unfold isw
  rw [signs_st]
  refine List.all_eq_true.mpr fun d hd => ?_
  obtain ⟨c, hc, rfl⟩ := List.mem_map.mp hd
  have : ∀ c ∈ AQ, inLT (.str (ch c)) = true := by decide +kernel
  exact this c (h c hc)
theorem sd_ok {s : St} {t : Nat} (h : okAt t s) (hl : ∀ c, s = .lt c → c ∈ ABC) : sd (toD s) (t : Int) = true := by
  cases s with
  | lt c =>
    have h1 : isw (ch c) = true := isw_AQ (w := [c]) fun c' hc' => by
      rw [List.mem_singleton.mp hc']
      have := hl c rfl
      simp only [ABC, AQ, List.mem_cons, List.not_mem_nil, or_false] at this ⊢
      omega
    have h2 : (ch c).length = 1 := rfl
    simp [toD, sd, sdS, h1, h2]
  | nt i => have h : i < t := h; simp [toD, sd, sdS, sInt]; omega
  | ei i j => have h : i < t ∧ j < t := h; simp [toD, sd, sdS, sInt]; omega
  | ah i => have h : i < t := h; simp [toD, sd, sdS, sInt]; omega
  | si i j => have h : i < t ∧ j < t := h; simp [toD, sd, sdS, sInt]; omega
theorem isSayL_ok : ∀ (ss : List St) (i : Nat), (∀ (t : Nat) (s : St), ss[t]? = some s → sd (toD s) ((i + t : Nat) : Int) = true) → isSayL i (ss.map toD) = true
  | [], _, _ => rfl
  | s :: ss, i, h => by
    have h0 := h 0 s rfl
    have h1 := isSayL_ok ss (i + 1) fun t s' e => by
      have := h (t + 1) s' (by simpa using e)
      rw [show i + (t + 1) = i + 1 + t by omega] at this
      exact this
    simp only [List.map_cons, isSayL, Bool.and_eq_true]
    exact ⟨h0, h1⟩
theorem say_ok {cs : List Nat} {ss : List St} (h : Drn cs ss) (hcs : ∀ c ∈ cs, c ∈ ABC) (h0 : 0 < ss.length) : isSay (sayD ss) = true := by
  have h1 := isSayL_ok ss 0 fun t s e => by
    rw [Nat.zero_add]
    exact sd_ok (h.ok t s e) fun c hc => hcs c (h.lt c (by subst hc; exact List.mem_of_getElem? e))
  have h2 : ss ≠ [] := List.length_pos_iff.mp h0
  simp [sayD, isSay, h1, h2]
theorem st_app {a b : List Nat} : st a ++ st b = st (a ++ b) := by
  show (⟨a.toArray ++ b.toArray⟩ : Str) = ⟨(a ++ b).toArray⟩
  simp
theorem cut_st {w : List Nat} {n : Nat} : cutD (.str (st w)) none (some (n : Int)) = some (.str (st (w.take n)), .pl) := by
  simp only [cutD, cutS, HT.sIx_none, HT.sIx_nat, List.drop_zero, Nat.sub_zero, st_len]
  have e : (st w).cps.toList = w := by simp [st]
  rw [e]
  by_cases h : n ≤ w.length
  · rw [Nat.min_eq_left h]; rfl
  · rw [Nat.min_eq_right (by omega), List.take_of_length_le (Nat.le_refl _), List.take_of_length_le (show w.length ≤ n by omega)]; rfl
theorem eqv_bls : ∀ f : List Bool, PyData.eqvAll (D.pyL (bls f)) (D.pyL (bls f)) = true
  | [] => rfl
  | b :: f => by
    show PyData.eqvAll (.bool b :: D.pyL (bls f)) (.bool b :: D.pyL (bls f)) = true
    simp only [PyData.eqvAll, PyData.eqv, eqv_bls f, beq_self_eq_true, Bool.and_self]
theorem eqD_tup_bls {f : List Bool} : eqD (.tup (bls f)) (.tup (bls f)) = some true := by
  have h : D.dp 8 (.tup (bls f)) = true := by simp only [D.dp]; exact dp_bls
  unfold eqD
  simp only [h, Bool.and_self, if_true, D.py]
  show some (PyData.eqvAll (D.pyL (bls f)) (D.pyL (bls f))) = some true
  rw [eqv_bls]
theorem atI_last {l : List D} (h : 0 < l.length) : atI l (-1) = some l[l.length - 1] := by
  unfold atI ixN
  rw [if_neg (by omega), if_pos (by omega)]
  have e : (-1 + (l.length : Int)).toNat = l.length - 1 := by omega
  simp only [Option.bind_some, e]
  rw [List.getElem?_eq_getElem (by omega)]
section
variable {k r j : Nat} {μ : Mu}
/-- the last row's last -/
def lastV (ss : List St) (w : List Nat) : Bool := gt (gr (tab ss w) (ss.length - 1)) w.length
theorem tab_len {ss : List St} {w : List Nat} : (tab ss w).length = ss.length := by unfold tab; rw [tabG_len]; simp
theorem tab_rowL {ss : List St} {w : List Nat} (h : Val ss) : RowL (w.length + 1) (tab ss w) := by
  have := tabG_rowL (w := w) h ss.length (Nat.le_refl _)
  rw [List.take_length] at this
  exact this
theorem rows_last {ss : List St} {w : List Nat} (h : Val ss) : (atI (rowsD (tab ss w)) (-1)).bind (fun d => idxD μ d (.int (-1))) = some (.bl (lastV ss w)) := by
  have h0 : 0 < ss.length := List.length_pos_iff.mpr h.ne
  have hl : (rowsD (tab ss w)).length = ss.length := by simp [rowsD, tab_len]
  rw [atI_last (by omega)]
  have e1 := atI_rows (r := tab ss w) (i := ss.length - 1) (by rw [tab_len]; omega)
  rw [atI_nat (by omega)] at e1
  have e2 := Option.some.inj e1
  simp only [Option.bind_some, hl]
  rw [e2, idxD_lst]
  have hr : (gr (tab ss w) (ss.length - 1)).length = w.length + 1 := tab_rowL h _ (gr_mem (by rw [tab_len]; omega))
  rw [atI_last (by rw [bls_len]; omega)]
  have e3 := atI_bls (f := gr (tab ss w) (ss.length - 1)) (i := w.length) (by omega)
  rw [atI_nat (by rw [bls_len]; omega)] at e3
  have e4 := Option.some.inj e3
  simp only [bls_len, hr, Nat.add_sub_cancel]
  rw [e4]
  rfl
theorem rows_last2 {C : Cs} {g : Slots} {e : E} {μ' : Mu} {q : Kd} {ss : List St} {w : List Nat} (h : Val ss) (he : ev C e g μ = .ok (.lst (rowsD (tab ss w)), q) μ') : ev C (.idx (.idx e (.neg (.c (.int 1)))) (.neg (.c (.int 1)))) g μ = .ok (.bl (lastV ss w), .pl) μ' := by
  have h1 := rows_last (μ := μ') (w := w) h
  obtain ⟨d, h2, h3⟩ := Option.bind_eq_some_iff.mp h1
  simp [he, h2, h3]
theorem lawholds_spec {ss : List St} {w : List Nat} (h : Val ss) (hz : w.length ≤ 1000) : callN PP (k + 2) 19 [sayD ss, .str (st w)] μ = .ok (.bl (lastV ss w), false) μ := by
  rw [call_eq (df := f__law_holds) rfl rfl]
  have e1 := table_spec (k := k) (μ := μ) h hz
  have e2 : ev (callN PP (k + 1)) (.call 18 [(.var 0), (.var 1)]) [.ok (sayD ss), .ok (.str (st w))] μ = .ok (.lst (rowsD (tab ss w)), .fr) μ := by simp [e1]
  have e3 := rows_last2 h e2
  show (exes (callN PP (k + 1)) [.ret (.idx (.idx (.call 18 [(.var 0), (.var 1)]) (.neg (.c (.int 1)))) (.neg (.c (.int 1))))] [.ok (sayD ss), .ok (.str (st w))] μ).bind endK = _
  rw [exes_cons, exe_ret, e3]
  rfl
theorem holds_eq {ss : List St} {w : List Nat} (h : Val ss) : gt (tr ss w) (ss.length - 1) = lastV ss w := by
  have h0 : 0 < ss.length := List.length_pos_iff.mpr h.ne
  have := tr_tab (w := w) h w.length (Nat.le_refl _)
  rw [List.take_length] at this
  rw [this, gt_col (by rw [tab_len]; omega)]
  rfl
theorem lc_col {C : Cs} {R : List (List Bool)} {n m : Nat} {x0 x1 x2 x3 x4 x5 : Slot} (hR : RowL m R) (hn : n < m) :
    lcGo (.name 7) (evc C none) (ev C (.idx (.var 7) (.var 6))) [x0, x1, x2, x3, x4, x5, .ok (.int n), .no] (rowsD R) [] μ = .ok (bls (col n R)) μ := by
  have h := lcGo_map (t := .name 7) (cond := evc C none) (el := ev C (.idx (.var 7) (.var 6))) (g := [x0, x1, x2, x3, x4, x5, .ok (.int n), .no]) (μ := μ) (items := rowsD R) (acc := [])
    (f := fun d => match d with | .lst l => l.getD n .non | _ => .non) fun x hx => by
      obtain ⟨f, hf, rfl⟩ := List.mem_map.mp hx
      have hfl := hR f hf
      have e1 := atI_bls (f := f) (i := n) (by omega)
      have e2 : (bls f).getD n .non = .bl (gt f n) := by
        simp [bls, gt, List.getElem?_eq_getElem (show n < f.length by omega)]
      exact ⟨_, rfl, by simp, .pl, by simp only [ev_idx, ev_var, List.set_cons_succ, List.set_cons_zero, List.getElem?_cons_succ, List.getElem?_cons_zero, varK_ok, RE.ok_bind, idxK_eq, idxK2_eq, idxD_lst, e1, Option.map_some, RE.of_some, e2], rfl⟩
  rw [h, List.nil_append]
  congr 1
  simp only [rowsD, col, bls, List.map_map]
  refine List.map_congr_left fun f hf => ?_
  have hfl := hR f hf
  simp [gt, List.getElem?_eq_getElem (show n < f.length by omega)]
end
end NT.Law

set_option Elab.async false
set_option linter.all false
set_option maxRecDepth 100000
set_option maxHeartbeats 4000000
set_option autoImplicit false
namespace NT.Law
open PySem PySem.Spec PyProof.Rows L2 NT
section
variable {k r j : Nat} {μ : Mu} {cs w : List Nat} {ss : List St} {t : Int} {x4 x5 x6 : Slot}
structure Good (cs : List Nat) (ss : List St) : Prop where
  v : Val ss
  s : isSay (sayD ss) = true
  d : D.dp 8 (sayD ss) = true
theorem in_size (hg : Good cs ss) (hw : ∀ c ∈ w, c ∈ AQ) (hf : μ.all (·.all D.flat) = true) {n : Nat} (hn : n < w.length + 1) :
    exes (callN PP (k + 9)) [.frz 2, .ifs (.cmp .NotEq (.call 9 [(.var 2), (.cut (.var 4) none (some (.var 6)))]) (.bi .tuple [(.lc [7] .seq [(.var 5)] (.name 7) none (.idx (.var 7) (.var 6)))])) [.ret (.c (.bl false))] []] [.ok (.mut j), .ok (.str (st cs)), .ok (sayD ss), .ok (.int t), .ok (.str (st w)), .own (rowsD (tab ss w)), .ok (.int n), .no] μ = .ok (.nx [.ok (.mut j), .ok (.str (st cs)), .ok (sayD ss), .ok (.int t), .ok (.str (st w)), .own (rowsD (tab ss w)), .ok (.int n), .no]) μ := by
  have f2 : exe (callN PP (k + 9)) (.frz 2) [.ok (.mut j), .ok (.str (st cs)), .ok (sayD ss), .ok (.int t), .ok (.str (st w)), .own (rowsD (tab ss w)), .ok (.int n), .no] μ = .ok (.nx [.ok (.mut j), .ok (.str (st cs)), .ok (sayD ss), .ok (.int t), .ok (.str (st w)), .own (rowsD (tab ss w)), .ok (.int n), .no]) μ := rfl
  have e1 := truths_spec (k := k + 4) (μ := μ) (w := w.take n) hg.v hg.s hg.d (isw_AQ fun c hc => hw c (List.mem_of_mem_take hc)) hf
  have e2 := lc_col (C := (callN PP (k + 9))) (μ := μ) (R := tab ss w) (n := n) (m := w.length + 1) (x0 := .ok (.mut j)) (x1 := .ok (.str (st cs))) (x2 := .ok (sayD ss)) (x3 := .ok (.int t)) (x4 := .ok (.str (st w))) (x5 := .own (rowsD (tab ss w))) (tab_rowL hg.v) hn
  have a1 : ev (callN PP (k + 9)) (.call 9 [(.var 2), (.cut (.var 4) none (some (.var 6)))]) [.ok (.mut j), .ok (.str (st cs)), .ok (sayD ss), .ok (.int t), .ok (.str (st w)), .own (rowsD (tab ss w)), .ok (.int n), .no] μ = .ok (.tup (bls (col n (tab ss w))), .pl) μ := by
    have q : evs (callN PP (k + 9)) [(.var 2), (.cut (.var 4) none (some (.var 6)))] [.ok (.mut j), .ok (.str (st cs)), .ok (sayD ss), .ok (.int t), .ok (.str (st w)), .own (rowsD (tab ss w)), .ok (.int n), .no] μ = .ok [(sayD ss, .pl), (.str (st (w.take n)), .pl)] μ := by
      simp [cut_st]
    rw [ev_call, q, RE.ok_bind, callK_eq]
    show (((callN PP (k + 9) 9 [sayD ss, .str (st (w.take n))] μ).bind _)) = _
    rw [e1, tr_tab hg.v n (by omega)]
    rfl
  have a2 : ev (callN PP (k + 9)) (.bi .tuple [(.lc [7] .seq [(.var 5)] (.name 7) none (.idx (.var 7) (.var 6)))]) [.ok (.mut j), .ok (.str (st cs)), .ok (sayD ss), .ok (.int t), .ok (.str (st w)), .own (rowsD (tab ss w)), .ok (.int n), .no] μ = .ok (.tup (bls (col n (tab ss w))), .pl) μ := by
    simp [iterD, rowD, e2, biD]
  have a3 : ev (callN PP (k + 9)) (.cmp .NotEq (.call 9 [(.var 2), (.cut (.var 4) none (some (.var 6)))]) (.bi .tuple [(.lc [7] .seq [(.var 5)] (.name 7) none (.idx (.var 7) (.var 6)))])) [.ok (.mut j), .ok (.str (st cs)), .ok (sayD ss), .ok (.int t), .ok (.str (st w)), .own (rowsD (tab ss w)), .ok (.int n), .no] μ = .ok (.bl false, .pl) μ := by
    rw [ev_cmp, a1, RE.ok_bind, cmpK1_eq, a2, RE.ok_bind, cmpK2_eq, cmpD_ne, eqD_tup_bls]
    rfl
  rw [exes_cons, f2, RE.ok_bind, seqK_nx, exes_cons, ifs_skip a3]
  rfl
theorem turn_ok (hD : Dice (r + 9) j μ) (hg : Good cs ss) (hc : cs ≠ []) (hl : cs.length ≤ 100) (hcs : ∀ c ∈ cs, c ∈ ABC) :
    ∃ y4 y5 y6 μ', exes (callN PP (k + 9)) [.frz 1, .asg 4 (.call 16 [(.var 0), (.var 1), (.c (.int 8))]), .frz 2, .frz 4, .asg 5 (.call 18 [(.var 2), (.var 4)]), .for_ .range [(.bin .Add (.bi .len [(.var 4)]) (.c (.int 1)))] (.name 6) [.frz 2, .ifs (.cmp .NotEq (.call 9 [(.var 2), (.cut (.var 4) none (some (.var 6)))]) (.bi .tuple [(.lc [7] .seq [(.var 5)] (.name 7) none (.idx (.var 7) (.var 6)))])) [.ret (.c (.bl false))] []], .frz 2, .frz 4, .ifs (.cmp .NotEq (.bi .repr [(.call 10 [(.var 2), (.var 4)])]) (.bi .repr [(.idx (.idx (.var 5) (.neg (.c (.int 1)))) (.neg (.c (.int 1))))])) [.ret (.c (.bl false))] [], .frz 2, .ifs (.cmp .NotEq (.call 10 [(.var 2), (.bin .Add (.var 4) (.c (.str "q")))]) (.call 19 [(.var 2), (.bin .Add (.var 4) (.c (.str "q")))])) [.ret (.c (.bl false))] []] [.ok (.mut j), .ok (.str (st cs)), .ok (sayD ss), .ok (.int t), x4, x5, x6, .no] μ = .ok (.nx [.ok (.mut j), .ok (.str (st cs)), .ok (sayD ss), .ok (.int t), y4, y5, y6, .no]) μ' ∧ Dice r j μ' ∧ Sm j μ μ' := by
  obtain ⟨w, μ1, e1, hwl, hwc, hD1, hS1⟩ := word_spec (k := k + 6) (r := r) (n := 8) hD hc hl (by omega)
  have hwq : ∀ c ∈ w, c ∈ AQ := fun c h => by
    have := hcs c (hwc c h)
    simp only [ABC, AQ, List.mem_cons, List.not_mem_nil, or_false] at this ⊢
    omega
  have hwq2 : ∀ c ∈ w ++ [113], c ∈ AQ := fun c h => by
    rcases List.mem_append.mp h with z | z
    · exact hwq c z
    · rw [List.mem_singleton.mp z]; decide
  have f1 : exe (callN PP (k + 9)) (.frz 1) [.ok (.mut j), .ok (.str (st cs)), .ok (sayD ss), .ok (.int t), x4, x5, x6, .no] μ = .ok (.nx [.ok (.mut j), .ok (.str (st cs)), .ok (sayD ss), .ok (.int t), x4, x5, x6, .no]) μ := rfl
  have p1 : exe (callN PP (k + 9)) (.asg 4 (.call 16 [(.var 0), (.var 1), (.c (.int 8))])) [.ok (.mut j), .ok (.str (st cs)), .ok (sayD ss), .ok (.int t), x4, x5, x6, .no] μ = .ok (.nx [.ok (.mut j), .ok (.str (st cs)), .ok (sayD ss), .ok (.int t), .ok (.str (st w)), x5, x6, .no]) μ1 := by
    have e1' : callN PP (k + 9) 16 [.mut j, .str (st cs), .int 8] μ = .ok (.str (st w), false) μ1 := e1
    simp [e1']
  have f2 : exe (callN PP (k + 9)) (.frz 2) [.ok (.mut j), .ok (.str (st cs)), .ok (sayD ss), .ok (.int t), .ok (.str (st w)), x5, x6, .no] μ1 = .ok (.nx [.ok (.mut j), .ok (.str (st cs)), .ok (sayD ss), .ok (.int t), .ok (.str (st w)), x5, x6, .no]) μ1 := rfl
  have f4 : exe (callN PP (k + 9)) (.frz 4) [.ok (.mut j), .ok (.str (st cs)), .ok (sayD ss), .ok (.int t), .ok (.str (st w)), x5, x6, .no] μ1 = .ok (.nx [.ok (.mut j), .ok (.str (st cs)), .ok (sayD ss), .ok (.int t), .ok (.str (st w)), x5, x6, .no]) μ1 := rfl
  have e4 := table_spec (k := k + 8) (μ := μ1) (w := w) hg.v (by omega)
  have p4 : exe (callN PP (k + 9)) (.asg 5 (.call 18 [(.var 2), (.var 4)])) [.ok (.mut j), .ok (.str (st cs)), .ok (sayD ss), .ok (.int t), .ok (.str (st w)), x5, x6, .no] μ1 = .ok (.nx [.ok (.mut j), .ok (.str (st cs)), .ok (sayD ss), .ok (.int t), .ok (.str (st w)), .own (rowsD (tab ss w)), x6, .no]) μ1 := by
    have e4' : callN PP (k + 9) 18 [sayD ss, .str (st w)] μ1 = .ok (.lst (rowsD (tab ss w)), true) μ1 := e4
    simp [e4']
  obtain ⟨g', μ2, e5, hμ, y6, hgg⟩ := forGo_all (t := .name 6) (b := exes (callN PP (k + 9)) [.frz 2, .ifs (.cmp .NotEq (.call 9 [(.var 2), (.cut (.var 4) none (some (.var 6)))]) (.bi .tuple [(.lc [7] .seq [(.var 5)] (.name 7) none (.idx (.var 7) (.var 6)))])) [.ret (.c (.bl false))] []]) (items := intL 0 (w.length + 1)) (g := [.ok (.mut j), .ok (.str (st cs)), .ok (sayD ss), .ok (.int t), .ok (.str (st w)), .own (rowsD (tab ss w)), x6, .no]) (μ := μ1)
    (fun i g μ' => μ' = μ1 ∧ ∃ y6, g = [.ok (.mut j), .ok (.str (st cs)), .ok (sayD ss), .ok (.int t), .ok (.str (st w)), .own (rowsD (tab ss w)), y6, .no]) ⟨rfl, x6, rfl⟩ (by
      rintro i x g μ' hi ⟨hμ, y6, rfl⟩
      subst hμ
      obtain ⟨him, rfl⟩ := intL_get hi
      have ei : (0 : Int) + (i : Int) = (i : Int) := by omega
      rw [ei]
      exact ⟨_, rfl, _, μ', .inl (in_size (k := k) hg hwq hD1.fl him), rfl, _, rfl⟩)
  subst hgg hμ
  have p5 : exe (callN PP (k + 9)) (.for_ .range [(.bin .Add (.bi .len [(.var 4)]) (.c (.int 1)))] (.name 6) [.frz 2, .ifs (.cmp .NotEq (.call 9 [(.var 2), (.cut (.var 4) none (some (.var 6)))]) (.bi .tuple [(.lc [7] .seq [(.var 5)] (.name 7) none (.idx (.var 7) (.var 6)))])) [.ret (.c (.bl false))] []]) [.ok (.mut j), .ok (.str (st cs)), .ok (sayD ss), .ok (.int t), .ok (.str (st w)), .own (rowsD (tab ss w)), x6, .no] μ2 = .ok (.nx [.ok (.mut j), .ok (.str (st cs)), .ok (sayD ss), .ok (.int t), .ok (.str (st w)), .own (rowsD (tab ss w)), y6, .no]) μ2 := by
    have q : evs (callN PP (k + 9)) [(.bin .Add (.bi .len [(.var 4)]) (.c (.int 1)))] [.ok (.mut j), .ok (.str (st cs)), .ok (sayD ss), .ok (.int t), .ok (.str (st w)), .own (rowsD (tab ss w)), x6, .no] μ2 = .ok [(.int ((w.length : Int) + 1), .pl)] μ2 := by
      simp [biD, st_len]
    rw [exe_for, q, RE.ok_bind, forK_eq]
    show forK1 (callN PP (k + 9)) (.name 6) [.frz 2, .ifs (.cmp .NotEq (.call 9 [(.var 2), (.cut (.var 4) none (some (.var 6)))]) (.bi .tuple [(.lc [7] .seq [(.var 5)] (.name 7) none (.idx (.var 7) (.var 6)))])) [.ret (.c (.bl false))] []] [.ok (.mut j), .ok (.str (st cs)), .ok (sayD ss), .ok (.int t), .ok (.str (st w)), .own (rowsD (tab ss w)), x6, .no] (iterD .range [.int ((w.length : Int) + 1)]) μ2 = _
    rw [it_range (by omega), forK1_eq]
    exact e5
  have g2 : exe (callN PP (k + 9)) (.frz 2) [.ok (.mut j), .ok (.str (st cs)), .ok (sayD ss), .ok (.int t), .ok (.str (st w)), .own (rowsD (tab ss w)), y6, .no] μ2 = .ok (.nx [.ok (.mut j), .ok (.str (st cs)), .ok (sayD ss), .ok (.int t), .ok (.str (st w)), .own (rowsD (tab ss w)), y6, .no]) μ2 := rfl
  have g4 : exe (callN PP (k + 9)) (.frz 4) [.ok (.mut j), .ok (.str (st cs)), .ok (sayD ss), .ok (.int t), .ok (.str (st w)), .own (rowsD (tab ss w)), y6, .no] μ2 = .ok (.nx [.ok (.mut j), .ok (.str (st cs)), .ok (sayD ss), .ok (.int t), .ok (.str (st w)), .own (rowsD (tab ss w)), y6, .no]) μ2 := rfl
  have h1 := holds_spec (k := k + 4) (μ := μ2) (w := w) hg.v hg.s hg.d (isw_AQ hwq) hD1.fl
  have h2 := holds_spec (k := k + 4) (μ := μ2) (w := w ++ [113]) hg.v hg.s hg.d (isw_AQ hwq2) hD1.fl
  have h3 := lawholds_spec (k := k + 7) (μ := μ2) (w := w ++ [113]) hg.v (by simp; omega)
  rw [holds_eq hg.v] at h1 h2
  have r1 : ev (callN PP (k + 9)) (.idx (.idx (.var 5) (.neg (.c (.int 1)))) (.neg (.c (.int 1)))) [.ok (.mut j), .ok (.str (st cs)), .ok (sayD ss), .ok (.int t), .ok (.str (st w)), .own (rowsD (tab ss w)), y6, .no] μ2 = .ok (.bl (lastV ss w), .pl) μ2 := rows_last2 hg.v (e := .var 5) (q := .bo 5) rfl
  have r2 : ev (callN PP (k + 9)) (.call 10 [(.var 2), (.var 4)]) [.ok (.mut j), .ok (.str (st cs)), .ok (sayD ss), .ok (.int t), .ok (.str (st w)), .own (rowsD (tab ss w)), y6, .no] μ2 = .ok (.bl (lastV ss w), .pl) μ2 := by
    have h1' : callN PP (k + 9) 10 [sayD ss, .str (st w)] μ2 = .ok (.bl (lastV ss w), false) μ2 := h1
    simp [h1']
  have a8 : ev (callN PP (k + 9)) (.cmp .NotEq (.bi .repr [(.call 10 [(.var 2), (.var 4)])]) (.bi .repr [(.idx (.idx (.var 5) (.neg (.c (.int 1)))) (.neg (.c (.int 1))))])) [.ok (.mut j), .ok (.str (st cs)), .ok (sayD ss), .ok (.int t), .ok (.str (st w)), .own (rowsD (tab ss w)), y6, .no] μ2 = .ok (.bl false, .pl) μ2 := by
    have q1 : ev (callN PP (k + 9)) (.bi .repr [(.call 10 [(.var 2), (.var 4)])]) [.ok (.mut j), .ok (.str (st cs)), .ok (sayD ss), .ok (.int t), .ok (.str (st w)), .own (rowsD (tab ss w)), y6, .no] μ2 = .ok (.str (if lastV ss w then "True" else "False"), .pl) μ2 := by
      rw [ev_bi, evs_cons, r2]
      rfl
    have q2 : ev (callN PP (k + 9)) (.bi .repr [(.idx (.idx (.var 5) (.neg (.c (.int 1)))) (.neg (.c (.int 1))))]) [.ok (.mut j), .ok (.str (st cs)), .ok (sayD ss), .ok (.int t), .ok (.str (st w)), .own (rowsD (tab ss w)), y6, .no] μ2 = .ok (.str (if lastV ss w then "True" else "False"), .pl) μ2 := by
      rw [ev_bi, evs_cons, r1]
      rfl
    rw [ev_cmp, q1, RE.ok_bind, cmpK1_eq, q2, RE.ok_bind, cmpK2_eq, cmpD_ne, eqD_str]
    simp
  have a10 : ev (callN PP (k + 9)) (.cmp .NotEq (.call 10 [(.var 2), (.bin .Add (.var 4) (.c (.str "q")))]) (.call 19 [(.var 2), (.bin .Add (.var 4) (.c (.str "q")))])) [.ok (.mut j), .ok (.str (st cs)), .ok (sayD ss), .ok (.int t), .ok (.str (st w)), .own (rowsD (tab ss w)), y6, .no] μ2 = .ok (.bl false, .pl) μ2 := by
    have hq : ("q" : Str) = st [113] := by decide +kernel
    have bq : binD .Add (.str (st w)) (.str "q") = some (.str (st (w ++ [113])), .pl) := by
      rw [hq]
      simp only [binD]
      rw [if_pos (by rw [st_len, st_len]; show _ ≤ 16777216; simp; omega), st_app]
    have q0 : evs (callN PP (k + 9)) [(.var 2), (.bin .Add (.var 4) (.c (.str "q")))] [.ok (.mut j), .ok (.str (st cs)), .ok (sayD ss), .ok (.int t), .ok (.str (st w)), .own (rowsD (tab ss w)), y6, .no] μ2 = .ok [(sayD ss, .pl), (.str (st (w ++ [113])), .pl)] μ2 := by
      simp [bq]
    have q1 : ev (callN PP (k + 9)) (.call 10 [(.var 2), (.bin .Add (.var 4) (.c (.str "q")))]) [.ok (.mut j), .ok (.str (st cs)), .ok (sayD ss), .ok (.int t), .ok (.str (st w)), .own (rowsD (tab ss w)), y6, .no] μ2 = .ok (.bl (lastV ss (w ++ [113])), .pl) μ2 := by
      rw [ev_call, q0, RE.ok_bind, callK_eq]
      show ((callN PP (k + 9) 10 [sayD ss, .str (st (w ++ [113]))] μ2).bind _) = _
      rw [h2]
      rfl
    have q2 : ev (callN PP (k + 9)) (.call 19 [(.var 2), (.bin .Add (.var 4) (.c (.str "q")))]) [.ok (.mut j), .ok (.str (st cs)), .ok (sayD ss), .ok (.int t), .ok (.str (st w)), .own (rowsD (tab ss w)), y6, .no] μ2 = .ok (.bl (lastV ss (w ++ [113])), .pl) μ2 := by
      rw [ev_call, q0, RE.ok_bind, callK_eq]
      show ((callN PP (k + 9) 19 [sayD ss, .str (st (w ++ [113]))] μ2).bind _) = _
      rw [h3]
      rfl
    have q3 : ∀ b : Bool, eqD (.bl b) (.bl b) = some true := fun b => by cases b <;> rfl
    rw [ev_cmp, q1, RE.ok_bind, cmpK1_eq, q2, RE.ok_bind, cmpK2_eq, cmpD_ne, q3]
    rfl
  refine ⟨.ok (.str (st w)), .own (rowsD (tab ss w)), y6, μ2, ?_, hD1, hS1⟩
  rw [exes_cons, f1, RE.ok_bind, seqK_nx, exes_cons, p1, RE.ok_bind, seqK_nx, exes_cons, f2, RE.ok_bind, seqK_nx, exes_cons, f4, RE.ok_bind, seqK_nx, exes_cons, p4, RE.ok_bind, seqK_nx, exes_cons, p5, RE.ok_bind, seqK_nx,
    exes_cons, g2, RE.ok_bind, seqK_nx, exes_cons, g4, RE.ok_bind, seqK_nx, exes_cons, ifs_skip a8, RE.ok_bind, seqK_nx, exes_cons, g2, RE.ok_bind, seqK_nx, exes_cons, ifs_skip a10]
  rfl
theorem right_spec (hD : Dice (r + 200) j μ) : ∃ μ', callN PP (k + 10) 21 [.mut j] μ = .ok (.bl true, false) μ' ∧ Dice r j μ' ∧ Sm j μ μ' := by
  obtain ⟨x, μ1, e1, h1, h1', hD1, hS1⟩ := roll_spec (P := PP) (i := 12) (k := k + 8) (n := 2) (r := r + 199) rfl hD (by omega) (by omega)
  obtain ⟨x, rfl⟩ := Int.eq_ofNat_of_zero_le h1
  obtain ⟨cs, μ2, e2, hcl, _, hcs, hD2, hS2⟩ := letters_spec (P := PP) (i := 15) (im := 14) (ir := 12) (k := k + 6) (r := r + 193) (n := 1 + x) rfl rfl rfl hD1
  have hc : cs ≠ [] := by intro z; rw [z] at hcl; simp at hcl; omega
  have hl : cs.length ≤ 100 := by omega
  have hab : ∀ c ∈ cs, c < 0x110000 := fun c h => by
    have := hcs c h
    simp only [ABC, List.mem_cons, List.not_mem_nil, or_false] at this
    omega
  obtain ⟨ss, μ3, e3, hdr, hs0, hs1, hD3, hS3⟩ := draw_spec (k := k + 6) (r := r + 93) hD2 hc hl hab
  have hv : Val ss := ⟨hdr.ok, List.length_pos_iff.mp hs0, by omega⟩
  have hsay := say_ok hdr hcs hs0
  have hdp : D.dp 8 (sayD ss) = true := by
    show D.dp 8 (.tup (ss.map toD)) = true
    simp only [D.dp]
    exact dp_say hdr.ok
  obtain ⟨d, μ4, e4, hdn, hdd, hD4, hS4⟩ := odd_spec (k := k + 6) (r := r + 91) hD3 hdr.ok hs0 (by omega)
  have s1 := is_saying_spec (k := k + 6) (μ := μ3) (d := sayD ss) (.inl hdp)
  have s2 := is_saying_spec (k := k + 6) (μ := μ4) (d := d) hdd
  have p0 : exe (callN PP (k + 9)) (.asg 1 (.call 15 [(.var 0), (.bin .Add (.c (.int 1)) (.call 12 [(.var 0), (.c (.int 2))]))])) [.ok (.mut j), .no, .no, .no, .no, .no, .no, .no] μ = .ok (.nx [.ok (.mut j), .ok (.str (st cs)), .no, .no, .no, .no, .no, .no]) μ2 := by
    have e1' : callN PP (k + 9) 12 [.mut j, .int 2] μ = .ok (.int (x : Int), false) μ1 := e1
    have e2' : callN PP (k + 9) 15 [.mut j, .int (1 + (x : Int))] μ1 = .ok (.str (st cs), false) μ2 := by
      have ei : (1 : Int) + (x : Int) = ((1 + x : Nat) : Int) := by omega
      rw [ei]
      exact e2
    simp [e1', e2']
  have f1 : exe (callN PP (k + 9)) (.frz 1) [.ok (.mut j), .ok (.str (st cs)), .no, .no, .no, .no, .no, .no] μ2 = .ok (.nx [.ok (.mut j), .ok (.str (st cs)), .no, .no, .no, .no, .no, .no]) μ2 := rfl
  have p2 : exe (callN PP (k + 9)) (.asg 2 (.call 17 [(.var 0), (.var 1), (.c (.int 9))])) [.ok (.mut j), .ok (.str (st cs)), .no, .no, .no, .no, .no, .no] μ2 = .ok (.nx [.ok (.mut j), .ok (.str (st cs)), .ok (sayD ss), .no, .no, .no, .no, .no]) μ3 := by
    have e3' : callN PP (k + 9) 17 [.mut j, .str (st cs), .int 9] μ2 = .ok (sayD ss, false) μ3 := e3
    simp [e3']
  have f2 : exe (callN PP (k + 9)) (.frz 2) [.ok (.mut j), .ok (.str (st cs)), .ok (sayD ss), .no, .no, .no, .no, .no] μ3 = .ok (.nx [.ok (.mut j), .ok (.str (st cs)), .ok (sayD ss), .no, .no, .no, .no, .no]) μ3 := rfl
  have a4 : ev (callN PP (k + 9)) (.or (.cmp .IsNot (.call 4 [(.var 2)]) (.c (.bl true))) (.cmp .IsNot (.call 4 [(.call 20 [(.var 0), (.var 2)])]) (.c (.bl false)))) [.ok (.mut j), .ok (.str (st cs)), .ok (sayD ss), .no, .no, .no, .no, .no] μ3 = .ok (.bl false, .pl) μ4 := by
    have e4' : callN PP (k + 9) 20 [.mut j, sayD ss] μ3 = .ok (d, false) μ4 := e4
    have s1' : callN PP (k + 9) 4 [sayD ss] μ3 = .ok (.bl (isSay (sayD ss)), false) μ3 := s1
    have s2' : callN PP (k + 9) 4 [d] μ4 = .ok (.bl (isSay d), false) μ4 := s2
    rw [hsay] at s1'
    rw [hdn] at s2'
    simp [s1', e4', s2', cmpD, isD]
  have i4 : iterD .range [.int 4] = some (intL 0 4) := rfl
  obtain ⟨g', μ5, e5, y3, y4, y5, y6, hgg, hD5, hS5⟩ := forGo_all (t := .name 3) (b := exes (callN PP (k + 9)) [.frz 1, .asg 4 (.call 16 [(.var 0), (.var 1), (.c (.int 8))]), .frz 2, .frz 4, .asg 5 (.call 18 [(.var 2), (.var 4)]), .for_ .range [(.bin .Add (.bi .len [(.var 4)]) (.c (.int 1)))] (.name 6) [.frz 2, .ifs (.cmp .NotEq (.call 9 [(.var 2), (.cut (.var 4) none (some (.var 6)))]) (.bi .tuple [(.lc [7] .seq [(.var 5)] (.name 7) none (.idx (.var 7) (.var 6)))])) [.ret (.c (.bl false))] []], .frz 2, .frz 4, .ifs (.cmp .NotEq (.bi .repr [(.call 10 [(.var 2), (.var 4)])]) (.bi .repr [(.idx (.idx (.var 5) (.neg (.c (.int 1)))) (.neg (.c (.int 1))))])) [.ret (.c (.bl false))] [], .frz 2, .ifs (.cmp .NotEq (.call 10 [(.var 2), (.bin .Add (.var 4) (.c (.str "q")))]) (.call 19 [(.var 2), (.bin .Add (.var 4) (.c (.str "q")))])) [.ret (.c (.bl false))] []]) (items := intL 0 4) (g := [.ok (.mut j), .ok (.str (st cs)), .ok (sayD ss), .no, .no, .no, .no, .no]) (μ := μ4)
    (fun i g μ' => ∃ y3 y4 y5 y6, g = [.ok (.mut j), .ok (.str (st cs)), .ok (sayD ss), y3, y4, y5, y6, .no] ∧ Dice (r + (91 - 9 * i)) j μ' ∧ Sm j μ4 μ') ⟨.no, .no, .no, .no, rfl, hD4, .refl⟩ (by
      rintro i x g μ' hi ⟨y3, y4, y5, y6, rfl, hD, hS⟩
      obtain ⟨him, rfl⟩ := intL_get hi
      obtain ⟨z4, z5, z6, μ6, e6, hD6, hS6⟩ := turn_ok (k := k) (r := r + (91 - 9 * (i + 1))) (t := 0 + (i : Int)) (x4 := y4) (x5 := y5) (x6 := y6) (hD.mono (by omega)) (⟨hv, hsay, hdp⟩ : Good cs ss) hc hl hcs
      exact ⟨_, rfl, _, μ6, .inl e6, _, _, _, _, rfl, hD6, hS.trans hS6⟩)
  subst hgg
  have p5 : exe (callN PP (k + 9)) (.for_ .range [(.c (.int 4))] (.name 3) [.frz 1, .asg 4 (.call 16 [(.var 0), (.var 1), (.c (.int 8))]), .frz 2, .frz 4, .asg 5 (.call 18 [(.var 2), (.var 4)]), .for_ .range [(.bin .Add (.bi .len [(.var 4)]) (.c (.int 1)))] (.name 6) [.frz 2, .ifs (.cmp .NotEq (.call 9 [(.var 2), (.cut (.var 4) none (some (.var 6)))]) (.bi .tuple [(.lc [7] .seq [(.var 5)] (.name 7) none (.idx (.var 7) (.var 6)))])) [.ret (.c (.bl false))] []], .frz 2, .frz 4, .ifs (.cmp .NotEq (.bi .repr [(.call 10 [(.var 2), (.var 4)])]) (.bi .repr [(.idx (.idx (.var 5) (.neg (.c (.int 1)))) (.neg (.c (.int 1))))])) [.ret (.c (.bl false))] [], .frz 2, .ifs (.cmp .NotEq (.call 10 [(.var 2), (.bin .Add (.var 4) (.c (.str "q")))]) (.call 19 [(.var 2), (.bin .Add (.var 4) (.c (.str "q")))])) [.ret (.c (.bl false))] []]) [.ok (.mut j), .ok (.str (st cs)), .ok (sayD ss), .no, .no, .no, .no, .no] μ4 = .ok (.nx [.ok (.mut j), .ok (.str (st cs)), .ok (sayD ss), y3, y4, y5, y6, .no]) μ5 := by
    rw [exe_for]
    show forK1 (callN PP (k + 9)) (.name 3) [.frz 1, .asg 4 (.call 16 [(.var 0), (.var 1), (.c (.int 8))]), .frz 2, .frz 4, .asg 5 (.call 18 [(.var 2), (.var 4)]), .for_ .range [(.bin .Add (.bi .len [(.var 4)]) (.c (.int 1)))] (.name 6) [.frz 2, .ifs (.cmp .NotEq (.call 9 [(.var 2), (.cut (.var 4) none (some (.var 6)))]) (.bi .tuple [(.lc [7] .seq [(.var 5)] (.name 7) none (.idx (.var 7) (.var 6)))])) [.ret (.c (.bl false))] []], .frz 2, .frz 4, .ifs (.cmp .NotEq (.bi .repr [(.call 10 [(.var 2), (.var 4)])]) (.bi .repr [(.idx (.idx (.var 5) (.neg (.c (.int 1)))) (.neg (.c (.int 1))))])) [.ret (.c (.bl false))] [], .frz 2, .ifs (.cmp .NotEq (.call 10 [(.var 2), (.bin .Add (.var 4) (.c (.str "q")))]) (.call 19 [(.var 2), (.bin .Add (.var 4) (.c (.str "q")))])) [.ret (.c (.bl false))] []] [.ok (.mut j), .ok (.str (st cs)), .ok (sayD ss), .no, .no, .no, .no, .no] (iterD .range [.int 4]) μ4 = _
    rw [i4, forK1_eq]
    exact e5
  have rr : exe (callN PP (k + 9)) (.ifs (.or (.cmp .IsNot (.call 4 [(.var 2)]) (.c (.bl true))) (.cmp .IsNot (.call 4 [(.call 20 [(.var 0), (.var 2)])]) (.c (.bl false)))) [.ret (.c (.bl false))] []) [.ok (.mut j), .ok (.str (st cs)), .ok (sayD ss), .no, .no, .no, .no, .no] μ3 = .ok (.nx [.ok (.mut j), .ok (.str (st cs)), .ok (sayD ss), .no, .no, .no, .no, .no]) μ4 := by
    rw [exe_ifs, a4, RE.ok_bind, iteK_f, exes_nil]
  refine ⟨μ5, ?_, hD5.mono (by omega), (((hS1.trans hS2).trans hS3).trans hS4).trans hS5⟩
  rw [call_eq (df := f__law_right) rfl rfl]
  show (exes (callN PP (k + 9)) [.asg 1 (.call 15 [(.var 0), (.bin .Add (.c (.int 1)) (.call 12 [(.var 0), (.c (.int 2))]))]), .frz 1, .asg 2 (.call 17 [(.var 0), (.var 1), (.c (.int 9))]), .frz 2, .ifs (.or (.cmp .IsNot (.call 4 [(.var 2)]) (.c (.bl true))) (.cmp .IsNot (.call 4 [(.call 20 [(.var 0), (.var 2)])]) (.c (.bl false)))) [.ret (.c (.bl false))] [], .for_ .range [(.c (.int 4))] (.name 3) [.frz 1, .asg 4 (.call 16 [(.var 0), (.var 1), (.c (.int 8))]), .frz 2, .frz 4, .asg 5 (.call 18 [(.var 2), (.var 4)]), .for_ .range [(.bin .Add (.bi .len [(.var 4)]) (.c (.int 1)))] (.name 6) [.frz 2, .ifs (.cmp .NotEq (.call 9 [(.var 2), (.cut (.var 4) none (some (.var 6)))]) (.bi .tuple [(.lc [7] .seq [(.var 5)] (.name 7) none (.idx (.var 7) (.var 6)))])) [.ret (.c (.bl false))] []], .frz 2, .frz 4, .ifs (.cmp .NotEq (.bi .repr [(.call 10 [(.var 2), (.var 4)])]) (.bi .repr [(.idx (.idx (.var 5) (.neg (.c (.int 1)))) (.neg (.c (.int 1))))])) [.ret (.c (.bl false))] [], .frz 2, .ifs (.cmp .NotEq (.call 10 [(.var 2), (.bin .Add (.var 4) (.c (.str "q")))]) (.call 19 [(.var 2), (.bin .Add (.var 4) (.c (.str "q")))])) [.ret (.c (.bl false))] []], .ret (.c (.bl true))] [.ok (.mut j), .no, .no, .no, .no, .no, .no, .no] μ).bind endK = _
  rw [exes_cons, p0, RE.ok_bind, seqK_nx, exes_cons, f1, RE.ok_bind, seqK_nx, exes_cons, p2, RE.ok_bind, seqK_nx, exes_cons, f2, RE.ok_bind, seqK_nx, exes_cons, rr, RE.ok_bind, seqK_nx, exes_cons, p5, RE.ok_bind, seqK_nx]
  rfl
end
end NT.Law

set_option Elab.async false
set_option linter.all false
set_option maxRecDepth 100000
set_option maxHeartbeats 4000000
set_option autoImplicit false
namespace NT.Law
open PySem PySem.Spec PyProof.Rows L2 NT
abbrev S1 : List St := [.lt 97, .lt 98, .nt 1, .si 2 0]
abbrev S2 : List St := [.lt 97, .nt 0, .ei 0 1, .ah 2, .nt 3]
abbrev S3 : List St := [.lt 97, .ah 0]
theorem sa : ("a" : Str) = ch 97 := by decide +kernel
theorem sb : ("b" : Str) = ch 98 := by decide +kernel
theorem w0 : ("" : Str) = st [] := by decide +kernel
theorem wa : ("a" : Str) = st [97] := by decide +kernel
theorem wb : ("b" : Str) = st [98] := by decide +kernel
theorem wac : ("ac" : Str) = st [97, 99] := by decide +kernel
theorem wab : ("ab" : Str) = st [97, 98] := by decide +kernel
theorem waba : ("aba" : Str) = st [97, 98, 97] := by decide +kernel
theorem waa : ("aa" : Str) = st [97, 97] := by decide +kernel
theorem wba : ("ba" : Str) = st [98, 97] := by decide +kernel
theorem okl {ss : List St} {b : Nat → St → Bool} (hb : ∀ t s, b t s = true → okAt t s) (h : (ss.zipIdx.all fun p => b p.2 p.1) = true) : ∀ (t : Nat) (s : St), ss[t]? = some s → okAt t s := fun t s e => by
  refine hb t s ?_
  have := List.all_eq_true.mp h (s, t) (by
    rw [List.mem_zipIdx_iff_getElem?]
    exact e)
  exact this
def okB (t : Nat) : St → Bool
  | .lt c => decide (c < 0x110000)
  | .nt i => decide (i < t)
  | .ei i j => decide (i < t) && decide (j < t)
  | .ah i => decide (i < t)
  | .si i j => decide (i < t) && decide (j < t)
theorem okB_ok {t : Nat} {s : St} (h : okB t s = true) : okAt t s := by
  cases s <;> simpa [okB, okAt] using h
theorem good_of {ss : List St} (h : (ss.zipIdx.all fun p => okB p.2 p.1) = true) (hne : ss ≠ []) (hl : ss.length ≤ 1000) (hlt : ∀ c, St.lt c ∈ ss → c ∈ ABC) : Good ABC ss := by
  have hok := okl (b := okB) (fun _ _ h => okB_ok h) h
  have hd : Drn ABC ss := ⟨hok, hlt⟩
  refine ⟨⟨hok, hne, hl⟩, say_ok hd (fun _ h => h) (List.length_pos_iff.mpr hne), ?_⟩
  show D.dp 8 (.tup (ss.map toD)) = true
  simp only [D.dp]
  exact dp_say hok
theorem good1 : Good ABC S1 := good_of rfl (by simp) (by decide) (by intro c h; simp [S1] at h; rcases h with rfl | rfl <;> decide)
theorem good2 : Good ABC S2 := good_of rfl (by simp) (by decide) (by intro c h; simp [S2] at h; subst h; decide)
theorem good3 : Good ABC S3 := good_of rfl (by simp) (by decide) (by intro c h; simp [S3] at h; subst h; decide)
theorem holdsC {cs w : List Nat} {ss : List St} {μ : Mu} (hg : Good cs ss) (hw : w.all (AQ.contains ·) = true) (hf : μ.all (·.all D.flat) = true) {v : Bool} (hv : gt (tr ss w) (ss.length - 1) = v) : callN PP 19 10 [sayD ss, .str (st w)] μ = .ok (.bl v, false) μ := by
  have := holds_spec (k := 14) (μ := μ) (w := w) hg.v hg.s hg.d (isw_AQ fun c hc => by simpa using List.all_eq_true.mp hw c hc) hf
  rw [hv] at this
  exact this
theorem eqD_lst_bls {f : List Bool} : eqD (.lst (bls f)) (.lst (bls f)) = some true := by
  have h : D.dp 8 (.lst (bls f)) = true := by simp only [D.dp]; exact dp_bls
  unfold eqD
  simp only [h, Bool.and_self, if_true, D.py]
  show some (PyData.eqvAll (D.pyL (bls f)) (D.pyL (bls f))) = some true
  rw [eqv_bls]
/-- a comprehension over written words -/
theorem lc_words {el : E} {g : Slots} {μ : Mu} {ws : List (List Nat)} {v : List Nat → Bool} (h : ∀ w ∈ ws, ev (callN PP 19) el (g.set 8 (.ok (.str (st w)))) μ = .ok (.bl (v w), .pl) μ) :
    lcGo (.name 8) (evc (callN PP 19) none) (ev (callN PP 19) el) g (ws.map fun w => .str (st w)) [] μ = .ok (bls (ws.map v)) μ := by
  have := lcGo_map (t := .name 8) (cond := evc (callN PP 19) none) (el := ev (callN PP 19) el) (g := g) (μ := μ) (items := ws.map fun w => .str (st w)) (acc := [])
    (f := fun d => match d with | .str z => .bl (v z.cps.toList) | _ => .non) fun x hx => by
      obtain ⟨w, hw, rfl⟩ := List.mem_map.mp hx
      refine ⟨_, rfl, by simp, .pl, ?_, rfl⟩
      rw [h w hw]
      simp [st]
  rw [this]
  simp [bls, Function.comp_def, st]
theorem run_all (ns : List Int) (hl : ns.length ≤ 63) : ∃ (b : Bool) (μ' : Mu), callN PP 20 22 [.scr ns] [] = .ok (.bl true, b) μ' := by
  obtain ⟨N, hN8, hN⟩ : ∃ N : Nat, N ≤ 8 ∧ (if (if (ns.length : Int) < 8 then (ns.length : Int) else 8) > 1 then (if (ns.length : Int) < 8 then (ns.length : Int) else 8) else 1) = (N : Int) := by
    refine ⟨(if (if (ns.length : Int) < 8 then (ns.length : Int) else 8) > 1 then (if (ns.length : Int) < 8 then (ns.length : Int) else 8) else 1).toNat, ?_, ?_⟩ <;> split <;> split <;> omega
  obtain ⟨g', μ1, e0, hf1, y1, y6, y7, hg⟩ := forGo_all (t := .name 1) (b := exes (callN PP 19) [.frz 1, .asg 6 (.newMut (.call 11 [(.var 0), (.var 1)])), .for_ .range [(.c (.int 3))] (.name 7) [.frz 6, .ifs (.not (.call 21 [(.var 6)])) [.ret (.c (.bl false))] []]]) (items := intL 0 N) (g := [.ok (.scr ns), .no, .no, .no, .no, .no, .no, .no, .no]) (μ := [])
    (fun i g μ' => μ'.all (·.all D.flat) = true ∧ ∃ y1 y6 y7, g = [.ok (.scr ns), y1, .no, .no, .no, .no, y6, y7, .no]) ⟨rfl, .no, .no, .no, rfl⟩ (by
      rintro i x g μ' hi ⟨hf, y1, y6, y7, rfl⟩
      obtain ⟨him, rfl⟩ := intL_get hi
      have ei : (0 : Int) + (i : Int) = (i : Int) := by omega
      rw [ei]
      obtain ⟨a, b, ed, ha, hb, hb2⟩ := dice_spec (P := PP) (i := 11) (k := 18) (μ := μ') (ns := ns) (n := i) rfl (by omega)
      have hD : Dice 600 μ'.length (μ' ++ [[.int a, .int b, .int 0]]) := ⟨⟨a, b, 0, by rw [List.getElem?_append_right (Nat.le_refl _)]; simp, ha, hb, hb2, by omega, by omega⟩, by rw [List.all_append, hf]; rfl⟩
      have f1 : exe (callN PP 19) (.frz 1) [.ok (.scr ns), .ok (.int i), .no, .no, .no, .no, y6, y7, .no] μ' = .ok (.nx [.ok (.scr ns), .ok (.int i), .no, .no, .no, .no, y6, y7, .no]) μ' := rfl
      have p1 : exe (callN PP 19) (.asg 6 (.newMut (.call 11 [(.var 0), (.var 1)]))) [.ok (.scr ns), .ok (.int i), .no, .no, .no, .no, y6, y7, .no] μ' = .ok (.nx [.ok (.scr ns), .ok (.int i), .no, .no, .no, .no, .ok (.mut μ'.length), y7, .no]) (μ' ++ [[.int a, .int b, .int 0]]) := by
        have ed' : callN PP 19 11 [.scr ns, .int i] μ' = .ok (.lst [.int a, .int b, .int 0], true) μ' := ed
        simp [ed']
      obtain ⟨g2, μ2, e2, hD2, z7, hg2⟩ := forGo_all (t := .name 7) (b := exes (callN PP 19) [.frz 6, .ifs (.not (.call 21 [(.var 6)])) [.ret (.c (.bl false))] []]) (items := intL 0 3) (g := [.ok (.scr ns), .ok (.int i), .no, .no, .no, .no, .ok (.mut μ'.length), y7, .no]) (μ := μ' ++ [[.int a, .int b, .int 0]])
        (fun m g μ2 => Dice (600 - 200 * m) μ'.length μ2 ∧ ∃ z7, g = [.ok (.scr ns), .ok (.int i), .no, .no, .no, .no, .ok (.mut μ'.length), z7, .no]) ⟨hD, y7, rfl⟩ (by
          rintro m x g μ2 hm ⟨hD2, z7, rfl⟩
          obtain ⟨hm3, rfl⟩ := intL_get hm
          obtain ⟨μ3, e3, hD3, _⟩ := right_spec (k := 9) (r := 600 - 200 * (m + 1)) (hD2.mono (by omega))
          have e3' : callN PP 19 21 [.mut μ'.length] μ2 = .ok (.bl true, false) μ3 := e3
          have f6 : exe (callN PP 19) (.frz 6) [.ok (.scr ns), .ok (.int i), .no, .no, .no, .no, .ok (.mut μ'.length), .ok (.int (0 + (m : Int))), .no] μ2 = .ok (.nx [.ok (.scr ns), .ok (.int i), .no, .no, .no, .no, .ok (.mut μ'.length), .ok (.int (0 + (m : Int))), .no]) μ2 := rfl
          have c1 : ev (callN PP 19) (.not (.call 21 [(.var 6)])) [.ok (.scr ns), .ok (.int i), .no, .no, .no, .no, .ok (.mut μ'.length), .ok (.int (0 + (m : Int))), .no] μ2 = .ok (.bl false, .pl) μ3 := by simp [e3']
          refine ⟨_, rfl, [.ok (.scr ns), .ok (.int i), .no, .no, .no, .no, .ok (.mut μ'.length), .ok (.int (0 + (m : Int))), .no], μ3, .inl ?_, hD3, _, rfl⟩
          show exes (callN PP 19) [.frz 6, .ifs (.not (.call 21 [(.var 6)])) [.ret (.c (.bl false))] []] [.ok (.scr ns), .ok (.int i), .no, .no, .no, .no, .ok (.mut μ'.length), .ok (.int (0 + (m : Int))), .no] μ2 = _
          rw [exes_cons, f6, RE.ok_bind, seqK_nx, exes_cons, exe_ifs, c1, RE.ok_bind, iteK_f, exes_nil]
          rfl)
      subst hg2
      have p2 : exe (callN PP 19) (.for_ .range [(.c (.int 3))] (.name 7) [.frz 6, .ifs (.not (.call 21 [(.var 6)])) [.ret (.c (.bl false))] []]) [.ok (.scr ns), .ok (.int i), .no, .no, .no, .no, .ok (.mut μ'.length), y7, .no] (μ' ++ [[.int a, .int b, .int 0]]) = .ok (.nx [.ok (.scr ns), .ok (.int i), .no, .no, .no, .no, .ok (.mut μ'.length), z7, .no]) μ2 := by
        rw [exe_for]
        show forK1 (callN PP 19) (.name 7) [.frz 6, .ifs (.not (.call 21 [(.var 6)])) [.ret (.c (.bl false))] []] [.ok (.scr ns), .ok (.int i), .no, .no, .no, .no, .ok (.mut μ'.length), y7, .no] (iterD .range [.int 3]) _ = _
        rw [show iterD .range [.int 3] = some (intL 0 3) from rfl, forK1_eq]
        exact e2
      refine ⟨_, rfl, _, μ2, .inl ?_, hD2.fl, .ok (.int i), .ok (.mut μ'.length), z7, rfl⟩
      show exes (callN PP 19) [.frz 1, .asg 6 (.newMut (.call 11 [(.var 0), (.var 1)])), .for_ .range [(.c (.int 3))] (.name 7) [.frz 6, .ifs (.not (.call 21 [(.var 6)])) [.ret (.c (.bl false))] []]] [.ok (.scr ns), .ok (.int i), .no, .no, .no, .no, y6, y7, .no] μ' = _
      rw [exes_cons, f1, RE.ok_bind, seqK_nx, exes_cons, p1, RE.ok_bind, seqK_nx, exes_cons, p2]
      rfl)
  subst hg
  have p0 : exe (callN PP 19) (.for_ .range [(.bi .max [(.c (.int 1)), (.bi .min [(.c (.int 8)), (.bi .len [(.var 0)])])])] (.name 1) [.frz 1, .asg 6 (.newMut (.call 11 [(.var 0), (.var 1)])), .for_ .range [(.c (.int 3))] (.name 7) [.frz 6, .ifs (.not (.call 21 [(.var 6)])) [.ret (.c (.bl false))] []]]) [.ok (.scr ns), .no, .no, .no, .no, .no, .no, .no, .no] [] = .ok (.nx [.ok (.scr ns), y1, .no, .no, .no, .no, y6, y7, .no]) μ1 := by
    have q : evs (callN PP 19) [(.bi .max [(.c (.int 1)), (.bi .min [(.c (.int 8)), (.bi .len [(.var 0)])])])] [.ok (.scr ns), .no, .no, .no, .no, .no, .no, .no, .no] [] = .ok [(.int N, .pl)] [] := by
      rw [← hN]
      rfl
    rw [exe_for, q, RE.ok_bind, forK_eq]
    show forK1 (callN PP 19) (.name 1) [.frz 1, .asg 6 (.newMut (.call 11 [(.var 0), (.var 1)])), .for_ .range [(.c (.int 3))] (.name 7) [.frz 6, .ifs (.not (.call 21 [(.var 6)])) [.ret (.c (.bl false))] []]] [.ok (.scr ns), .no, .no, .no, .no, .no, .no, .no, .no] (iterD .range [.int N]) _ = _
    rw [it_rng (by omega), forK1_eq]
    exact e0
  have s1 : D.tup [.tup [.str "letter", .str "a"], .tup [.str "letter", .str "b"], .tup [.str "not", .int 1], .tup [.str "since", .int 2, .int 0]] = sayD S1 := by rw [sa, sb]; rfl
  have s2 : D.tup [.tup [.str "letter", .str "a"], .tup [.str "not", .int 0], .tup [.str "either", .int 0, .int 1], .tup [.str "ahead", .int 2], .tup [.str "not", .int 3]] = sayD S2 := by rw [sa]; rfl
  have s3 : D.tup [.tup [.str "letter", .str "a"], .tup [.str "ahead", .int 0]] = sayD S3 := by rw [sa]; rfl
  have p1 : exe (callN PP 19) (.asg 2 (.tup [(.tup [(.c (.str "letter")), (.c (.str "a"))]), (.tup [(.c (.str "letter")), (.c (.str "b"))]), (.tup [(.c (.str "not")), (.c (.int 1))]), (.tup [(.c (.str "since")), (.c (.int 2)), (.c (.int 0))])])) [.ok (.scr ns), y1, .no, .no, .no, .no, y6, y7, .no] μ1 = .ok (.nx [.ok (.scr ns), y1, .ok (sayD S1), .no, .no, .no, y6, y7, .no]) μ1 := by
    have q : ev (callN PP 19) (.tup [(.tup [(.c (.str "letter")), (.c (.str "a"))]), (.tup [(.c (.str "letter")), (.c (.str "b"))]), (.tup [(.c (.str "not")), (.c (.int 1))]), (.tup [(.c (.str "since")), (.c (.int 2)), (.c (.int 0))])]) [.ok (.scr ns), y1, .no, .no, .no, .no, y6, y7, .no] μ1 = .ok (sayD S1, .pl) μ1 := by
      rw [← s1]
      simp [szv]
    rw [exe_asg, q, RE.ok_bind]
    rfl
  have l1 : lcGo (.name 8) (evc (callN PP 19) none) (ev (callN PP 19) (.call 10 [(.var 2), (.var 8)])) [.ok (.scr ns), y1, .ok (sayD S1), .no, .no, .no, y6, y7, .no] (([[], [97], [97, 99], [97, 98], [97, 98, 97], [98]] : List (List Nat)).map fun w => .str (st w)) [] μ1 = .ok (bls ([[], [97], [97, 99], [97, 98], [97, 98, 97], [98]].map fun w => gt (tr S1 w) 3)) μ1 :=
    lc_words fun w hw => by
      have hA : w.all (AQ.contains ·) = true := by
        have : ∀ w ∈ ([[], [97], [97, 99], [97, 98], [97, 98, 97], [98]] : List (List Nat)), w.all (AQ.contains ·) = true := by decide
        exact this w hw
      have h := holdsC good1 hA hf1 rfl
      simp [h]
  have p4 : exe (callN PP 19) (.asg 3 (.lc [8] .seq [(.tup [(.c (.str "")), (.c (.str "a")), (.c (.str "ac")), (.c (.str "ab")), (.c (.str "aba")), (.c (.str "b"))])] (.name 8) none (.call 10 [(.var 2), (.var 8)]))) [.ok (.scr ns), y1, .ok (sayD S1), .no, .no, .no, y6, y7, .no] μ1 = .ok (.nx [.ok (.scr ns), y1, .ok (sayD S1), .own (bls [false, true, true, false, true, false]), .no, .no, y6, y7, .no]) μ1 := by
    have q : evs (callN PP 19) [(.tup [(.c (.str "")), (.c (.str "a")), (.c (.str "ac")), (.c (.str "ab")), (.c (.str "aba")), (.c (.str "b"))])] [.ok (.scr ns), y1, .ok (sayD S1), .no, .no, .no, y6, y7, .no] μ1 = .ok [(.tup (([[], [97], [97, 99], [97, 98], [97, 98, 97], [98]] : List (List Nat)).map fun w => .str (st w)), .pl)] μ1 := by
      simp [szv, ← w0, ← wa, ← wac, ← wab, ← waba, ← wb]
    have v : ([[], [97], [97, 99], [97, 98], [97, 98, 97], [98]].map fun w => gt (tr S1 w) 3) = [false, true, true, false, true, false] := by decide +kernel
    rw [v] at l1
    rw [exe_asg, ev_lc, q, RE.ok_bind, lcK_eq]
    show ((lcGo (.name 8) (evc (callN PP 19) none) (ev (callN PP 19) (.call 10 [(.var 2), (.var 8)])) [.ok (.scr ns), y1, .ok (sayD S1), .no, .no, .no, y6, y7, .no] (([[], [97], [97, 99], [97, 98], [97, 98, 97], [98]] : List (List Nat)).map fun w => .str (st w)) [] μ1).bind _).bind _ = _
    rw [l1]
    rfl
  have p5 : exe (callN PP 19) (.asg 4 (.tup [(.tup [(.c (.str "letter")), (.c (.str "a"))]), (.tup [(.c (.str "not")), (.c (.int 0))]), (.tup [(.c (.str "either")), (.c (.int 0)), (.c (.int 1))]), (.tup [(.c (.str "ahead")), (.c (.int 2))]), (.tup [(.c (.str "not")), (.c (.int 3))])])) [.ok (.scr ns), y1, .ok (sayD S1), .own (bls [false, true, true, false, true, false]), .no, .no, y6, y7, .no] μ1 = .ok (.nx [.ok (.scr ns), y1, .ok (sayD S1), .own (bls [false, true, true, false, true, false]), .ok (sayD S2), .no, y6, y7, .no]) μ1 := by
    have q : ev (callN PP 19) (.tup [(.tup [(.c (.str "letter")), (.c (.str "a"))]), (.tup [(.c (.str "not")), (.c (.int 0))]), (.tup [(.c (.str "either")), (.c (.int 0)), (.c (.int 1))]), (.tup [(.c (.str "ahead")), (.c (.int 2))]), (.tup [(.c (.str "not")), (.c (.int 3))])]) [.ok (.scr ns), y1, .ok (sayD S1), .own (bls [false, true, true, false, true, false]), .no, .no, y6, y7, .no] μ1 = .ok (sayD S2, .pl) μ1 := by
      rw [← s2]
      simp [szv]
    rw [exe_asg, q, RE.ok_bind]
    rfl
  have l2 : lcGo (.name 8) (evc (callN PP 19) none) (ev (callN PP 19) (.call 10 [(.tup [(.tup [(.c (.str "letter")), (.c (.str "a"))]), (.tup [(.c (.str "ahead")), (.c (.int 0))])]), (.var 8)])) [.ok (.scr ns), y1, .ok (sayD S1), .own (bls [false, true, true, false, true, false]), .ok (sayD S2), .no, y6, y7, .no] (([[], [97], [97, 98], [97, 97], [98, 97]] : List (List Nat)).map fun w => .str (st w)) [] μ1 = .ok (bls ([[], [97], [97, 98], [97, 97], [98, 97]].map fun w => gt (tr S3 w) 1)) μ1 :=
    lc_words fun w hw => by
      have hA : w.all (AQ.contains ·) = true := by
        have : ∀ w ∈ ([[], [97], [97, 98], [97, 97], [98, 97]] : List (List Nat)), w.all (AQ.contains ·) = true := by decide
        exact this w hw
      have h := holdsC good3 hA hf1 rfl
      rw [← s3] at h
      simp [szv, h]
  have p7 : exe (callN PP 19) (.asg 5 (.lc [8] .seq [(.tup [(.c (.str "")), (.c (.str "a")), (.c (.str "ab")), (.c (.str "aa")), (.c (.str "ba"))])] (.name 8) none (.call 10 [(.tup [(.tup [(.c (.str "letter")), (.c (.str "a"))]), (.tup [(.c (.str "ahead")), (.c (.int 0))])]), (.var 8)]))) [.ok (.scr ns), y1, .ok (sayD S1), .own (bls [false, true, true, false, true, false]), .ok (sayD S2), .no, y6, y7, .no] μ1 = .ok (.nx [.ok (.scr ns), y1, .ok (sayD S1), .own (bls [false, true, true, false, true, false]), .ok (sayD S2), .own (bls [false, false, true, true, false]), y6, y7, .no]) μ1 := by
    have q : evs (callN PP 19) [(.tup [(.c (.str "")), (.c (.str "a")), (.c (.str "ab")), (.c (.str "aa")), (.c (.str "ba"))])] [.ok (.scr ns), y1, .ok (sayD S1), .own (bls [false, true, true, false, true, false]), .ok (sayD S2), .no, y6, y7, .no] μ1 = .ok [(.tup (([[], [97], [97, 98], [97, 97], [98, 97]] : List (List Nat)).map fun w => .str (st w)), .pl)] μ1 := by
      simp [szv, ← w0, ← wa, ← wab, ← waa, ← wba]
    have v : ([[], [97], [97, 98], [97, 97], [98, 97]].map fun w => gt (tr S3 w) 1) = [false, false, true, true, false] := by decide +kernel
    rw [v] at l2
    rw [exe_asg, ev_lc, q, RE.ok_bind, lcK_eq]
    show ((lcGo (.name 8) (evc (callN PP 19) none) (ev (callN PP 19) (.call 10 [(.tup [(.tup [(.c (.str "letter")), (.c (.str "a"))]), (.tup [(.c (.str "ahead")), (.c (.int 0))])]), (.var 8)])) [.ok (.scr ns), y1, .ok (sayD S1), .own (bls [false, true, true, false, true, false]), .ok (sayD S2), .no, y6, y7, .no] (([[], [97], [97, 98], [97, 97], [98, 97]] : List (List Nat)).map fun w => .str (st w)) [] μ1).bind _).bind _ = _
    rw [l2]
    rfl
  have h1 : callN PP 19 10 [sayD S2, .str ""] μ1 = .ok (.bl true, false) μ1 := by rw [w0]; exact holdsC good2 rfl hf1 (by decide +kernel)
  have h2 : callN PP 19 10 [sayD S2, .str "b"] μ1 = .ok (.bl false, false) μ1 := by rw [wb]; exact holdsC good2 rfl hf1 (by decide +kernel)
  have p9 : exe (callN PP 19) (.asg 3 (.bin .Add (.var 3) (.lst [(.call 10 [(.var 4), (.c (.str ""))]), (.call 10 [(.var 4), (.c (.str "b"))])]))) [.ok (.scr ns), y1, .ok (sayD S1), .own (bls [false, true, true, false, true, false]), .ok (sayD S2), .own (bls [false, false, true, true, false]), y6, y7, .no] μ1 = .ok (.nx [.ok (.scr ns), y1, .ok (sayD S1), .own (bls [false, true, true, false, true, false, true, false]), .ok (sayD S2), .own (bls [false, false, true, true, false]), y6, y7, .no]) μ1 := by
    have bb := binD_lst (a := bls [false, true, true, false, true, false]) (b := bls [true, false]) (by decide)
    have bb' : binD .Add (.lst (bls [false, true, true, false, true, false])) (.lst [.bl true, .bl false]) = some (.lst (bls [false, true, true, false, true, false, true, false]), .fr) := bb
    simp [szv, h1, h2, bb']
  have p10 : exe (callN PP 19) (.ret (.cmp .Eq (.bin .Add (.var 3) (.var 5)) (.lst [(.c (.bl false)), (.c (.bl true)), (.c (.bl true)), (.c (.bl false)), (.c (.bl true)), (.c (.bl false)), (.c (.bl true)), (.c (.bl false)), (.c (.bl false)), (.c (.bl false)), (.c (.bl true)), (.c (.bl true)), (.c (.bl false))]))) [.ok (.scr ns), y1, .ok (sayD S1), .own (bls [false, true, true, false, true, false, true, false]), .ok (sayD S2), .own (bls [false, false, true, true, false]), y6, y7, .no] μ1 = .ok (.rt (.bl true) false) μ1 := by
    have bb := binD_lst (a := bls [false, true, true, false, true, false, true, false]) (b := bls [false, false, true, true, false]) (by decide)
    have q1 : ev (callN PP 19) (.bin .Add (.var 3) (.var 5)) [.ok (.scr ns), y1, .ok (sayD S1), .own (bls [false, true, true, false, true, false, true, false]), .ok (sayD S2), .own (bls [false, false, true, true, false]), y6, y7, .no] μ1 = .ok (.lst (bls [false, true, true, false, true, false, true, false, false, false, true, true, false]), .fr) μ1 := by
      rw [ev_bin]
      show ((RE.of (binD .Add (.lst (bls [false, true, true, false, true, false, true, false])) (.lst (bls [false, false, true, true, false]))) μ1)) = _
      rw [bb]
      rfl
    have q2 : ev (callN PP 19) (.lst [(.c (.bl false)), (.c (.bl true)), (.c (.bl true)), (.c (.bl false)), (.c (.bl true)), (.c (.bl false)), (.c (.bl true)), (.c (.bl false)), (.c (.bl false)), (.c (.bl false)), (.c (.bl true)), (.c (.bl true)), (.c (.bl false))]) [.ok (.scr ns), y1, .ok (sayD S1), .own (bls [false, true, true, false, true, false, true, false]), .ok (sayD S2), .own (bls [false, false, true, true, false]), y6, y7, .no] μ1 = .ok (.lst (bls [false, true, true, false, true, false, true, false, false, false, true, true, false]), .fr) μ1 := rfl
    rw [exe_ret, ev_cmp, q1, RE.ok_bind, cmpK1_eq, q2, RE.ok_bind, cmpK2_eq, cmpD_eq, eqD_lst_bls]
    rfl
  refine ⟨false, μ1, ?_⟩
  rw [call_eq (df := f_law) rfl rfl]
  show (exes (callN PP 19) [.for_ .range [(.bi .max [(.c (.int 1)), (.bi .min [(.c (.int 8)), (.bi .len [(.var 0)])])])] (.name 1) [.frz 1, .asg 6 (.newMut (.call 11 [(.var 0), (.var 1)])), .for_ .range [(.c (.int 3))] (.name 7) [.frz 6, .ifs (.not (.call 21 [(.var 6)])) [.ret (.c (.bl false))] []]], .asg 2 (.tup [(.tup [(.c (.str "letter")), (.c (.str "a"))]), (.tup [(.c (.str "letter")), (.c (.str "b"))]), (.tup [(.c (.str "not")), (.c (.int 1))]), (.tup [(.c (.str "since")), (.c (.int 2)), (.c (.int 0))])]), .frz 2, .frz 8, .asg 3 (.lc [8] .seq [(.tup [(.c (.str "")), (.c (.str "a")), (.c (.str "ac")), (.c (.str "ab")), (.c (.str "aba")), (.c (.str "b"))])] (.name 8) none (.call 10 [(.var 2), (.var 8)])), .asg 4 (.tup [(.tup [(.c (.str "letter")), (.c (.str "a"))]), (.tup [(.c (.str "not")), (.c (.int 0))]), (.tup [(.c (.str "either")), (.c (.int 0)), (.c (.int 1))]), (.tup [(.c (.str "ahead")), (.c (.int 2))]), (.tup [(.c (.str "not")), (.c (.int 3))])]), .frz 8, .asg 5 (.lc [8] .seq [(.tup [(.c (.str "")), (.c (.str "a")), (.c (.str "ab")), (.c (.str "aa")), (.c (.str "ba"))])] (.name 8) none (.call 10 [(.tup [(.tup [(.c (.str "letter")), (.c (.str "a"))]), (.tup [(.c (.str "ahead")), (.c (.int 0))])]), (.var 8)])), .frz 4, .asg 3 (.bin .Add (.var 3) (.lst [(.call 10 [(.var 4), (.c (.str ""))]), (.call 10 [(.var 4), (.c (.str "b"))])])), .ret (.cmp .Eq (.bin .Add (.var 3) (.var 5)) (.lst [(.c (.bl false)), (.c (.bl true)), (.c (.bl true)), (.c (.bl false)), (.c (.bl true)), (.c (.bl false)), (.c (.bl true)), (.c (.bl false)), (.c (.bl false)), (.c (.bl false)), (.c (.bl true)), (.c (.bl true)), (.c (.bl false))]))] [.ok (.scr ns), .no, .no, .no, .no, .no, .no, .no, .no] []).bind endK = _
  have f2 : exe (callN PP 19) (.frz 2) [.ok (.scr ns), y1, .ok (sayD S1), .no, .no, .no, y6, y7, .no] μ1 = .ok (.nx [.ok (.scr ns), y1, .ok (sayD S1), .no, .no, .no, y6, y7, .no]) μ1 := rfl
  have f8 : exe (callN PP 19) (.frz 8) [.ok (.scr ns), y1, .ok (sayD S1), .no, .no, .no, y6, y7, .no] μ1 = .ok (.nx [.ok (.scr ns), y1, .ok (sayD S1), .no, .no, .no, y6, y7, .no]) μ1 := rfl
  have f8' : exe (callN PP 19) (.frz 8) [.ok (.scr ns), y1, .ok (sayD S1), .own (bls [false, true, true, false, true, false]), .ok (sayD S2), .no, y6, y7, .no] μ1 = .ok (.nx [.ok (.scr ns), y1, .ok (sayD S1), .own (bls [false, true, true, false, true, false]), .ok (sayD S2), .no, y6, y7, .no]) μ1 := rfl
  have f4 : exe (callN PP 19) (.frz 4) [.ok (.scr ns), y1, .ok (sayD S1), .own (bls [false, true, true, false, true, false]), .ok (sayD S2), .own (bls [false, false, true, true, false]), y6, y7, .no] μ1 = .ok (.nx [.ok (.scr ns), y1, .ok (sayD S1), .own (bls [false, true, true, false, true, false]), .ok (sayD S2), .own (bls [false, false, true, true, false]), y6, y7, .no]) μ1 := rfl
  rw [exes_cons, p0, RE.ok_bind, seqK_nx, exes_cons, p1, RE.ok_bind, seqK_nx, exes_cons, f2, RE.ok_bind, seqK_nx, exes_cons, f8, RE.ok_bind, seqK_nx, exes_cons, p4, RE.ok_bind, seqK_nx, exes_cons, p5, RE.ok_bind, seqK_nx,
    exes_cons, f8', RE.ok_bind, seqK_nx, exes_cons, p7, RE.ok_bind, seqK_nx, exes_cons, f4, RE.ok_bind, seqK_nx, exes_cons, p9, RE.ok_bind, seqK_nx, exes_cons, p10, RE.ok_bind, seqK_rt]
  rfl
end NT.Law

set_option Elab.async false
set_option linter.all false
set_option maxRecDepth 100000
set_option maxHeartbeats 4000000
set_option autoImplicit false
namespace NT.Law
open PySem PySem.Spec PyProof.Rows L2 NT

theorem all_mk {l : PySem.W.OpenLaw} {w : World} {K : PySem.W.Frag} {h : Heap} {mg : Str → Option Value} {fa : Addr} (X : K.In h) (G : h.Ns mainGlobals mg) (hfa : mg "law" = some (.ref fa))
    {f0 : Addr} {od0 an0 : Option Addr} {sl0 : Array (Option Value)} {oc0 kV0 dc0 pm0 cd0 ct0 : Value}
    {f1 : Addr} {od1 an1 : Option Addr} {sl1 : Array (Option Value)} {oc1 kV1 dc1 pm1 cd1 ct1 : Value}
    {f2 : Addr} {od2 an2 : Option Addr} {sl2 : Array (Option Value)} {oc2 kV2 dc2 pm2 cd2 ct2 : Value}
    {f3 : Addr} {od3 an3 : Option Addr} {sl3 : Array (Option Value)} {oc3 kV3 dc3 pm3 cd3 ct3 : Value}
    {f4 : Addr} {od4 an4 : Option Addr} {sl4 : Array (Option Value)} {oc4 kV4 dc4 pm4 cd4 ct4 : Value}
    {f5 : Addr} {od5 an5 : Option Addr} {sl5 : Array (Option Value)} {oc5 kV5 dc5 pm5 cd5 ct5 : Value}
    {f6 : Addr} {od6 an6 : Option Addr} {sl6 : Array (Option Value)} {oc6 kV6 dc6 pm6 cd6 ct6 : Value}
    {f7 : Addr} {od7 an7 : Option Addr} {sl7 : Array (Option Value)} {oc7 kV7 dc7 pm7 cd7 ct7 : Value}
    {f8 : Addr} {od8 an8 : Option Addr} {sl8 : Array (Option Value)} {oc8 kV8 dc8 pm8 cd8 ct8 : Value}
    {f9 : Addr} {od9 an9 : Option Addr} {sl9 : Array (Option Value)} {oc9 kV9 dc9 pm9 cd9 ct9 : Value}
    {f10 : Addr} {od10 an10 : Option Addr} {sl10 : Array (Option Value)} {oc10 kV10 dc10 pm10 cd10 ct10 : Value}
    {f11 : Addr} {od11 an11 : Option Addr} {sl11 : Array (Option Value)} {oc11 kV11 dc11 pm11 cd11 ct11 : Value}
    {f12 : Addr} {od12 an12 : Option Addr} {sl12 : Array (Option Value)} {oc12 kV12 dc12 pm12 cd12 ct12 : Value}
    {f13 : Addr} {od13 an13 : Option Addr} {sl13 : Array (Option Value)} {oc13 kV13 dc13 pm13 cd13 ct13 : Value}
    {f14 : Addr} {od14 an14 : Option Addr} {sl14 : Array (Option Value)} {oc14 kV14 dc14 pm14 cd14 ct14 : Value}
    {f15 : Addr} {od15 an15 : Option Addr} {sl15 : Array (Option Value)} {oc15 kV15 dc15 pm15 cd15 ct15 : Value}
    {f16 : Addr} {od16 an16 : Option Addr} {sl16 : Array (Option Value)} {oc16 kV16 dc16 pm16 cd16 ct16 : Value}
    {f17 : Addr} {od17 an17 : Option Addr} {sl17 : Array (Option Value)} {oc17 kV17 dc17 pm17 cd17 ct17 : Value}
    {f18 : Addr} {od18 an18 : Option Addr} {sl18 : Array (Option Value)} {oc18 kV18 dc18 pm18 cd18 ct18 : Value}
    {f19 : Addr} {od19 an19 : Option Addr} {sl19 : Array (Option Value)} {oc19 kV19 dc19 pm19 cd19 ct19 : Value}
    {f20 : Addr} {od20 an20 : Option Addr} {sl20 : Array (Option Value)} {oc20 kV20 dc20 pm20 cd20 ct20 : Value}
    {f21 : Addr} {od21 an21 : Option Addr} {sl21 : Array (Option Value)} {oc21 kV21 dc21 pm21 cd21 ct21 : Value}
    {f22 : Addr} {od22 an22 : Option Addr} {sl22 : Array (Option Value)} {oc22 kV22 dc22 pm22 cd22 ct22 : Value}
    {t_AHEAD : Tok} {t_EITHER : Tok} {t_LETTER : Tok} {t_LETTERS : Tok} {t_NOT : Tok}
    (a0 : PySem.W.nsIn K mainGlobals "is_integer" = some (some (.ref f0))) (l0 : K.lookup f0 = some ⟨oc0, od0, .func (PySem.W.fnOf "is_integer" "is_integer" (defArgs s_is_integer) (defBody s_is_integer) (defScope s_is_integer) .none kV0 dc0 pm0 an0 cd0 ct0), sl0⟩) (c0 : PySem.W.codeIn K cd0 "is_integer" = true) (k0 : PySem.W.keepIn K (.ref f0) = true)
    (a1 : PySem.W.nsIn K mainGlobals "is_word" = some (some (.ref f1))) (l1 : K.lookup f1 = some ⟨oc1, od1, .func (PySem.W.fnOf "is_word" "is_word" (defArgs s_is_word) (defBody s_is_word) (defScope s_is_word) .none kV1 dc1 pm1 an1 cd1 ct1), sl1⟩) (c1 : PySem.W.codeIn K cd1 "is_word" = true) (k1 : PySem.W.keepIn K (.ref f1) = true)
    (a2 : PySem.W.nsIn K mainGlobals "require_word" = some (some (.ref f2))) (l2 : K.lookup f2 = some ⟨oc2, od2, .func (PySem.W.fnOf "require_word" "require_word" (defArgs s_require_word) (defBody s_require_word) (defScope s_require_word) .none kV2 dc2 pm2 an2 cd2 ct2), sl2⟩) (c2 : PySem.W.codeIn K cd2 "require_word" = true) (k2 : PySem.W.keepIn K (.ref f2) = true)
    (a3 : PySem.W.nsIn K mainGlobals "is_said_step" = some (some (.ref f3))) (l3 : K.lookup f3 = some ⟨oc3, od3, .func (PySem.W.fnOf "is_said_step" "is_said_step" (defArgs s_is_said_step) (defBody s_is_said_step) (defScope s_is_said_step) .none kV3 dc3 pm3 an3 cd3 ct3), sl3⟩) (c3 : PySem.W.codeIn K cd3 "is_said_step" = true) (k3 : PySem.W.keepIn K (.ref f3) = true)
    (a4 : PySem.W.nsIn K mainGlobals "is_saying" = some (some (.ref f4))) (l4 : K.lookup f4 = some ⟨oc4, od4, .func (PySem.W.fnOf "is_saying" "is_saying" (defArgs s_is_saying) (defBody s_is_saying) (defScope s_is_saying) .none kV4 dc4 pm4 an4 cd4 ct4), sl4⟩) (c4 : PySem.W.codeIn K cd4 "is_saying" = true) (k4 : PySem.W.keepIn K (.ref f4) = true)
    (a5 : PySem.W.nsIn K mainGlobals "require_saying" = some (some (.ref f5))) (l5 : K.lookup f5 = some ⟨oc5, od5, .func (PySem.W.fnOf "require_saying" "require_saying" (defArgs s_require_saying) (defBody s_require_saying) (defScope s_require_saying) .none kV5 dc5 pm5 an5 cd5 ct5), sl5⟩) (c5 : PySem.W.codeIn K cd5 "require_saying" = true) (k5 : PySem.W.keepIn K (.ref f5) = true)
    (a6 : PySem.W.nsIn K mainGlobals "step_truth" = some (some (.ref f6))) (l6 : K.lookup f6 = some ⟨oc6, od6, .func (PySem.W.fnOf "step_truth" "step_truth" (defArgs s_step_truth) (defBody s_step_truth) (defScope s_step_truth) .none kV6 dc6 pm6 an6 cd6 ct6), sl6⟩) (c6 : PySem.W.codeIn K cd6 "step_truth" = true) (k6 : PySem.W.keepIn K (.ref f6) = true)
    (a7 : PySem.W.nsIn K mainGlobals "truths_behind" = some (some (.ref f7))) (l7 : K.lookup f7 = some ⟨oc7, od7, .func (PySem.W.fnOf "truths_behind" "truths_behind" (defArgs s_truths_behind) (defBody s_truths_behind) (defScope s_truths_behind) .none kV7 dc7 pm7 an7 cd7 ct7), sl7⟩) (c7 : PySem.W.codeIn K cd7 "truths_behind" = true) (k7 : PySem.W.keepIn K (.ref f7) = true)
    (a8 : PySem.W.nsIn K mainGlobals "truths_in" = some (some (.ref f8))) (l8 : K.lookup f8 = some ⟨oc8, od8, .func (PySem.W.fnOf "truths_in" "truths_in" (defArgs s_truths_in) (defBody s_truths_in) (defScope s_truths_in) .none kV8 dc8 pm8 an8 cd8 ct8), sl8⟩) (c8 : PySem.W.codeIn K cd8 "truths_in" = true) (k8 : PySem.W.keepIn K (.ref f8) = true)
    (a9 : PySem.W.nsIn K mainGlobals "truths" = some (some (.ref f9))) (l9 : K.lookup f9 = some ⟨oc9, od9, .func (PySem.W.fnOf "truths" "truths" (defArgs s_truths) (defBody s_truths) (defScope s_truths) .none kV9 dc9 pm9 an9 cd9 ct9), sl9⟩) (c9 : PySem.W.codeIn K cd9 "truths" = true) (k9 : PySem.W.keepIn K (.ref f9) = true)
    (a10 : PySem.W.nsIn K mainGlobals "holds" = some (some (.ref f10))) (l10 : K.lookup f10 = some ⟨oc10, od10, .func (PySem.W.fnOf "holds" "holds" (defArgs s_holds) (defBody s_holds) (defScope s_holds) .none kV10 dc10 pm10 an10 cd10 ct10), sl10⟩) (c10 : PySem.W.codeIn K cd10 "holds" = true) (k10 : PySem.W.keepIn K (.ref f10) = true)
    (a11 : PySem.W.nsIn K mainGlobals "_law_dice" = some (some (.ref f11))) (l11 : K.lookup f11 = some ⟨oc11, od11, .func (PySem.W.fnOf "_law_dice" "_law_dice" (defArgs s__law_dice) (defBody s__law_dice) (defScope s__law_dice) .none kV11 dc11 pm11 an11 cd11 ct11), sl11⟩) (c11 : PySem.W.codeIn K cd11 "_law_dice" = true) (k11 : PySem.W.keepIn K (.ref f11) = true)
    (a12 : PySem.W.nsIn K mainGlobals "_law_roll" = some (some (.ref f12))) (l12 : K.lookup f12 = some ⟨oc12, od12, .func (PySem.W.fnOf "_law_roll" "_law_roll" (defArgs s__law_roll) (defBody s__law_roll) (defScope s__law_roll) .none kV12 dc12 pm12 an12 cd12 ct12), sl12⟩) (c12 : PySem.W.codeIn K cd12 "_law_roll" = true) (k12 : PySem.W.keepIn K (.ref f12) = true)
    (a13 : PySem.W.nsIn K mainGlobals "_law_one_of" = some (some (.ref f13))) (l13 : K.lookup f13 = some ⟨oc13, od13, .func (PySem.W.fnOf "_law_one_of" "_law_one_of" (defArgs s__law_one_of) (defBody s__law_one_of) (defScope s__law_one_of) .none kV13 dc13 pm13 an13 cd13 ct13), sl13⟩) (c13 : PySem.W.codeIn K cd13 "_law_one_of" = true) (k13 : PySem.W.keepIn K (.ref f13) = true)
    (a14 : PySem.W.nsIn K mainGlobals "_law_mixed" = some (some (.ref f14))) (l14 : K.lookup f14 = some ⟨oc14, od14, .func (PySem.W.fnOf "_law_mixed" "_law_mixed" (defArgs s__law_mixed) (defBody s__law_mixed) (defScope s__law_mixed) .none kV14 dc14 pm14 an14 cd14 ct14), sl14⟩) (c14 : PySem.W.codeIn K cd14 "_law_mixed" = true) (k14 : PySem.W.keepIn K (.ref f14) = true)
    (a15 : PySem.W.nsIn K mainGlobals "_law_letters" = some (some (.ref f15))) (l15 : K.lookup f15 = some ⟨oc15, od15, .func (PySem.W.fnOf "_law_letters" "_law_letters" (defArgs s__law_letters) (defBody s__law_letters) (defScope s__law_letters) .none kV15 dc15 pm15 an15 cd15 ct15), sl15⟩) (c15 : PySem.W.codeIn K cd15 "_law_letters" = true) (k15 : PySem.W.keepIn K (.ref f15) = true)
    (a16 : PySem.W.nsIn K mainGlobals "_law_word" = some (some (.ref f16))) (l16 : K.lookup f16 = some ⟨oc16, od16, .func (PySem.W.fnOf "_law_word" "_law_word" (defArgs s__law_word) (defBody s__law_word) (defScope s__law_word) .none kV16 dc16 pm16 an16 cd16 ct16), sl16⟩) (c16 : PySem.W.codeIn K cd16 "_law_word" = true) (k16 : PySem.W.keepIn K (.ref f16) = true)
    (a17 : PySem.W.nsIn K mainGlobals "_law_saying" = some (some (.ref f17))) (l17 : K.lookup f17 = some ⟨oc17, od17, .func (PySem.W.fnOf "_law_saying" "_law_saying" (defArgs s__law_saying) (defBody s__law_saying) (defScope s__law_saying) .none kV17 dc17 pm17 an17 cd17 ct17), sl17⟩) (c17 : PySem.W.codeIn K cd17 "_law_saying" = true) (k17 : PySem.W.keepIn K (.ref f17) = true)
    (a18 : PySem.W.nsIn K mainGlobals "_law_table_of" = some (some (.ref f18))) (l18 : K.lookup f18 = some ⟨oc18, od18, .func (PySem.W.fnOf "_law_table_of" "_law_table_of" (defArgs s__law_table_of) (defBody s__law_table_of) (defScope s__law_table_of) .none kV18 dc18 pm18 an18 cd18 ct18), sl18⟩) (c18 : PySem.W.codeIn K cd18 "_law_table_of" = true) (k18 : PySem.W.keepIn K (.ref f18) = true)
    (a19 : PySem.W.nsIn K mainGlobals "_law_holds" = some (some (.ref f19))) (l19 : K.lookup f19 = some ⟨oc19, od19, .func (PySem.W.fnOf "_law_holds" "_law_holds" (defArgs s__law_holds) (defBody s__law_holds) (defScope s__law_holds) .none kV19 dc19 pm19 an19 cd19 ct19), sl19⟩) (c19 : PySem.W.codeIn K cd19 "_law_holds" = true) (k19 : PySem.W.keepIn K (.ref f19) = true)
    (a20 : PySem.W.nsIn K mainGlobals "_law_odd" = some (some (.ref f20))) (l20 : K.lookup f20 = some ⟨oc20, od20, .func (PySem.W.fnOf "_law_odd" "_law_odd" (defArgs s__law_odd) (defBody s__law_odd) (defScope s__law_odd) .none kV20 dc20 pm20 an20 cd20 ct20), sl20⟩) (c20 : PySem.W.codeIn K cd20 "_law_odd" = true) (k20 : PySem.W.keepIn K (.ref f20) = true)
    (a21 : PySem.W.nsIn K mainGlobals "_law_right" = some (some (.ref f21))) (l21 : K.lookup f21 = some ⟨oc21, od21, .func (PySem.W.fnOf "_law_right" "_law_right" (defArgs s__law_right) (defBody s__law_right) (defScope s__law_right) .none kV21 dc21 pm21 an21 cd21 ct21), sl21⟩) (c21 : PySem.W.codeIn K cd21 "_law_right" = true) (k21 : PySem.W.keepIn K (.ref f21) = true)
    (a22 : PySem.W.nsIn K mainGlobals "law" = some (some (.ref f22))) (l22 : K.lookup f22 = some ⟨oc22, od22, .func (PySem.W.fnOf "law" "law" (defArgs s_law) (defBody s_law) (defScope s_law) .none kV22 dc22 pm22 an22 cd22 ct22), sl22⟩) (c22 : PySem.W.codeIn K cd22 "law" = true) (k22 : PySem.W.keepIn K (.ref f22) = true)
    (z_abs : PySem.W.nsIn K mainGlobals "abs" = some none)
    (z_all : PySem.W.nsIn K mainGlobals "all" = some none)
    (z_bool : PySem.W.nsIn K mainGlobals "bool" = some none)
    (z_enumerate : PySem.W.nsIn K mainGlobals "enumerate" = some none)
    (z_int : PySem.W.nsIn K mainGlobals "int" = some none)
    (z_isinstance : PySem.W.nsIn K mainGlobals "isinstance" = some none)
    (z_len : PySem.W.nsIn K mainGlobals "len" = some none)
    (z_list : PySem.W.nsIn K mainGlobals "list" = some none)
    (z_max : PySem.W.nsIn K mainGlobals "max" = some none)
    (z_min : PySem.W.nsIn K mainGlobals "min" = some none)
    (z_range : PySem.W.nsIn K mainGlobals "range" = some none)
    (z_repr : PySem.W.nsIn K mainGlobals "repr" = some none)
    (z_sorted : PySem.W.nsIn K mainGlobals "sorted" = some none)
    (z_str : PySem.W.nsIn K mainGlobals "str" = some none)
    (z_tuple : PySem.W.nsIn K mainGlobals "tuple" = some none)
    (z_zip : PySem.W.nsIn K mainGlobals "zip" = some none)
    (y_AHEAD : PySem.W.nsIn K mainGlobals "AHEAD" = some (some (.str "ahead" t_AHEAD)))
    (y_EITHER : PySem.W.nsIn K mainGlobals "EITHER" = some (some (.str "either" t_EITHER)))
    (y_LETTER : PySem.W.nsIn K mainGlobals "LETTER" = some (some (.str "letter" t_LETTER)))
    (y_LETTERS : PySem.W.nsIn K mainGlobals "LETTERS" = some (some (.str "abcdefghijklmnopqrstuvwxyz" t_LETTERS)))
    (y_NOT : PySem.W.nsIn K mainGlobals "NOT" = some (some (.str "not" t_NOT)))
    : ∃ fd : FuncData, (∀ (s : Shared) (v : Value), BindsTo s fd ⟨[v], []⟩ [("script", v)]) ∧ ∀ base : Heap, K.In base → base.Ns mainGlobals mg → FnOk l.prog w K mg base CX0 20 fa fd ["script"] (spD K (callN PP 20) 22 1) := by
  have e := hfa.symm.trans (PySem.W.mg_of X G a22)
  cases e
  have F0 := fun_mk (st := s_is_integer) l0 c0 k0
  have B0 := F0.binds (ps := ["value", "least", "most"]) fun _ _ _ _ _ _ us hl => match us, hl with | [_, _, _], _ => rfl
  have F1 := fun_mk (st := s_is_word) l1 c1 k1
  have B1 := F1.binds (ps := ["value"]) fun _ _ _ _ _ _ us hl => match us, hl with | [_], _ => rfl
  have F2 := fun_mk (st := s_require_word) l2 c2 k2
  have B2 := F2.binds (ps := ["value"]) fun _ _ _ _ _ _ us hl => match us, hl with | [_], _ => rfl
  have F3 := fun_mk (st := s_is_said_step) l3 c3 k3
  have B3 := F3.binds (ps := ["value", "at"]) fun _ _ _ _ _ _ us hl => match us, hl with | [_, _], _ => rfl
  have F4 := fun_mk (st := s_is_saying) l4 c4 k4
  have B4 := F4.binds (ps := ["value"]) fun _ _ _ _ _ _ us hl => match us, hl with | [_], _ => rfl
  have F5 := fun_mk (st := s_require_saying) l5 c5 k5
  have B5 := F5.binds (ps := ["value"]) fun _ _ _ _ _ _ us hl => match us, hl with | [_], _ => rfl
  have F6 := fun_mk (st := s_step_truth) l6 c6 k6
  have B6 := F6.binds (ps := ["step", "found", "before", "letter"]) fun _ _ _ _ _ _ us hl => match us, hl with | [_, _, _, _], _ => rfl
  have F7 := fun_mk (st := s_truths_behind) l7 c7 k7
  have B7 := F7.binds (ps := ["saying", "before", "letter"]) fun _ _ _ _ _ _ us hl => match us, hl with | [_, _, _], _ => rfl
  have F8 := fun_mk (st := s_truths_in) l8 c8 k8
  have B8 := F8.binds (ps := ["saying", "word"]) fun _ _ _ _ _ _ us hl => match us, hl with | [_, _], _ => rfl
  have F9 := fun_mk (st := s_truths) l9 c9 k9
  have B9 := F9.binds (ps := ["saying", "word"]) fun _ _ _ _ _ _ us hl => match us, hl with | [_, _], _ => rfl
  have F10 := fun_mk (st := s_holds) l10 c10 k10
  have B10 := F10.binds (ps := ["saying", "word"]) fun _ _ _ _ _ _ us hl => match us, hl with | [_, _], _ => rfl
  have F11 := fun_mk (st := s__law_dice) l11 c11 k11
  have B11 := F11.binds (ps := ["script", "at"]) fun _ _ _ _ _ _ us hl => match us, hl with | [_, _], _ => rfl
  have F12 := fun_mk (st := s__law_roll) l12 c12 k12
  have B12 := F12.binds (ps := ["dice", "total"]) fun _ _ _ _ _ _ us hl => match us, hl with | [_, _], _ => rfl
  have F13 := fun_mk (st := s__law_one_of) l13 c13 k13
  have B13 := F13.binds (ps := ["dice", "items"]) fun _ _ _ _ _ _ us hl => match us, hl with | [_, _], _ => rfl
  have F14 := fun_mk (st := s__law_mixed) l14 c14 k14
  have B14 := F14.binds (ps := ["dice", "items"]) fun _ _ _ _ _ _ us hl => match us, hl with | [_, _], _ => rfl
  have F15 := fun_mk (st := s__law_letters) l15 c15 k15
  have B15 := F15.binds (ps := ["dice", "total"]) fun _ _ _ _ _ _ us hl => match us, hl with | [_, _], _ => rfl
  have F16 := fun_mk (st := s__law_word) l16 c16 k16
  have B16 := F16.binds (ps := ["dice", "letters", "most"]) fun _ _ _ _ _ _ us hl => match us, hl with | [_, _, _], _ => rfl
  have F17 := fun_mk (st := s__law_saying) l17 c17 k17
  have B17 := F17.binds (ps := ["dice", "letters", "most"]) fun _ _ _ _ _ _ us hl => match us, hl with | [_, _, _], _ => rfl
  have F18 := fun_mk (st := s__law_table_of) l18 c18 k18
  have B18 := F18.binds (ps := ["saying", "word"]) fun _ _ _ _ _ _ us hl => match us, hl with | [_, _], _ => rfl
  have F19 := fun_mk (st := s__law_holds) l19 c19 k19
  have B19 := F19.binds (ps := ["saying", "word"]) fun _ _ _ _ _ _ us hl => match us, hl with | [_, _], _ => rfl
  have F20 := fun_mk (st := s__law_odd) l20 c20 k20
  have B20 := F20.binds (ps := ["dice", "saying"]) fun _ _ _ _ _ _ us hl => match us, hl with | [_, _], _ => rfl
  have F21 := fun_mk (st := s__law_right) l21 c21 k21
  have B21 := F21.binds (ps := ["dice"]) fun _ _ _ _ _ _ us hl => match us, hl with | [_], _ => rfl
  have F22 := fun_mk (st := s_law) l22 c22 k22
  have B22 := F22.binds (ps := ["script"]) fun _ _ _ _ _ _ us hl => match us, hl with | [_], _ => rfl
  have T : Fcts K mg := ⟨⟨_, _, F0, PySem.W.mg_of X G a0, B0⟩, ⟨_, _, F1, PySem.W.mg_of X G a1, B1⟩, ⟨_, _, F2, PySem.W.mg_of X G a2, B2⟩, ⟨_, _, F3, PySem.W.mg_of X G a3, B3⟩, ⟨_, _, F4, PySem.W.mg_of X G a4, B4⟩, ⟨_, _, F5, PySem.W.mg_of X G a5, B5⟩, ⟨_, _, F6, PySem.W.mg_of X G a6, B6⟩, ⟨_, _, F7, PySem.W.mg_of X G a7, B7⟩, ⟨_, _, F8, PySem.W.mg_of X G a8, B8⟩, ⟨_, _, F9, PySem.W.mg_of X G a9, B9⟩, ⟨_, _, F10, PySem.W.mg_of X G a10, B10⟩, ⟨_, _, F11, PySem.W.mg_of X G a11, B11⟩, ⟨_, _, F12, PySem.W.mg_of X G a12, B12⟩, ⟨_, _, F13, PySem.W.mg_of X G a13, B13⟩, ⟨_, _, F14, PySem.W.mg_of X G a14, B14⟩, ⟨_, _, F15, PySem.W.mg_of X G a15, B15⟩, ⟨_, _, F16, PySem.W.mg_of X G a16, B16⟩, ⟨_, _, F17, PySem.W.mg_of X G a17, B17⟩, ⟨_, _, F18, PySem.W.mg_of X G a18, B18⟩, ⟨_, _, F19, PySem.W.mg_of X G a19, B19⟩, ⟨_, _, F20, PySem.W.mg_of X G a20, B20⟩, ⟨_, _, F21, PySem.W.mg_of X G a21, B21⟩, ⟨_, _, F22, PySem.W.mg_of X G a22, B22⟩, PySem.W.mg_none_of X G z_abs, PySem.W.mg_none_of X G z_all, PySem.W.mg_none_of X G z_bool, PySem.W.mg_none_of X G z_enumerate, PySem.W.mg_none_of X G z_int, PySem.W.mg_none_of X G z_isinstance, PySem.W.mg_none_of X G z_len, PySem.W.mg_none_of X G z_list, PySem.W.mg_none_of X G z_max, PySem.W.mg_none_of X G z_min, PySem.W.mg_none_of X G z_range, PySem.W.mg_none_of X G z_repr, PySem.W.mg_none_of X G z_sorted, PySem.W.mg_none_of X G z_str, PySem.W.mg_none_of X G z_tuple, PySem.W.mg_none_of X G z_zip, ⟨_, PySem.W.mg_of X G y_AHEAD⟩, ⟨_, PySem.W.mg_of X G y_EITHER⟩, ⟨_, PySem.W.mg_of X G y_LETTER⟩, ⟨_, PySem.W.mg_of X G y_LETTERS⟩, ⟨_, PySem.W.mg_of X G y_NOT⟩⟩
  exact ⟨_, fun s v => .of_eq rfl, fun base _ _ => df_ok (df := f_law) F22 sc_law rfl rfl rfl (fun _ _ _ _ _ _ hr => b_law (glb T base 19) hr)⟩
theorem walk {l : PySem.W.OpenLaw} {q : Program} {loose : List Str} {XP : (Str → Option Value) → Heap → Prop} {YP : World → Heap → Prop} {d : DefRec} {K : Params → PySem.W.Frag} (hn : l.most = some 63) (hdf : d.params.defaults = [])
    (hY : ∀ (w : World) (h : Heap), YP w h → (K w.params).In h)
    (F : ∀ (w : World) (mg : Str → Option Value) (fa : Addr) (h : Heap), (K w.params).In h → h.Ns mainGlobals mg → mg d.name = some (.ref fa) →
      ∃ fd : FuncData, (∀ (s : Shared) (u : Value), BindsTo s fd ⟨[u], []⟩ [("script", u)]) ∧ ∀ base : Heap, (K w.params).In base → base.Ns mainGlobals mg → FnOk l.prog w (K w.params) mg base CX0 20 fa fd ["script"] (spD (K w.params) (callN PP 20) 22 1)) :
    PySem.W.WalkO q loose XP YP l.row.toRowW d [] (fun f vs => PySem.call f vs) :=
  L2.walk_of (n := 63) (k := 20) (x := "script") (CX := fun _ => CX0) (sp := fun w => spD (K w.params) (callN PP 20) 22 1) hn (by decide) hdf ⟨rfl, by decide, by decide⟩ hY F (fun _ _ a ns hl hO hS => let ⟨_, _, h⟩ := run_all ns hl; sp_law hO hS h) fun _ _ _ _ _ z => z
end NT.Law
open PySem PySem.W PyProof.Rows
set_option maxRecDepth 100000 in
set_option maxHeartbeats 0 in
theorem PySem.Challenge.cw_neverturns_k86_sayings_and_their_truths_holds : PySem.Challenge.rw_neverturns_k86_sayings_and_their_truths.Holds := by
  w_on; o_law; k_head; (case hw => w_witness2)
  k_fill
  refine NT.Law.walk (l := PySem.Challenge.rw_neverturns_k86_sayings_and_their_truths) rfl rfl (fun w h Y => PySem.W.kIn_of Y) ?F
  case F =>
    intro w mg fa h KX G hmg
    refine' NT.Law.all_mk KX G hmg ?a0 ?l0 ?c0 ?k0 ?a1 ?l1 ?c1 ?k1 ?a2 ?l2 ?c2 ?k2 ?a3 ?l3 ?c3 ?k3 ?a4 ?l4 ?c4 ?k4 ?a5 ?l5 ?c5 ?k5 ?a6 ?l6 ?c6 ?k6 ?a7 ?l7 ?c7 ?k7 ?a8 ?l8 ?c8 ?k8 ?a9 ?l9 ?c9 ?k9 ?a10 ?l10 ?c10 ?k10 ?a11 ?l11 ?c11 ?k11 ?a12 ?l12 ?c12 ?k12 ?a13 ?l13 ?c13 ?k13 ?a14 ?l14 ?c14 ?k14 ?a15 ?l15 ?c15 ?k15 ?a16 ?l16 ?c16 ?k16 ?a17 ?l17 ?c17 ?k17 ?a18 ?l18 ?c18 ?k18 ?a19 ?l19 ?c19 ?k19 ?a20 ?l20 ?c20 ?k20 ?a21 ?l21 ?c21 ?k21 ?a22 ?l22 ?c22 ?k22 ?z_abs ?z_all ?z_bool ?z_enumerate ?z_int ?z_isinstance ?z_len ?z_list ?z_max ?z_min ?z_range ?z_repr ?z_sorted ?z_str ?z_tuple ?z_zip ?y_AHEAD ?y_EITHER ?y_LETTER ?y_LETTERS ?y_NOT
    (case a0 => k_is)
    (case l0 => k_is)
    (case c0 => k_is)
    (case k0 => k_is)
    (case a1 => k_is)
    (case l1 => k_is)
    (case c1 => k_is)
    (case k1 => k_is)
    (case a2 => k_is)
    (case l2 => k_is)
    (case c2 => k_is)
    (case k2 => k_is)
    (case a3 => k_is)
    (case l3 => k_is)
    (case c3 => k_is)
    (case k3 => k_is)
    (case a4 => k_is)
    (case l4 => k_is)
    (case c4 => k_is)
    (case k4 => k_is)
    (case a5 => k_is)
    (case l5 => k_is)
    (case c5 => k_is)
    (case k5 => k_is)
    (case a6 => k_is)
    (case l6 => k_is)
    (case c6 => k_is)
    (case k6 => k_is)
    (case a7 => k_is)
    (case l7 => k_is)
    (case c7 => k_is)
    (case k7 => k_is)
    (case a8 => k_is)
    (case l8 => k_is)
    (case c8 => k_is)
    (case k8 => k_is)
    (case a9 => k_is)
    (case l9 => k_is)
    (case c9 => k_is)
    (case k9 => k_is)
    (case a10 => k_is)
    (case l10 => k_is)
    (case c10 => k_is)
    (case k10 => k_is)
    (case a11 => k_is)
    (case l11 => k_is)
    (case c11 => k_is)
    (case k11 => k_is)
    (case a12 => k_is)
    (case l12 => k_is)
    (case c12 => k_is)
    (case k12 => k_is)
    (case a13 => k_is)
    (case l13 => k_is)
    (case c13 => k_is)
    (case k13 => k_is)
    (case a14 => k_is)
    (case l14 => k_is)
    (case c14 => k_is)
    (case k14 => k_is)
    (case a15 => k_is)
    (case l15 => k_is)
    (case c15 => k_is)
    (case k15 => k_is)
    (case a16 => k_is)
    (case l16 => k_is)
    (case c16 => k_is)
    (case k16 => k_is)
    (case a17 => k_is)
    (case l17 => k_is)
    (case c17 => k_is)
    (case k17 => k_is)
    (case a18 => k_is)
    (case l18 => k_is)
    (case c18 => k_is)
    (case k18 => k_is)
    (case a19 => k_is)
    (case l19 => k_is)
    (case c19 => k_is)
    (case k19 => k_is)
    (case a20 => k_is)
    (case l20 => k_is)
    (case c20 => k_is)
    (case k20 => k_is)
    (case a21 => k_is)
    (case l21 => k_is)
    (case c21 => k_is)
    (case k21 => k_is)
    (case a22 => k_is)
    (case l22 => k_is)
    (case c22 => k_is)
    (case k22 => k_is)
    (case z_abs => k_is)
    (case z_all => k_is)
    (case z_bool => k_is)
    (case z_enumerate => k_is)
    (case z_int => k_is)
    (case z_isinstance => k_is)
    (case z_len => k_is)
    (case z_list => k_is)
    (case z_max => k_is)
    (case z_min => k_is)
    (case z_range => k_is)
    (case z_repr => k_is)
    (case z_sorted => k_is)
    (case z_str => k_is)
    (case z_tuple => k_is)
    (case z_zip => k_is)
    (case y_AHEAD => k_is)
    (case y_EITHER => k_is)
    (case y_LETTER => k_is)
    (case y_LETTERS => k_is)
    (case y_NOT => k_is)

