import PyProof.Rows.All
import Wide.All
import OpenK.AllK
import Wide.FinOn
import HandS.ForMost
import HandS.Exc
import HandS.TryOnly
import HandS.ExcOwn
import HandS.WordsExc
import HandS.TupAny
import HandS.TupMul
import HandS.Deep
import HandS.IsInst
import HandS.RaiseMore
import HandS.SortInts
import HandS.SetFor
import HandS.Conv
import KE.KDictPairs
import PyProof.WalksMore
import PyProof.WalkInts
import HandS.Style
import HandS.ExcField
import HandS.HeadHook3
import KE.GoesEnum
import HandS.Codes
import HandS.ExcInit
import HandS.ExcSuper
import HandS.ExcIs
import PySem.Challenge.RW_tagmachine_k16_whole_the_same_by_one_key
set_option Elab.async false
set_option linter.all false
set_option maxRecDepth 100000
/-! TgBase: data as trees, a numbered heap of the things that change, and how both lie in the layer's heap. -/
namespace Tg
open PySem L2

/-- a value: data as trees; ref n: the n-th thing that changes -/
inductive D where
  | non | bl (b : Bool) | int (i : Int) | str (s : Str) | tup (ds : List D) | lst (ds : List D) | dct (ks : List Key) (ds : List D) | ref (n : Nat) | scr (ns : List Int)

/-- a thing that changes -/
inductive AO where
  | lst (ds : List D) | dct (kvs : List (Key × D)) | ins (c : Str) (fs : List (Str × D))
abbrev AH := List AO
abbrev Sl := List (Option D)
/-- an exception: its class's name, its own fields if it has any -/
structure XV where
  c : Str
  fs : Option (List (Str × D))

inductive R (α : Type) where
  | ok (a : α) (A : AH)
  | exc (x : XV) (A : AH)
  | bad
def R.bind {α β : Type} (r : R α) (f : α → AH → R β) : R β := match r with
  | .ok a A => f a A
  | .exc x A => .exc x A
  | .bad => .bad
@[simp] theorem R.bind_ok {α β : Type} (a : α) (A : AH) (f : α → AH → R β) : (R.ok a A).bind f = f a A := rfl
@[simp] theorem R.bind_exc {α β : Type} (x : XV) (A : AH) (f : α → AH → R β) : (R.exc x A).bind f = .exc x A := rfl
@[simp] theorem R.bind_bad {α β : Type} (f : α → AH → R β) : (R.bad : R α).bind f = .bad := rfl

/-- F: what lies still; m: where the things that change lie, by number -/
structure Wd where
  F : Hp
  m : List Addr
/-- W' knows all that W knows -/
structure Le (W W' : Wd) : Prop where
  f : ∀ a o, W.F a = some o → W'.F a = some o
  m : ∃ r, W'.m = W.m ++ r
theorem Le.refl (W : Wd) : Le W W := ⟨fun _ _ h => h, [], (List.append_nil _).symm⟩
theorem Le.trans {W W1 W2 : Wd} (a : Le W W1) (b : Le W1 W2) : Le W W2 := ⟨fun x o h => b.f x o (a.f x o h), by
  obtain ⟨r, e⟩ := a.m
  obtain ⟨r', e'⟩ := b.m
  exact ⟨r ++ r', by rw [e', e, List.append_assoc]⟩⟩
theorem Le.at {W W' : Wd} (l : Le W W') {n : Nat} {a : Addr} (h : W.m[n]? = some a) : W'.m[n]? = some a := by
  obtain ⟨r, e⟩ := l.m
  rw [e, List.getElem?_append_left (List.getElem?_eq_some_iff.mp h).1]
  exact h

mutual
def Rep (K : PySem.W.Frag) (W : Wd) : D → V → Prop
  | .non, v => v = .non
  | .bl b, v => v = .bl b
  | .int i, v => v = .int i
  | .str s, v => v = .str s
  | .tup ds, v => ∃ a xs, v = .ref a ∧ SqT K W.F a xs ∧ Reps K W ds xs
  | .lst ds, v => ∃ a xs, v = .ref a ∧ W.F a = some (.lst xs) ∧ Reps K W ds xs
  | .dct ks ds, v => ∃ a kvs, v = .ref a ∧ W.F a = some (.dK kvs) ∧ kvs.map (·.1) = ks ∧ Reps K W ds (kvs.map (·.2))
  | .ref n, v => ∃ a, v = .ref a ∧ W.m[n]? = some a
  | .scr ns, v => ∃ a, v = .ref a ∧ SqL K W.F a (ns.map V.int)
def Reps (K : PySem.W.Frag) (W : Wd) : List D → List V → Prop
  | [], vs => vs = []
  | d :: ds, vs => ∃ v r, vs = v :: r ∧ Rep K W d v ∧ Reps K W ds r
end

theorem rd_le {W W' : Wd} (l : Le W W') {a : Addr} {u : HO} (h : Rd W.F a u) : Rd W'.F a u := by
  rcases h with h | ⟨o, h⟩
  · exact .inl (l.f a _ h)
  · exact .inr ⟨o, l.f a _ h⟩
theorem sqT_le {K : PySem.W.Frag} {W W' : Wd} (l : Le W W') {a : Addr} {xs : List V} (h : SqT K W.F a xs) : SqT K W'.F a xs := h.elim (fun z => .inl (rd_le l z)) .inr
theorem sqL_le {K : PySem.W.Frag} {W W' : Wd} (l : Le W W') {a : Addr} {xs : List V} (h : SqL K W.F a xs) : SqL K W'.F a xs := h.elim (fun z => .inl (rd_le l z)) .inr

mutual
theorem Rep.le {K : PySem.W.Frag} {W W' : Wd} (l : Le W W') : ∀ {d : D} {v : V}, Rep K W d v → Rep K W' d v
  | .non, _, h => h
  | .bl _, _, h => h
  | .int _, _, h => h
  | .str _, _, h => h
  | .tup _, _, h => by
    obtain ⟨a, xs, e, s, r⟩ := h
    exact ⟨a, xs, e, sqT_le l s, Reps.le l r⟩
  | .lst _, _, h => by
    obtain ⟨a, xs, e, s, r⟩ := h
    exact ⟨a, xs, e, l.f _ _ s, Reps.le l r⟩
  | .dct _ _, _, h => by
    obtain ⟨a, xs, e, s, k, r⟩ := h
    exact ⟨a, xs, e, l.f _ _ s, k, Reps.le l r⟩
  | .ref _, _, h => by
    obtain ⟨a, e, s⟩ := h
    exact ⟨a, e, l.at s⟩
  | .scr _, _, h => by
    obtain ⟨a, e, s⟩ := h
    exact ⟨a, e, sqL_le l s⟩
theorem Reps.le {K : PySem.W.Frag} {W W' : Wd} (l : Le W W') : ∀ {ds : List D} {vs : List V}, Reps K W ds vs → Reps K W' ds vs
  | [], _, h => h
  | _ :: _, _, h => by
    obtain ⟨v, r, e, h1, h2⟩ := h
    exact ⟨v, r, e, Rep.le l h1, Reps.le l h2⟩
end

section
variable {K : PySem.W.Frag} {W : Wd}
theorem Reps.length : ∀ {ds : List D} {vs : List V}, Reps K W ds vs → vs.length = ds.length
  | [], _, h => by
    have e : _ = [] := h
    rw [e]
    rfl
  | d :: ds, _, h => by
    obtain ⟨v, r, rfl, _, h2⟩ := h
    simp only [List.length_cons, Reps.length h2]
theorem Reps.get : ∀ {ds : List D} {vs : List V} {i : Nat} {d : D}, Reps K W ds vs → ds[i]? = some d → ∃ v, vs[i]? = some v ∧ Rep K W d v
  | [], _, _, _, _, e => by simp at e
  | _ :: _, _, 0, d, h, e => by
    obtain ⟨v, r, rfl, h1, _⟩ := h
    simp at e
    subst e
    exact ⟨v, rfl, h1⟩
  | _ :: _, _, i + 1, d, h, e => by
    obtain ⟨v, r, rfl, _, h2⟩ := h
    obtain ⟨u, e1, h3⟩ := Reps.get (i := i) (d := d) h2 (by simpa using e)
    exact ⟨u, by simpa using e1, h3⟩
theorem Reps.getV : ∀ {ds : List D} {vs : List V} {i : Nat} {v : V}, Reps K W ds vs → vs[i]? = some v → ∃ d, ds[i]? = some d ∧ Rep K W d v
  | [], _, _, _, h, e => by
    have z : _ = [] := h
    rw [z] at e
    simp at e
  | _ :: _, _, 0, v, h, e => by
    obtain ⟨u, r, rfl, h1, _⟩ := h
    simp at e
    subst e
    exact ⟨_, rfl, h1⟩
  | _ :: _, _, i + 1, v, h, e => by
    obtain ⟨u, r, rfl, _, h2⟩ := h
    obtain ⟨d, e1, h3⟩ := Reps.getV (i := i) (v := v) h2 (by simpa using e)
    exact ⟨d, by simpa using e1, h3⟩
theorem Reps.append : ∀ {ds es : List D} {vs us : List V}, Reps K W ds vs → Reps K W es us → Reps K W (ds ++ es) (vs ++ us)
  | [], _, _, _, h, h' => by
    have e : _ = [] := h
    rw [e]
    exact h'
  | _ :: _, _, _, _, h, h' => by
    obtain ⟨v, r, rfl, h1, h2⟩ := h
    exact ⟨v, _, rfl, h1, Reps.append h2 h'⟩
theorem Reps.one {d : D} {v : V} (h : Rep K W d v) : Reps K W [d] [v] := ⟨v, [], rfl, h, rfl⟩
theorem Reps.nil : Reps K W [] [] := rfl
theorem Reps.cons {d : D} {v : V} {ds : List D} {vs : List V} (h : Rep K W d v) (h' : Reps K W ds vs) : Reps K W (d :: ds) (v :: vs) := ⟨v, vs, rfl, h, h'⟩
theorem Reps.set : ∀ {ds : List D} {vs : List V} {d : D} {v : V} (i : Nat), Reps K W ds vs → Rep K W d v → Reps K W (ds.set i d) (vs.set i v)
  | [], _, _, _, _, h, _ => by
    have e : _ = [] := h
    rw [e]
    exact rfl
  | _ :: _, _, _, _, 0, h, h' => by
    obtain ⟨v, r, rfl, _, h2⟩ := h
    exact ⟨_, r, rfl, h', h2⟩
  | _ :: _, _, _, _, i + 1, h, h' => by
    obtain ⟨v, r, rfl, h1, h2⟩ := h
    exact ⟨v, _, rfl, h1, Reps.set i h2 h'⟩
theorem Reps.take : ∀ {ds : List D} {vs : List V} (n : Nat), Reps K W ds vs → Reps K W (ds.take n) (vs.take n)
  | [], _, n, h => by
    have e : _ = [] := h
    rw [e]
    simp only [List.take_nil]
    exact rfl
  | _ :: _, _, 0, h => rfl
  | _ :: _, _, n + 1, h => by
    obtain ⟨v, r, rfl, h1, h2⟩ := h
    exact ⟨v, _, rfl, h1, Reps.take n h2⟩
theorem Reps.drop : ∀ {ds : List D} {vs : List V} (n : Nat), Reps K W ds vs → Reps K W (ds.drop n) (vs.drop n)
  | [], _, n, h => by
    have e : _ = [] := h
    rw [e]
    simp only [List.drop_nil]
    exact rfl
  | _ :: _, _, 0, h => h
  | _ :: _, _, n + 1, h => by
    obtain ⟨v, r, rfl, h1, h2⟩ := h
    exact Reps.drop n h2
theorem Reps.eraseIdx : ∀ {ds : List D} {vs : List V} (i : Nat), Reps K W ds vs → Reps K W (ds.eraseIdx i) (vs.eraseIdx i)
  | [], _, _, h => by
    have e : _ = [] := h
    rw [e]
    exact rfl
  | _ :: _, _, 0, h => by
    obtain ⟨v, r, rfl, _, h2⟩ := h
    exact h2
  | _ :: _, _, i + 1, h => by
    obtain ⟨v, r, rfl, h1, h2⟩ := h
    exact ⟨v, _, rfl, h1, Reps.eraseIdx i h2⟩
theorem Reps.reverse : ∀ {ds : List D} {vs : List V}, Reps K W ds vs → Reps K W ds.reverse vs.reverse
  | [], _, h => by
    have e : _ = [] := h
    rw [e]
    exact rfl
  | _ :: _, _, h => by
    obtain ⟨v, r, rfl, h1, h2⟩ := h
    rw [List.reverse_cons, List.reverse_cons]
    exact Reps.append (Reps.reverse h2) (Reps.one h1)
end

/-- the slots' values -/
def SlR (K : PySem.W.Frag) (W : Wd) : Sl → L2.St → Prop
  | [], σ => σ = []
  | none :: s, σ => ∃ o r, σ = o :: r ∧ SlR K W s r
  | some d :: s, σ => ∃ v r, σ = some v :: r ∧ Rep K W d v ∧ SlR K W s r
section
variable {K : PySem.W.Frag} {W W' : Wd}
theorem SlR.le (l : Le W W') : ∀ {s : Sl} {σ : L2.St}, SlR K W s σ → SlR K W' s σ
  | [], _, h => h
  | none :: _, _, h => by
    obtain ⟨o, r, e, h2⟩ := h
    exact ⟨o, r, e, SlR.le l h2⟩
  | some _ :: _, _, h => by
    obtain ⟨v, r, e, h1, h2⟩ := h
    exact ⟨v, r, e, h1.le l, SlR.le l h2⟩
theorem SlR.get : ∀ {s : Sl} {σ : L2.St} {i : Nat} {d : D}, SlR K W s σ → s[i]? = some (some d) → ∃ v, σ[i]? = some (some v) ∧ Rep K W d v
  | [], _, _, _, _, e => by simp at e
  | none :: _, _, 0, _, _, e => by simp at e
  | none :: _, _, i + 1, d, h, e => by
    obtain ⟨o, r, rfl, h2⟩ := h
    obtain ⟨v, e1, h3⟩ := SlR.get (i := i) (d := d) h2 (by simpa using e)
    exact ⟨v, by simpa using e1, h3⟩
  | some _ :: _, _, 0, d, h, e => by
    obtain ⟨v, r, rfl, h1, _⟩ := h
    simp at e
    subst e
    exact ⟨v, rfl, h1⟩
  | some _ :: _, _, i + 1, d, h, e => by
    obtain ⟨v, r, rfl, _, h2⟩ := h
    obtain ⟨v, e1, h3⟩ := SlR.get (i := i) (d := d) h2 (by simpa using e)
    exact ⟨v, by simpa using e1, h3⟩
theorem SlR.set : ∀ {s : Sl} {σ : L2.St} {d : D} {v : V} (i : Nat), SlR K W s σ → Rep K W d v → SlR K W (s.set i (some d)) (σ.set i (some v))
  | [], _, _, _, _, h, _ => by
    have e : _ = [] := h
    rw [e]
    exact rfl
  | none :: _, _, _, _, 0, h, h' => by
    obtain ⟨o, r, rfl, h2⟩ := h
    exact ⟨_, r, rfl, h', h2⟩
  | some _ :: _, _, _, _, 0, h, h' => by
    obtain ⟨o, r, rfl, _, h2⟩ := h
    exact ⟨_, r, rfl, h', h2⟩
  | none :: _, _, _, _, i + 1, h, h' => by
    obtain ⟨o, r, rfl, h2⟩ := h
    exact ⟨o, _, rfl, SlR.set i h2 h'⟩
  | some _ :: _, _, _, _, i + 1, h, h' => by
    obtain ⟨v, r, rfl, h1, h2⟩ := h
    exact ⟨v, _, rfl, h1, SlR.set i h2 h'⟩
theorem SlR.unset : ∀ {s : Sl} {σ : L2.St} {o : Option V} (i : Nat), SlR K W s σ → SlR K W (s.set i none) (σ.set i o)
  | [], _, _, _, h => by
    have e : _ = [] := h
    rw [e]
    exact rfl
  | none :: _, _, o, 0, h => by
    obtain ⟨_, r, rfl, h2⟩ := h
    exact ⟨_, r, rfl, h2⟩
  | some _ :: _, _, o, 0, h => by
    obtain ⟨_, r, rfl, _, h2⟩ := h
    exact ⟨_, r, rfl, h2⟩
  | none :: _, _, _, i + 1, h => by
    obtain ⟨o, r, rfl, h2⟩ := h
    exact ⟨o, _, rfl, SlR.unset i h2⟩
  | some _ :: _, _, _, i + 1, h => by
    obtain ⟨v, r, rfl, h1, h2⟩ := h
    exact ⟨v, _, rfl, h1, SlR.unset i h2⟩
theorem SlR.of : ∀ {ds : List D} {vs : List V} {n : Nat}, Reps K W ds vs → SlR K W (ds.map some ++ List.replicate n none) (vs.map some ++ List.replicate n none)
  | [], _, n, h => by
    have e : _ = [] := h
    rw [e]
    show SlR K W (List.replicate n none) (List.replicate n none)
    induction n with
    | zero => exact rfl
    | succ n ih => exact ⟨none, _, rfl, ih⟩
  | _ :: _, _, n, h => by
    obtain ⟨v, r, rfl, h1, h2⟩ := h
    exact ⟨v, _, rfl, h1, SlR.of h2⟩
end
def wipeD (s : Sl) : List Nat → Sl
  | [] => s
  | i :: is => wipeD (s.set i none) is

def clA (mg : Str → Option Value) (x : Str) : Addr := match mg x with
  | some (.ref a) => a
  | _ => 0
theorem clA_of {mg : Str → Option Value} {x : Str} {a : Addr} (h : mg x = some (.ref a)) : clA mg x = a := by
  unfold clA
  rw [h]

/-- a thing that changes, as it lies there -/
def ObR (K : PySem.W.Frag) (mg : Str → Option Value) (W : Wd) : AO → Option HO → Prop
  | .lst ds, h => ∃ xs, h = some (.lst xs) ∧ Reps K W ds xs
  | .dct kvs, h => ∃ vs, h = some (.dK vs) ∧ vs.map (·.1) = kvs.map (·.1) ∧ Reps K W (kvs.map (·.2)) (vs.map (·.2))
  | .ins c fs, h => ∃ dx vs, h = some (.ins (clA mg c) dx vs) ∧ vs.map (·.1) = fs.map (·.1) ∧ Reps K W (fs.map (·.2)) (vs.map (·.2))
theorem ObR.le {K : PySem.W.Frag} {mg : Str → Option Value} {W W' : Wd} (l : Le W W') : ∀ {o : AO} {h : Option HO}, ObR K mg W o h → ObR K mg W' o h
  | .lst _, _, z => by
    obtain ⟨xs, e, r⟩ := z
    exact ⟨xs, e, r.le l⟩
  | .dct _, _, z => by
    obtain ⟨xs, e, k, r⟩ := z
    exact ⟨xs, e, k, r.le l⟩
  | .ins _ _, _, z => by
    obtain ⟨dx, xs, e, k, r⟩ := z
    exact ⟨dx, xs, e, k, r.le l⟩
theorem ObR.there {K : PySem.W.Frag} {mg : Str → Option Value} {W : Wd} : ∀ {o : AO} {h : Option HO}, ObR K mg W o h → h ≠ none
  | .lst _, _, z => by
    obtain ⟨xs, e, r⟩ := z
    rw [e]
    exact fun q => nomatch q
  | .dct _, _, z => by
    obtain ⟨xs, e, k, r⟩ := z
    rw [e]
    exact fun q => nomatch q
  | .ins _ _, _, z => by
    obtain ⟨dx, xs, e, k, r⟩ := z
    rw [e]
    exact fun q => nomatch q

structure Ok (K : PySem.W.Frag) (mg : Str → Option Value) (W : Wd) (A : AH) (H : Hp) : Prop where
  frz : ∀ a o, W.F a = some o → H a = some o
  sep : ∀ a, a ∈ W.m → W.F a = none
  nd : W.m.Nodup
  len : W.m.length = A.length
  obj : ∀ (n : Nat) (a : Addr) (o : AO), W.m[n]? = some a → A[n]? = some o → ObR K mg W o (H a)

/-- from (W, H) on, to (W', H') -/
structure Ext (W : Wd) (H : Hp) (W' : Wd) (H' : Hp) : Prop where
  le : Le W W'
  out : ∀ a o, H a = some o → a ∉ W.m → H' a = some o
  dom : ∀ a, H' a = none → H a = none
  fF : ∀ a o, W'.F a = some o → W.F a = none → H a = none
  fm : ∀ a, a ∈ W'.m → a ∉ W.m → H a = none
theorem Ext.refl (W : Wd) (H : Hp) : Ext W H W H := ⟨Le.refl W, fun _ _ h _ => h, fun _ h => h, fun _ _ h h' => (by rw [h'] at h; cases h), fun _ h h' => absurd h h'⟩
theorem Ext.trans {W W1 W2 : Wd} {H H1 H2 : Hp} (a : Ext W H W1 H1) (b : Ext W1 H1 W2 H2) : Ext W H W2 H2 where
  le := a.le.trans b.le
  out := fun x o h n => b.out x o (a.out x o h n) fun q => by
    have z := a.fm x q n
    rw [h] at z
    cases z
  dom := fun x h => a.dom x (b.dom x h)
  fF := fun x o h n => by
    cases e : W1.F x with
    | none => exact a.dom x (b.fF x o h e)
    | some u => exact a.fF x u e n
  fm := fun x h n => by
    by_cases q : x ∈ W1.m
    · exact a.fm x q n
    · exact a.dom x (b.fm x h q)

section
variable {K : PySem.W.Frag} {mg : Str → Option Value} {W : Wd} {A : AH} {H : Hp}
theorem Ok.at (k : Ok K mg W A H) {n : Nat} {a : Addr} (h : W.m[n]? = some a) : ∃ o, A[n]? = some o ∧ ObR K mg W o (H a) := by
  have hl := (List.getElem?_eq_some_iff.mp h).1
  rw [k.len] at hl
  exact ⟨A[n], by simp [hl], k.obj n a _ h (by simp [hl])⟩
theorem Ok.notm (k : Ok K mg W A H) {p : Addr} (h : H p = none) : p ∉ W.m := fun q => by
  obtain ⟨n, e⟩ := List.getElem?_of_mem q
  obtain ⟨o, _, z⟩ := k.at e
  exact z.there h
theorem Ok.notF (k : Ok K mg W A H) {p : Addr} (h : H p = none) : W.F p = none := by
  cases e : W.F p with
  | none => rfl
  | some o =>
    rw [k.frz p o e] at h
    cases h
/-- a new thing that lies still -/
theorem Ok.frozen (k : Ok K mg W A H) {p : Addr} (h : H p = none) (o : HO) : Ok K mg ⟨upd W.F p o, W.m⟩ A (upd H p o) ∧ Ext W H ⟨upd W.F p o, W.m⟩ (upd H p o) := by
  have nm := k.notm h
  have nF := k.notF h
  have l : Le W ⟨upd W.F p o, W.m⟩ := ⟨fun a u e => by
    have n : a ≠ p := fun q => by
      rw [q, nF] at e
      cases e
    show upd W.F p o a = some u
    rw [upd_ne n]
    exact e, [], (List.append_nil _).symm⟩
  refine ⟨⟨fun a u e => ?_, fun a ha => ?_, k.nd, k.len, fun n a u e1 e2 => ?_⟩, ⟨l, fun a u e _ => ?_, fun a e => ?_, fun a u e n => ?_, fun a h1 h2 => absurd h1 h2⟩⟩
  · have e' : upd W.F p o a = some u := e
    by_cases q : a = p
    · subst q
      rw [upd_same] at e'
      rw [upd_same]
      exact e'
    · rw [upd_ne q] at e'
      rw [upd_ne q]
      exact k.frz a u e'
  · have n : a ≠ p := fun q => nm (q ▸ ha)
    show upd W.F p o a = none
    rw [upd_ne n]
    exact k.sep a ha
  · have n' : a ≠ p := fun q => nm (q ▸ List.mem_of_getElem? e1)
    rw [upd_ne n']
    exact (k.obj n a u e1 e2).le l
  · have n : a ≠ p := fun q => by
      rw [q, h] at e
      cases e
    rw [upd_ne n]
    exact e
  · by_cases q : a = p
    · rw [q]
      exact h
    · rw [upd_ne q] at e
      exact e
  · by_cases q : a = p
    · rw [q]
      exact h
    · have e' : upd W.F p o a = some u := e
      rw [upd_ne q, n] at e'
      cases e'
/-- a cell beside, that nobody tells of -/
theorem Ok.aside (k : Ok K mg W A H) {p : Addr} (h : H p = none) (o : HO) : Ok K mg W A (upd H p o) ∧ Ext W H W (upd H p o) := by
  have nm := k.notm h
  have nF := k.notF h
  refine ⟨⟨fun a u e => ?_, k.sep, k.nd, k.len, fun n a u e1 e2 => ?_⟩, ⟨Le.refl W, fun a u e _ => ?_, fun a e => ?_, fun a u e n => ?_, fun a h1 h2 => absurd h1 h2⟩⟩
  · have n : a ≠ p := fun q => by
      rw [q, nF] at e
      cases e
    rw [upd_ne n]
    exact k.frz a u e
  · have n' : a ≠ p := fun q => nm (q ▸ List.mem_of_getElem? e1)
    rw [upd_ne n']
    exact k.obj n a u e1 e2
  · have n : a ≠ p := fun q => by
      rw [q, h] at e
      cases e
    rw [upd_ne n]
    exact e
  · by_cases q : a = p
    · rw [q]
      exact h
    · rw [upd_ne q] at e
      exact e
  · rw [n] at e
    cases e
/-- a cell beside is written -/
theorem Ok.asideW (k : Ok K mg W A H) {p : Addr} {u : HO} (nm : p ∉ W.m) (nF : W.F p = none) (h : H p = some u) (o : HO) : Ok K mg W A (upd H p o) := by
  refine ⟨fun a u e => ?_, k.sep, k.nd, k.len, fun n a u e1 e2 => ?_⟩
  · have n : a ≠ p := fun q => by
      rw [q, nF] at e
      cases e
    rw [upd_ne n]
    exact k.frz a u e
  · have n' : a ≠ p := fun q => nm (q ▸ List.mem_of_getElem? e1)
    rw [upd_ne n']
    exact k.obj n a u e1 e2
/-- a new thing that changes; ob tells of it in the world behind -/
theorem Ok.fresh (k : Ok K mg W A H) {p : Addr} (h : H p = none) {o : HO} {u : AO} (ob : ObR K mg ⟨W.F, W.m ++ [p]⟩ u (some o)) :
    Ok K mg ⟨W.F, W.m ++ [p]⟩ (A ++ [u]) (upd H p o) ∧ Ext W H ⟨W.F, W.m ++ [p]⟩ (upd H p o) := by
  have nm := k.notm h
  have nF := k.notF h
  have l : Le W ⟨W.F, W.m ++ [p]⟩ := ⟨fun _ _ e => e, [p], rfl⟩
  refine ⟨⟨fun a u e => ?_, fun a ha => ?_, ?_, ?_, fun n a u' e1 e2 => ?_⟩, ⟨l, fun a u e _ => ?_, fun a e => ?_, fun a u e n => ?_, fun a h1 h2 => ?_⟩⟩
  · have n : a ≠ p := fun q => by
      have e' : W.F a = some u := e
      rw [q, nF] at e'
      cases e'
    rw [upd_ne n]
    exact k.frz a u e
  · rcases List.mem_append.mp ha with q | q
    · exact k.sep a q
    · rw [List.mem_singleton.mp q]
      exact nF
  · refine List.nodup_append.mpr ⟨k.nd, by simp, fun a ha b hb => ?_⟩
    rw [List.mem_singleton.mp hb]
    exact fun q => nm (q ▸ ha)
  · show (W.m ++ [p]).length = (A ++ [u]).length
    rw [List.length_append, List.length_append, k.len]
    rfl
  · have e1' : (W.m ++ [p])[n]? = some a := e1
    by_cases q : n < W.m.length
    · rw [List.getElem?_append_left q] at e1'
      rw [List.getElem?_append_left (by rw [← k.len]; exact q)] at e2
      have n' : a ≠ p := fun z => nm (z ▸ List.mem_of_getElem? e1')
      rw [upd_ne n']
      exact (k.obj n a u' e1' e2).le l
    · have hn := (List.getElem?_eq_some_iff.mp e1').1
      have en : n = W.m.length := by
        rw [List.length_append] at hn
        simp at hn
        omega
      subst en
      rw [List.getElem?_append_right (Nat.le_refl _)] at e1'
      rw [List.getElem?_append_right (by rw [k.len]; exact Nat.le_refl _)] at e2
      rw [k.len] at e2
      simp at e1' e2
      subst e1' e2
      rw [upd_same]
      exact ob
  · have n : a ≠ p := fun q => by
      rw [q, h] at e
      cases e
    rw [upd_ne n]
    exact e
  · by_cases q : a = p
    · rw [q]
      exact h
    · rw [upd_ne q] at e
      exact e
  · have e' : W.F a = some u := e
    rw [n] at e'
    cases e'
  · rcases List.mem_append.mp h1 with q | q
    · exact absurd q h2
    · rw [List.mem_singleton.mp q]
      exact h
/-- a thing changes -/
theorem Ok.write (k : Ok K mg W A H) {n : Nat} {a : Addr} (ha : W.m[n]? = some a) {o : HO} {u : AO} (ob : ObR K mg W u (some o)) :
    Ok K mg W (A.set n u) (upd H a o) ∧ Ext W H W (upd H a o) := by
  have nF := k.sep a (List.mem_of_getElem? ha)
  obtain ⟨u0, hu0, ob0⟩ := k.at ha
  have hn : n < A.length := (List.getElem?_eq_some_iff.mp hu0).1
  refine ⟨⟨fun b v e => ?_, k.sep, k.nd, ?_, fun j b v e1 e2 => ?_⟩, ⟨Le.refl W, fun b v e nb => ?_, fun b e => ?_, fun b v e z => ?_, fun b h1 h2 => absurd h1 h2⟩⟩
  · have z : b ≠ a := fun q => by
      rw [q, nF] at e
      cases e
    rw [upd_ne z]
    exact k.frz b v e
  · rw [List.length_set]
    exact k.len
  · by_cases q : j = n
    · subst q
      rw [ha] at e1
      cases e1
      rw [List.getElem?_set_self hn] at e2
      cases e2
      rw [upd_same]
      exact ob
    · rw [List.getElem?_set_ne (fun z => q z.symm)] at e2
      have z : b ≠ a := fun z => by
        subst z
        have h1 := (List.getElem?_eq_some_iff.mp e1).1
        have h2 := (List.getElem?_eq_some_iff.mp ha).1
        rcases Nat.lt_or_gt_of_ne q with z | z
        · exact List.pairwise_iff_getElem.mp k.nd j n h1 h2 z ((List.getElem?_eq_some_iff.mp e1).2.trans (List.getElem?_eq_some_iff.mp ha).2.symm)
        · exact List.pairwise_iff_getElem.mp k.nd n j h2 h1 z ((List.getElem?_eq_some_iff.mp ha).2.trans (List.getElem?_eq_some_iff.mp e1).2.symm)
      rw [upd_ne z]
      exact k.obj j b v e1 e2
  · have z : b ≠ a := fun q => nb (q ▸ List.mem_of_getElem? ha)
    rw [upd_ne z]
    exact e
  · by_cases q : b = a
    · rw [q, upd_same] at e
      cases e
    · rw [upd_ne q] at e
      exact e
  · rw [z] at e
    cases e
theorem Ok.lookL (k : Ok K mg W A H) {n : Nat} {a : Addr} {ds : List D} (ha : W.m[n]? = some a) (e : A[n]? = some (.lst ds)) : ∃ xs, H a = some (.lst xs) ∧ Reps K W ds xs := k.obj n a _ ha e
theorem Ok.sqT (k : Ok K mg W A H) {a : Addr} {xs : List V} (h : SqT K W.F a xs) : SqT K H a xs := by
  rcases h with (h | ⟨o, h⟩) | h
  · exact .inl (.inl (k.frz _ _ h))
  · exact .inl (.inr ⟨o, k.frz _ _ h⟩)
  · exact .inr h
theorem Ok.sqL (k : Ok K mg W A H) {a : Addr} {xs : List V} (h : SqL K W.F a xs) : SqL K H a xs := by
  rcases h with (h | ⟨o, h⟩) | h
  · exact .inl (.inl (k.frz _ _ h))
  · exact .inl (.inr ⟨o, k.frz _ _ h⟩)
  · exact .inr h
end
end Tg

set_option Elab.async false
set_option linter.all false
set_option maxRecDepth 100000
/-! TgPost: what is wanted behind an expression, a test, arguments, a statement; how readings meet it. -/
namespace Tg
open PySem L2

/-- an exception as it lies behind -/
def XRep (K : PySem.W.Frag) (mg : Str → Option Value) (W : Wd) (x : XV) (c : Value) (d : Option Addr) (H : Hp) : Prop :=
  c = .ref (clA mg x.c) ∧ match x.fs with
    | none => d = none
    | some fs => ∃ dd vs, d = some dd ∧ H dd = some (.xd vs) ∧ vs.map (·.1) = fs.map (·.1) ∧ Reps K W (fs.map (·.2)) (vs.map (·.2)) ∧ W.F dd = none ∧ dd ∉ W.m

def Post {α β : Type} (K : PySem.W.Frag) (mg : Str → Option Value) (rel : Wd → α → β → Prop) (W : Wd) (H : Hp) (E : XK) (Q : β → Hp → Prop) : R α → Prop
  | .ok a A' => ∀ W' H' b, Ext W H W' H' → Ok K mg W' A' H' → rel W' a b → Q b H'
  | .exc x A' => ∀ W' H' c d, Ext W H W' H' → Ok K mg W' A' H' → XRep K mg W' x c d H' → E c d H'
  | .bad => False
section
variable {α β γ δ : Type} {K : PySem.W.Frag} {mg : Str → Option Value} {rel : Wd → α → β → Prop} {rel2 : Wd → γ → δ → Prop} {W W1 : Wd} {H H1 : Hp} {E : XK} {Q Q' : β → Hp → Prop} {A : AH}
theorem Post.ext {r : R α} (e : Ext W H W1 H1) (h : Post K mg rel W H E Q r) : Post K mg rel W1 H1 E Q r := by
  cases r with
  | ok a A' => exact fun W' H' b x k z => h W' H' b (e.trans x) k z
  | exc x A' => exact fun W' H' c d y k z => h W' H' c d (e.trans y) k z
  | bad => exact h
theorem Post.mono {r : R α} (h : Post K mg rel W H E Q r) (f : ∀ b H', Q b H' → Q' b H') : Post K mg rel W H E Q' r := by
  cases r with
  | ok a A' => exact fun W' H' b x k z => f _ _ (h W' H' b x k z)
  | exc x A' => exact h
  | bad => exact h
theorem Post.bind {r : R α} {f : α → AH → R γ} {Q2 : δ → Hp → Prop} (h : Post K mg rel2 W H E Q2 (r.bind f))
    (g : ∀ a A1 b W1 H1, Ext W H W1 H1 → Ok K mg W1 A1 H1 → rel W1 a b → Post K mg rel2 W1 H1 E Q2 (f a A1) → Q b H1) : Post K mg rel W H E Q r := by
  cases r with
  | ok a A' => exact fun W' H' b x k z => g a A' b W' H' x k z (Post.ext x h)
  | exc x A' => exact h
  | bad => exact h
/-- as bind, told at what stood ahead -/
theorem Post.bind0 {r : R α} {f : α → AH → R γ} {Q2 : δ → Hp → Prop} (h : Post K mg rel2 W H E Q2 (r.bind f)) (e0 : Ext W H W1 H1)
    (g : ∀ a A1 b W2 H2, Ext W1 H1 W2 H2 → Ok K mg W2 A1 H2 → rel W2 a b → Post K mg rel2 W H E Q2 (f a A1) → Q b H2) : Post K mg rel W1 H1 E Q r := by
  cases r with
  | ok a A' => exact fun W' H' b x k z => g a A' b W' H' x k z h
  | exc x A' => exact fun W' H' c d y k z => h W' H' c d (e0.trans y) k z
  | bad => exact h
theorem Post.ok_at {a : α} {b : β} (h : Post K mg rel W H E Q (.ok a A)) (k : Ok K mg W A H) (z : rel W a b) : Q b H := h W H b (Ext.refl W H) k z
theorem Post.ok_to {a : α} {b : β} (h : Post K mg rel W H E Q (.ok a A)) (e : Ext W H W1 H1) (k : Ok K mg W1 A H1) (z : rel W1 a b) : Q b H1 := h W1 H1 b e k z
end

abbrev ME := Sl → AH → R D
abbrev MT := Sl → AH → R Bool
abbrev MA := Sl → AH → R (List D)
abbrev relB : Wd → Bool → Bool → Prop := fun _ a b => b = a
abbrev relO : Wd → Option Int → Option Int → Prop := fun _ a b => b = a

def SimE (K : PySem.W.Frag) (mg : Str → Option Value) (Wx : WX) (t : TE) (m : ME) : Prop :=
  ∀ (W : Wd) (σ : L2.St) (s : Sl) (A : AH) (H : Hp) (Q : VK), Ok K mg W A H → SlR K W s σ → Post K mg (Rep K) W H (fun c d H' => Wx c d σ H') Q (m s A) → t σ H Q
def SimT (K : PySem.W.Frag) (mg : Str → Option Value) (Wx : WX) (t : TT) (m : MT) : Prop :=
  ∀ (W : Wd) (σ : L2.St) (s : Sl) (A : AH) (H : Hp) (Q : Bool → Hp → Prop), Ok K mg W A H → SlR K W s σ → Post K mg relB W H (fun c d H' => Wx c d σ H') Q (m s A) → t σ H Q
def SimA (K : PySem.W.Frag) (mg : Str → Option Value) (Wx : WX) (t : TA) (m : MA) : Prop :=
  ∀ (W : Wd) (σ : L2.St) (s : Sl) (A : AH) (H : Hp) (Q : List V → Hp → Prop), Ok K mg W A H → SlR K W s σ → Post K mg (Reps K) W H (fun c d H' => Wx c d σ H') Q (m s A) → t σ H Q
def SimO (K : PySem.W.Frag) (mg : Str → Option Value) (Wx : WX) (t : TO) (m : Sl → AH → R (Option Int)) : Prop :=
  ∀ (W : Wd) (σ : L2.St) (s : Sl) (A : AH) (H : Hp) (Q : Option Int → Hp → Prop), Ok K mg W A H → SlR K W s σ → Post K mg relO W H (fun c d H' => Wx c d σ H') Q (m s A) → t σ H Q

structure SE (X : Cx) (Wx : WX) (e : Expr) (t : TE) (m : ME) : Prop where
  pe : PE X e t
  sim : SimE X.K X.mg Wx t m
structure ST (X : Cx) (Wx : WX) (e : Expr) (t : TT) (m : MT) : Prop where
  pt : PT X e t
  sim : SimT X.K X.mg Wx t m
structure SW (X : Cx) (Wx : WX) (e : Expr) (t : TT) (m : MT) : Prop where
  pw : PW X e t
  sim : SimT X.K X.mg Wx t m
structure SA (X : Cx) (Wx : WX) (es : List Expr) (t : TA) (m : MA) : Prop where
  pa : PA X es t
  sim : SimA X.K X.mg Wx t m
structure SO (X : Cx) (Wx : WX) (e : Option Expr) (t : TO) (m : Sl → AH → R (Option Int)) : Prop where
  po : PO X e t
  sim : SimO X.K X.mg Wx t m

/-! ### values by themselves -/
/-- an operation on two values, on one, on many -/
def OpS (K : PySem.W.Frag) (mg : Str → Option Value) (r : R2) (f : D → D → AH → R D) : Prop :=
  ∀ (W : Wd) (A : AH) (H : Hp) (E : XK) (Q : VK) (d e : D) (x y : V), Ok K mg W A H → Rep K W d x → Rep K W e y → Post K mg (Rep K) W H E Q (f d e A) → r x y H Q
def UnS (K : PySem.W.Frag) (mg : Str → Option Value) (r : V → Hp → VK → Prop) (f : D → AH → R D) : Prop :=
  ∀ (W : Wd) (A : AH) (H : Hp) (E : XK) (Q : VK) (d : D) (x : V), Ok K mg W A H → Rep K W d x → Post K mg (Rep K) W H E Q (f d A) → r x H Q
def CallS (K : PySem.W.Frag) (mg : Str → Option Value) (r : List V → Hp → VK → Prop) (f : List D → AH → R D) : Prop :=
  ∀ (W : Wd) (A : AH) (H : Hp) (E : XK) (Q : VK) (ds : List D) (xs : List V), Ok K mg W A H → Reps K W ds xs → Post K mg (Rep K) W H E Q (f ds A) → r xs H Q

def mv (i : Nat) : ME := fun s A => match s[i]? with
  | some (some d) => .ok d A
  | _ => .bad
def mc (d : D) : ME := fun _ A => .ok d A
def mBin (f : D → D → AH → R D) (a b : ME) : ME := fun s A => (a s A).bind fun x A1 => (b s A1).bind fun y A2 => f x y A2
def mUn (f : D → AH → R D) (a : ME) : ME := fun s A => (a s A).bind fun x A1 => f x A1
def mNil : MA := fun _ A => .ok [] A
def mCons (a : ME) (r : MA) : MA := fun s A => (a s A).bind fun x A1 => (r s A1).bind fun xs A2 => .ok (x :: xs) A2
def toB : D → AH → R Bool
  | .bl b, A => .ok b A
  | _, _ => .bad
def mTb (m : ME) : MT := fun s A => (m s A).bind toB
def mBl (m : MT) : ME := fun s A => (m s A).bind fun b A1 => .ok (.bl b) A1
def mIf (c : MT) (a b : ME) : ME := fun s A => (c s A).bind fun k A1 => if k then a s A1 else b s A1
def mAnd (a b : MT) : MT := fun s A => (a s A).bind fun k A1 => if k then b s A1 else .ok false A1
def mOr (a b : MT) : MT := fun s A => (a s A).bind fun k A1 => if k then .ok true A1 else b s A1
def mNot (a : MT) : MT := fun s A => (a s A).bind fun k A1 => .ok (!k) A1

section
variable {X : Cx} {Wx : WX} {a b c e : Expr} {es : List Expr} {ta tb tc te : TE} {ma mb me : ME} {pos : Pos}
theorem sv (i : Nat) {x : Str} (hN : X.N[i]? = some x := by rfl) (hv : Vis X.env.scope x := by first | exact Or.inl rfl | exact Or.inr (Or.inl rfl) | exact Or.inr (Or.inr rfl)) (hd : (x == ("__debug__" : Str)) = false := by decide)
    (hcd : (x == ("__classdict__" : Str)) = false := by decide) : SE X Wx (.Name x pos) (tVar i) (mv i) := by
  refine ⟨pe_var hN hv hd hcd, fun W σ s A H Q k sr h => ?_⟩
  unfold mv at h
  split at h
  · rename_i d e
    obtain ⟨v, e1, r⟩ := sr.get e
    exact ⟨v, e1, h.ok_at k r⟩
  · exact h.elim
theorem sc {v : V} {d : D} (hp : PE X e (tC v)) (r : ∀ W, Rep X.K W d v) : SE X Wx e (tC v) (mc d) :=
  ⟨hp, fun W σ s A H Q k sr h => h.ok_at k (r W)⟩
theorem sint {i : Int} {j : Nat} : SE X Wx (.Constant (.int i) j pos) (tC (.int i)) (mc (.int i)) := sc pe_int fun _ => rfl
theorem sbl {x : Bool} {j : Nat} : SE X Wx (.Constant (.bool x) j pos) (tC (.bl x)) (mc (.bl x)) := sc pe_bl fun _ => rfl
theorem snon {j : Nat} : SE X Wx (.Constant .none j pos) (tC .non) (mc .non) := sc pe_non fun _ => rfl
theorem sstr {x : Str} {j : Nat} : SE X Wx (.Constant (.str x) j pos) (tC (.str x)) (mc (.str x)) := sc pe_str fun _ => rfl

theorem sim_bin {r : R2} {f : D → D → AH → R D} {K : PySem.W.Frag} {mg : Str → Option Value} (hs : OpS K mg r f) (ha : SimE K mg Wx ta ma) (hb : SimE K mg Wx tb mb) : SimE K mg Wx (tOp r ta tb) (mBin f ma mb) :=
  fun W σ s A H Q k sr h => ha W σ s A H _ k sr (h.bind fun x A1 v W1 H1 e1 k1 r1 h1 =>
    hb W1 σ s A1 H1 _ k1 (sr.le e1.le) (h1.bind fun y A2 u W2 H2 e2 k2 r2 h2 => hs W2 A2 H2 _ Q x y v u k2 (r1.le e2.le) r2 h2))
theorem sop {op : Operator} {r : R2} {f : D → D → AH → R D} (ho : OpR X (binaryOp op) r) (hs : OpS X.K X.mg r f) (ha : SE X Wx a ta ma) (hb : SE X Wx b tb mb) : SE X Wx (.BinOp a op b pos) (tOp r ta tb) (mBin f ma mb) :=
  ⟨pe_op ho ha.pe hb.pe, sim_bin hs ha.sim hb.sim⟩
theorem scmp {op : CmpOp} {r : R2} {f : D → D → AH → R D} (ho : OpR X (compareOp op) r) (hs : OpS X.K X.mg r f) (ha : SE X Wx a ta ma) (hb : SE X Wx b tb mb) (hm : behindInMarks op b = false) : SE X Wx (.Compare a [op] [b] pos) (tOp r ta tb) (mBin f ma mb) :=
  ⟨pe_cmpR ho ha.pe hb.pe hm, sim_bin hs ha.sim hb.sim⟩
theorem sun {op : UnaryOp} {r : V → Hp → VK → Prop} {f : D → AH → R D} (ho : UnR X (unaryOp op) r) (hs : UnS X.K X.mg r f) (ha : SE X Wx a ta ma) : SE X Wx (.UnaryOp op a pos) (tUn r ta) (mUn f ma) :=
  ⟨pe_un ho ha.pe, fun W σ s A H Q k sr h => ha.sim W σ s A H _ k sr (h.bind fun x A1 v W1 H1 e1 k1 r1 h1 => hs W1 A1 H1 _ Q x v k1 r1 h1)⟩

theorem sim_test (ha : SimE X.K X.mg Wx ta ma) : SimT X.K X.mg Wx (tTest ta) (mTb ma) := fun W σ s A H Q k sr h =>
  ha W σ s A H _ k sr (h.bind fun x A1 v W1 H1 e1 k1 r1 h1 => by
    cases x with
    | bl y => exact ⟨y, r1, h1.ok_at k1 rfl⟩
    | _ => exact h1.elim)
theorem tcmp {op : CmpOp} {r : R2} {f : D → D → AH → R D} (ho : OpR X (compareOp op) r) (hs : OpS X.K X.mg r f) (ha : SE X Wx a ta ma) (hb : SE X Wx b tb mb) (hm : behindInMarks op b = false) : ST X Wx (.Compare a [op] [b] pos) (tTest (tOp r ta tb)) (mTb (mBin f ma mb)) :=
  ⟨pt_cmpR ho ha.pe hb.pe hm, sim_test (sim_bin hs ha.sim hb.sim)⟩
/-- a value that is True or False, as a test -/
theorem tval (ha : SE X Wx a ta ma) (he : ∀ whole, isTrue a X.env whole = (do let v ← whole; standAt a.pos; holding [v] (truthy v)) := by intro _; rfl) : ST X Wx a (tB ta) (mTb ma) :=
  ⟨pt_val ha.pe he, fun W σ s A H Q k sr h => ha.sim W σ s A H _ k sr (h.bind fun x A1 v W1 H1 e1 k1 r1 h1 => by
    cases x with
    | bl y => exact ⟨y, r1, h1.ok_at k1 rfl⟩
    | _ => exact h1.elim)⟩
def mChain (f g : D → D → AH → R D) (a b c : ME) : ME := fun s A => (a s A).bind fun x A1 => (b s A1).bind fun y A2 => (f x y A2).bind fun z A3 => (toB z A3).bind fun k A4 =>
  if k then (c s A4).bind fun w A5 => g y w A5 else .ok (.bl false) A4
theorem sim_chain {r r' : R2} {f g : D → D → AH → R D} {K : PySem.W.Frag} {mg : Str → Option Value} {mc' : ME} (hs : OpS K mg r f) (hs' : OpS K mg r' g) (ha : SimE K mg Wx ta ma) (hb : SimE K mg Wx tb mb) (hc : SimE K mg Wx tc mc') :
    SimE K mg Wx (tChain r r' ta tb tc) (mChain f g ma mb mc') :=
  fun W σ s A H Q k sr h => ha W σ s A H _ k sr (h.bind fun x A1 v W1 H1 e1 k1 r1 h1 =>
    hb W1 σ s A1 H1 _ k1 (sr.le e1.le) (h1.bind fun y A2 u W2 H2 e2 k2 r2 h2 => hs W2 A2 H2 _ _ x y v u k2 (r1.le e2.le) r2 (h2.bind fun z A3 w W3 H3 e3 k3 r3 h3 => by
      cases z with
      | bl y' =>
        refine ⟨y', r3, ?_⟩
        have h3' : Post K mg (Rep K) W3 H3 (fun c d H' => Wx c d σ H') Q (if y' then (mc' s A3).bind fun w A5 => g y w A5 else .ok (.bl false) A3) := h3
        cases y' with
        | true =>
          rw [if_pos rfl]
          rw [if_pos rfl] at h3'
          exact hc W3 σ s A3 H3 _ k3 ((sr.le e1.le).le (e2.trans e3).le) (h3'.bind fun q A4 w' W4 H4 e4 k4 r4 h4 => hs' W4 A4 H4 _ Q y q u w' k4 (r2.le (e3.trans e4).le) r4 h4)
        | false =>
          rw [if_neg Bool.false_ne_true]
          rw [if_neg Bool.false_ne_true] at h3'
          exact h3'.ok_at k3 rfl
      | _ => exact h3.elim)))
theorem schain {op op' : CmpOp} {r r' : R2} {f g : D → D → AH → R D} {mc' : ME} (ho : OpR X (compareOp op) r) (ho' : OpR X (compareOp op') r') (hs : OpS X.K X.mg r f) (hs' : OpS X.K X.mg r' g) (ha : SE X Wx a ta ma) (hb : SE X Wx b tb mb) (hc : SE X Wx c tc mc') (hm : lastMarks [op, op'] [b, c] = false := by rfl) :
    SE X Wx (.Compare a [op, op'] [b, c] pos) (tChain r r' ta tb tc) (mChain f g ma mb mc') := ⟨pe_chain ho ho' ha.pe hb.pe hc.pe hm, sim_chain hs hs' ha.sim hb.sim hc.sim⟩
theorem tchain {op op' : CmpOp} {r r' : R2} {f g : D → D → AH → R D} {mc' : ME} (ho : OpR X (compareOp op) r) (ho' : OpR X (compareOp op') r') (hs : OpS X.K X.mg r f) (hs' : OpS X.K X.mg r' g) (ha : SE X Wx a ta ma) (hb : SE X Wx b tb mb) (hc : SE X Wx c tc mc') (hm : lastMarks [op, op'] [b, c] = false := by rfl) :
    ST X Wx (.Compare a [op, op'] [b, c] pos) (tTest (tChain r r' ta tb tc)) (mTb (mChain f g ma mb mc')) := ⟨pt_chain ho ho' ha.pe hb.pe hc.pe hm, sim_test (sim_chain hs hs' ha.sim hb.sim hc.sim)⟩

variable {t u : TT} {m n : MT}
theorem tnot (h : ST X Wx a t m) : ST X Wx (.UnaryOp .Not a pos) (tNot t) (mNot m) :=
  ⟨pt_not h.pt, fun W σ s A H Q k sr z => h.sim W σ s A H _ k sr (z.bind fun x A1 v W1 H1 e1 k1 r1 h1 => by
    cases r1
    exact h1.ok_at k1 rfl)⟩
theorem sim_and {K : PySem.W.Frag} {mg : Str → Option Value} (h : SimT K mg Wx t m) (h' : SimT K mg Wx u n) : SimT K mg Wx (tAnd t u) (mAnd m n) := fun W σ s A H Q k sr z => h W σ s A H _ k sr (z.bind fun x A1 v W1 H1 e1 k1 r1 h1 => by
  cases r1
  cases x with
  | true => exact h' W1 σ s A1 H1 _ k1 (sr.le e1.le) h1
  | false => exact h1.ok_at k1 rfl)
theorem sim_or {K : PySem.W.Frag} {mg : Str → Option Value} (h : SimT K mg Wx t m) (h' : SimT K mg Wx u n) : SimT K mg Wx (tOr t u) (mOr m n) := fun W σ s A H Q k sr z => h W σ s A H _ k sr (z.bind fun x A1 v W1 H1 e1 k1 r1 h1 => by
  cases r1
  cases x with
  | true => exact h1.ok_at k1 rfl
  | false => exact h' W1 σ s A1 H1 _ k1 (sr.le e1.le) h1)
theorem wand1 (h : ST X Wx a t m) : SW X Wx (.BoolOp .And [a] pos) t m := ⟨pw_and1 h.pt, h.sim⟩
theorem wor1 (h : ST X Wx a t m) : SW X Wx (.BoolOp .Or [a] pos) t m := ⟨pw_or1 h.pt, h.sim⟩
theorem wand (h : ST X Wx a t m) (h' : SW X Wx (.BoolOp .And (b :: es) pos) u n) : SW X Wx (.BoolOp .And (a :: b :: es) pos) (tAnd t u) (mAnd m n) := ⟨pw_and h.pt h'.pw, sim_and h.sim h'.sim⟩
theorem wor (h : ST X Wx a t m) (h' : SW X Wx (.BoolOp .Or (b :: es) pos) u n) : SW X Wx (.BoolOp .Or (a :: b :: es) pos) (tOr t u) (mOr m n) := ⟨pw_or h.pt h'.pw, sim_or h.sim h'.sim⟩
theorem twd (h : SW X Wx e t m) : ST X Wx e t m := ⟨h.pw.pt, h.sim⟩
/-- and, or, not as values: all but the last True or False -/
def mAndV (a b : ME) : ME := fun s A => (a s A).bind fun x A1 => (toB x A1).bind fun k A2 => if k then b s A2 else .ok (.bl false) A2
def mOrV (a b : ME) : ME := fun s A => (a s A).bind fun x A1 => (toB x A1).bind fun k A2 => if k then .ok (.bl true) A2 else b s A2
def mNotV (a : ME) : ME := fun s A => (a s A).bind fun x A1 => (toB x A1).bind fun k A2 => .ok (.bl (!k)) A2
theorem sone {op : BoolOp} (h : SE X Wx a ta ma) : SE X Wx (.BoolOp op [a] pos) ta ma := ⟨pe_one h.pe, h.sim⟩
theorem sand (h : SE X Wx a ta ma) (h' : SE X Wx (.BoolOp .And (b :: es) pos) tb mb) : SE X Wx (.BoolOp .And (a :: b :: es) pos) (tAndV ta tb) (mAndV ma mb) :=
  ⟨pe_and h.pe h'.pe, fun W σ s A H Q k sr z => h.sim W σ s A H _ k sr (z.bind fun x A1 v W1 H1 e1 k1 r1 h1 => by
    cases x with
    | bl y =>
      refine ⟨y, r1, ?_⟩
      cases y with
      | true => exact h'.sim W1 σ s A1 H1 _ k1 (sr.le e1.le) h1
      | false => exact h1.ok_at k1 rfl
    | _ => exact h1.elim)⟩
theorem sor (h : SE X Wx a ta ma) (h' : SE X Wx (.BoolOp .Or (b :: es) pos) tb mb) : SE X Wx (.BoolOp .Or (a :: b :: es) pos) (tOrV ta tb) (mOrV ma mb) :=
  ⟨pe_or h.pe h'.pe, fun W σ s A H Q k sr z => h.sim W σ s A H _ k sr (z.bind fun x A1 v W1 H1 e1 k1 r1 h1 => by
    cases x with
    | bl y =>
      refine ⟨y, r1, ?_⟩
      cases y with
      | true => exact h1.ok_at k1 rfl
      | false => exact h'.sim W1 σ s A1 H1 _ k1 (sr.le e1.le) h1
    | _ => exact h1.elim)⟩
theorem snot (h : SE X Wx a ta ma) : SE X Wx (.UnaryOp .Not a pos) (tNotV ta) (mNotV ma) :=
  ⟨pe_not h.pe, fun W σ s A H Q k sr z => h.sim W σ s A H _ k sr (z.bind fun x A1 v W1 H1 e1 k1 r1 h1 => by
    cases x with
    | bl y => exact ⟨y, r1, h1.ok_at k1 rfl⟩
    | _ => exact h1.elim)⟩
theorem sif {mc' : MT} {tt : TT} (h : ST X Wx c tt mc') (ha : SE X Wx a ta ma) (hb : SE X Wx b tb mb) : SE X Wx (.IfExp c a b pos) (tIf tt ta tb) (mIf mc' ma mb) :=
  ⟨pe_ifExp h.pt ha.pe hb.pe, fun W σ s A H Q k sr z => h.sim W σ s A H _ k sr (z.bind fun x A1 v W1 H1 e1 k1 r1 h1 => by
    cases r1
    cases x with
    | true => exact ha.sim W1 σ s A1 H1 _ k1 (sr.le e1.le) h1
    | false => exact hb.sim W1 σ s A1 H1 _ k1 (sr.le e1.le) h1)⟩

variable {tr : TA} {mr : MA}
theorem anil : SA X Wx [] tNil mNil := ⟨pa_nil, fun W σ s A H Q k sr h => h.ok_at k rfl⟩
theorem acons (ha : SE X Wx e te me) (hr : SA X Wx es tr mr) (hs : starEach (e :: es) X.env = (false, eval e X.env) :: starEach es X.env := by rfl) : SA X Wx (e :: es) (tCons te tr) (mCons me mr) :=
  ⟨pa_cons ha.pe hr.pa hs, fun W σ s A H Q k sr h => ha.sim W σ s A H _ k sr (h.bind fun x A1 v W1 H1 e1 k1 r1 h1 =>
    hr.sim W1 σ s A1 H1 _ k1 (sr.le e1.le) (h1.bind fun xs A2 vs W2 H2 e2 k2 r2 h2 => h2.ok_at k2 (Reps.cons (r1.le e2.le) r2)))⟩
end
end Tg

set_option Elab.async false
set_option linter.all false
set_option maxRecDepth 100000
/-! TgOps: operators by values. -/
namespace Tg
open PySem L2

/-! ### lists, tuples by values -/
/-- a list that can be added to another: no script -/
def lstL (A : AH) : D → Option (List D)
  | .lst ds => some ds
  | .ref n => match A[n]? with
    | some (.lst ds) => some ds
    | _ => none
  | _ => none
/-- any list -/
def seqL (A : AH) : D → Option (List D)
  | .lst ds => some ds
  | .ref n => match A[n]? with
    | some (.lst ds) => some ds
    | _ => none
  | .scr ns => some (ns.map .int)
  | _ => none
section
variable {K : PySem.W.Frag} {mg : Str → Option Value} {W : Wd} {A : AH} {H : Hp}
theorem reps_ints (W : Wd) : ∀ ns : List Int, Reps K W (ns.map .int) (ns.map V.int)
  | [] => rfl
  | n :: ns => ⟨_, _, rfl, rfl, reps_ints W ns⟩
theorem lstL_at (k : Ok K mg W A H) {d : D} {v : V} (r : Rep K W d v) {ds : List D} (e : lstL A d = some ds) : ∃ a xs, v = .ref a ∧ H a = some (.lst xs) ∧ Reps K W ds xs := by
  cases d with
  | lst es =>
    obtain ⟨a, xs, ev, ha, rr⟩ := r
    cases (show some es = some ds from e)
    exact ⟨a, xs, ev, k.frz _ _ ha, rr⟩
  | ref n =>
    obtain ⟨a, ev, ha⟩ := r
    unfold lstL at e
    dsimp only at e
    split at e
    · rename_i es q
      cases e
      obtain ⟨xs, hx, rr⟩ := k.lookL ha q
      exact ⟨a, xs, ev, hx, rr⟩
    · cases e
  | _ => cases (show none = some ds from e)
theorem seqL_at (k : Ok K mg W A H) {d : D} {v : V} (r : Rep K W d v) {ds : List D} (e : seqL A d = some ds) : ∃ a xs, v = .ref a ∧ SqL K H a xs ∧ Reps K W ds xs := by
  cases d with
  | lst es =>
    obtain ⟨a, xs, ev, ha, rr⟩ := r
    cases (show some es = some ds from e)
    exact ⟨a, xs, ev, .of (k.frz _ _ ha), rr⟩
  | ref n =>
    obtain ⟨a, ev, ha⟩ := r
    unfold seqL at e
    dsimp only at e
    split at e
    · rename_i es q
      cases e
      obtain ⟨xs, hx, rr⟩ := k.lookL ha q
      exact ⟨a, xs, ev, .of hx, rr⟩
    · cases e
  | scr ns =>
    obtain ⟨a, ev, hs⟩ := r
    cases (show some (ns.map D.int) = some ds from e)
    exact ⟨a, _, ev, k.sqL hs, reps_ints W ns⟩
  | _ => cases (show none = some ds from e)
theorem tup_at (k : Ok K mg W A H) {ds : List D} {v : V} (r : Rep K W (.tup ds) v) : ∃ a xs, v = .ref a ∧ SqT K H a xs ∧ Reps K W ds xs := by
  obtain ⟨a, xs, ev, ha, rr⟩ := r
  exact ⟨a, xs, ev, k.sqT ha, rr⟩
variable {E : XK} {Q : VK} {ds : List D} {xs : List V} {p : Addr}
/-- a new list that lies still; a new tuple; a new list that will change -/
theorem post_lst (k : Ok K mg W A H) (h : Post K mg (Rep K) W H E Q (.ok (.lst ds) A)) (r : Reps K W ds xs) (hp : H p = none) : Q (.ref p) (upd H p (.lst xs)) := by
  obtain ⟨k1, e1⟩ := k.frozen hp (.lst xs)
  exact h _ _ _ e1 k1 ⟨p, xs, rfl, upd_same, r.le e1.le⟩
theorem post_tup (k : Ok K mg W A H) (h : Post K mg (Rep K) W H E Q (.ok (.tup ds) A)) (r : Reps K W ds xs) (hp : H p = none) : Q (.ref p) (upd H p (.tup xs)) := by
  obtain ⟨k1, e1⟩ := k.frozen hp (.tup xs)
  exact h _ _ _ e1 k1 ⟨p, xs, rfl, .inl (.inl upd_same), r.le e1.le⟩
theorem post_new (k : Ok K mg W A H) (h : Post K mg (Rep K) W H E Q (.ok (.ref A.length) (A ++ [.lst ds]))) (r : Reps K W ds xs) (hp : H p = none) : Q (.ref p) (upd H p (.lst xs)) := by
  have l : Le W ⟨W.F, W.m ++ [p]⟩ := ⟨fun _ _ e => e, [p], rfl⟩
  obtain ⟨k1, e1⟩ := k.fresh hp (o := .lst xs) (u := .lst ds) ⟨xs, rfl, r.le l⟩
  refine h _ _ _ e1 k1 ⟨p, rfl, ?_⟩
  rw [← k.len]
  exact List.getElem?_concat_length
end

/-! ### + - * // % ** -/
def rAddU (K : PySem.W.Frag) : R2 := fun x y H Q => (rI0 (fun i j => .int (i + j)) x y H Q ∨ (∃ i j, x = .str i ∧ y = .str j ∧ i.length + j.length ≤ sizeLine ∧ Q (.str (i ++ j)) H)) ∨ rCatA K x y H Q ∨ rCat x y H Q
theorem oAdd {X : Cx} : OpR X (binaryOp .Add) (rAddU X.K) := (op_add.or op_add_str).or (op_catA.or op_cat)
def addD : D → D → AH → R D
  | .int i, .int j, A => .ok (.int (i + j)) A
  | .str i, .str j, A => if i.length + j.length ≤ 16777216 then .ok (.str (i ++ j)) A else .bad
  | .tup ds, .tup es, A => if ds.length + es.length ≤ 16777216 then .ok (.tup (ds ++ es)) A else .bad
  | x, y, A => match lstL A x, lstL A y with
    | some ds, some es => if ds.length + es.length ≤ 16777216 then .ok (.lst (ds ++ es)) A else .bad
    | _, _ => .bad
/-- + of lists, the new one will change -/
def addN : D → D → AH → R D := fun x y A => match lstL A x, lstL A y with
  | some ds, some es => if ds.length + es.length ≤ 16777216 then .ok (.ref A.length) (A ++ [.lst (ds ++ es)]) else .bad
  | _, _ => .bad
theorem sz_of {n : Nat} (h : n ≤ 16777216) : n ≤ sizeLine := by
  rw [sizeLine_eq]
  exact h
section
variable {K : PySem.W.Frag} {mg : Str → Option Value}
theorem oAddS : OpS K mg (rAddU K) addD := fun W A H E Q d e x y k rx ry h => by
  unfold addD at h
  split at h
  · exact .inl (.inl ⟨_, _, rx, ry, h.ok_at k rfl⟩)
  · split at h
    · rename_i z
      exact .inl (.inr ⟨_, _, rx, ry, sz_of z, h.ok_at k rfl⟩)
    · exact h.elim
  · rename_i ds es
    split at h
    · rename_i z
      obtain ⟨a, xs, ex, sx, r1⟩ := tup_at k rx
      obtain ⟨b, ys, ey, sy, r2⟩ := tup_at k ry
      refine .inr (.inl ⟨a, b, xs, ys, ex, ey, sx, sy, ?_, fun hx => ?_, fun hx hy => ?_, fun hx hy p hp => post_tup k h (r1.append r2) hp⟩)
      · rw [r1.length, r2.length]
        exact sz_of z
      · subst hx
        have z1 := r1.length
        have z2 : ds = [] := List.length_eq_zero_iff.mp z1.symm
        subst z2
        rw [← ey]
        exact h.ok_at k ry
      · subst hy
        have z1 := r2.length
        have z2 : es = [] := List.length_eq_zero_iff.mp z1.symm
        subst z2
        rw [List.append_nil] at h
        rw [← ex]
        exact h.ok_at k rx
    · exact h.elim
  · split at h
    · rename_i ds es e1 e2
      split at h
      · rename_i z
        obtain ⟨a, xs, ex, hx, r1⟩ := lstL_at k rx e1
        obtain ⟨b, ys, ey, hy, r2⟩ := lstL_at k ry e2
        refine .inr (.inr ⟨a, b, xs, ys, ex, ey, hx, hy, ?_, fun p hp => post_lst k h (r1.append r2) hp⟩)
        rw [r1.length, r2.length]
        exact sz_of z
      · exact h.elim
    · exact h.elim
theorem oAddNS : OpS K mg (rAddU K) addN := fun W A H E Q d e x y k rx ry h => by
  unfold addN at h
  split at h
  · rename_i ds es e1 e2
    split at h
    · rename_i z
      obtain ⟨a, xs, ex, hx, r1⟩ := lstL_at k rx e1
      obtain ⟨b, ys, ey, hy, r2⟩ := lstL_at k ry e2
      refine .inr (.inr ⟨a, b, xs, ys, ex, ey, hx, hy, ?_, fun p hp => post_new k h (r1.append r2) hp⟩)
      rw [r1.length, r2.length]
      exact sz_of z
    · exact h.elim
  · exact h.elim
end
def subD : D → D → AH → R D
  | .int i, .int j, A => .ok (.int (i - j)) A
  | _, _, _ => .bad
theorem oSubS {K : PySem.W.Frag} {mg : Str → Option Value} : OpS K mg (rI0 fun i j => .int (i - j)) subD := fun W A H E Q d e x y k rx ry h => by
  unfold subD at h
  split at h
  · exact ⟨_, _, rx, ry, h.ok_at k rfl⟩
  · exact h.elim
def rMulU (K : PySem.W.Frag) : R2 := fun x y H Q => rI CMul (fun i j => .int (i * j)) x y H Q ∨ rRep x y H Q ∨ rRepT K x y H Q
theorem oMul {X : Cx} : OpR X (binaryOp .Mult) (rMulU X.K) := op_mul.or (op_rep.or op_repT)
def repD (k : Nat) (ds : List D) : List D := (List.replicate k ds).flatten
def mulD : D → D → AH → R D
  | .int i, .int j, A => if (-(2 ^ 64) < i ∧ i < 2 ^ 64) ∨ (-(2 ^ 64) < j ∧ j < 2 ^ 64) then .ok (.int (i * j)) A else .bad
  | .tup ds, .int k, A => if ds ≠ [] ∧ 2 ≤ k ∧ k ≤ 1000 ∧ ds.length ≤ 1000 then .ok (.tup (repD k.toNat ds)) A else .bad
  | x, .int k, A => match lstL A x with
    | some ds => if -(2 ^ 63) ≤ k ∧ k < 2 ^ 63 ∧ ds.length * k.toNat ≤ 16777216 then .ok (.lst (repD k.toNat ds)) A else .bad
    | none => .bad
  | _, _, _ => .bad
def mulN : D → D → AH → R D
  | x, .int k, A => match lstL A x with
    | some ds => if -(2 ^ 63) ≤ k ∧ k < 2 ^ 63 ∧ ds.length * k.toNat ≤ 16777216 then .ok (.ref A.length) (A ++ [.lst (repD k.toNat ds)]) else .bad
    | none => .bad
  | _, _, _ => .bad
section
variable {K : PySem.W.Frag} {mg : Str → Option Value}
theorem Reps.rep {W : Wd} {ds : List D} {xs : List V} (r : Reps K W ds xs) : ∀ n : Nat, Reps K W (repD n ds) (List.replicate n xs).flatten
  | 0 => rfl
  | n + 1 => by
    show Reps K W (List.replicate (n + 1) ds).flatten _
    rw [List.replicate_succ, List.replicate_succ, List.flatten_cons, List.flatten_cons]
    exact r.append (Reps.rep r n)
theorem oMulS : OpS K mg (rMulU K) mulD := fun W A H E Q d e x y k rx ry h => by
  unfold mulD at h
  split at h
  · split at h
    · rename_i z
      exact .inl ⟨_, _, rx, ry, z, h.ok_at k rfl⟩
    · exact h.elim
  · split at h
    · rename_i z
      obtain ⟨z1, z2, z3, z4⟩ := z
      obtain ⟨a, xs, ex, sx, r1⟩ := tup_at k rx
      refine .inr (.inr ⟨a, _, xs, ex, ry, sx, fun q => z1 ?_, z2, z3, ?_, fun p hp => post_tup k h (r1.rep _) hp⟩)
      · subst q
        exact List.length_eq_zero_iff.mp r1.length.symm
      · rw [r1.length]
        exact z4
    · exact h.elim
  · split at h
    · rename_i ds e1
      split at h
      · rename_i z
        obtain ⟨a, xs, ex, sx, r1⟩ := lstL_at k rx e1
        refine .inr (.inl ⟨a, _, xs, ex, ry, sx, z.1, z.2.1, ?_, fun p hp => post_lst k h (r1.rep _) hp⟩)
        rw [r1.length]
        exact sz_of z.2.2
      · exact h.elim
    · exact h.elim
  · exact h.elim
theorem oMulNS : OpS K mg (rMulU K) mulN := fun W A H E Q d e x y k rx ry h => by
  unfold mulN at h
  split at h
  · split at h
    · rename_i ds e1
      split at h
      · rename_i z
        obtain ⟨a, xs, ex, sx, r1⟩ := lstL_at k rx e1
        refine .inr (.inl ⟨a, _, xs, ex, ry, sx, z.1, z.2.1, ?_, fun p hp => post_new k h (r1.rep _) hp⟩)
        rw [r1.length]
        exact sz_of z.2.2
      · exact h.elim
    · exact h.elim
  · exact h.elim
end
def fdivD : D → D → AH → R D
  | .int i, .int j, A => if 0 < j ∧ j < 1073741824 then .ok (.int (i / j)) A else .bad
  | _, _, _ => .bad
def modD : D → D → AH → R D
  | .int i, .int j, A => if 0 < j then .ok (.int (i % j)) A else .bad
  | _, _, _ => .bad
def powD : D → D → AH → R D
  | .int i, .int j, A => if 0 ≤ j ∧ j ≤ 1000000 ∧ i.natAbs < 2 ^ 64 then .ok (.int (i ^ j.toNat)) A else .bad
  | _, _, _ => .bad
def negD : D → AH → R D
  | .int i, A => .ok (.int (-i)) A
  | _, _ => .bad
section
variable {K : PySem.W.Frag} {mg : Str → Option Value}
theorem oFdivS : OpS K mg (rI CDiv fun i j => .int (i / j)) fdivD := fun W A H E Q d e x y k rx ry h => by
  unfold fdivD at h
  split at h
  · split at h
    · rename_i z
      exact ⟨_, _, rx, ry, z, h.ok_at k rfl⟩
    · exact h.elim
  · exact h.elim
theorem oModS : OpS K mg (rI (fun _ j => 0 < j) fun i j => .int (i % j)) modD := fun W A H E Q d e x y k rx ry h => by
  unfold modD at h
  split at h
  · split at h
    · rename_i z
      exact ⟨_, _, rx, ry, z, h.ok_at k rfl⟩
    · exact h.elim
  · exact h.elim
theorem oPowS : OpS K mg (rI CPow fun i j => .int (i ^ j.toNat)) powD := fun W A H E Q d e x y k rx ry h => by
  unfold powD at h
  split at h
  · split at h
    · rename_i z
      exact ⟨_, _, rx, ry, z, h.ok_at k rfl⟩
    · exact h.elim
  · exact h.elim
theorem oNegS : UnS K mg (rU fun i => .int (-i)) negD := fun W A H E Q d x k rx h => by
  unfold negD at h
  split at h
  · exact ⟨_, rx, h.ok_at k rfl⟩
  · exact h.elim
end

/-! ### < <= > >= of ints, is None -/
def ltD : D → D → AH → R D
  | .int i, .int j, A => .ok (.bl (decide (i < j))) A
  | _, _, _ => .bad
def leD : D → D → AH → R D
  | .int i, .int j, A => .ok (.bl (decide (i ≤ j))) A
  | _, _, _ => .bad
def gtD : D → D → AH → R D
  | .int i, .int j, A => .ok (.bl (decide (j < i))) A
  | _, _, _ => .bad
def geD : D → D → AH → R D
  | .int i, .int j, A => .ok (.bl (decide (j ≤ i))) A
  | _, _, _ => .bad
def isNon : D → Bool
  | .non => true
  | _ => false
def isD : D → D → AH → R D
  | x, .non, A => .ok (.bl (isNon x)) A
  | _, _, _ => .bad
def isntD : D → D → AH → R D
  | x, .non, A => .ok (.bl (!isNon x)) A
  | _, _, _ => .bad
section
variable {K : PySem.W.Frag} {mg : Str → Option Value}
theorem oLtS : OpS K mg (rI0 fun i j => .bl (decide (i < j))) ltD := fun W A H E Q d e x y k rx ry h => by
  unfold ltD at h
  split at h
  · exact ⟨_, _, rx, ry, h.ok_at k rfl⟩
  · exact h.elim
theorem oLeS : OpS K mg (rI0 fun i j => .bl (decide (i ≤ j))) leD := fun W A H E Q d e x y k rx ry h => by
  unfold leD at h
  split at h
  · exact ⟨_, _, rx, ry, h.ok_at k rfl⟩
  · exact h.elim
theorem oGtS : OpS K mg (rI0 fun i j => .bl (decide (j < i))) gtD := fun W A H E Q d e x y k rx ry h => by
  unfold gtD at h
  split at h
  · exact ⟨_, _, rx, ry, h.ok_at k rfl⟩
  · exact h.elim
theorem oGeS : OpS K mg (rI0 fun i j => .bl (decide (j ≤ i))) geD := fun W A H E Q d e x y k rx ry h => by
  unfold geD at h
  split at h
  · exact ⟨_, _, rx, ry, h.ok_at k rfl⟩
  · exact h.elim
theorem rep_non {W : Wd} {d : D} {x : V} (r : Rep K W d x) : decide (x = .non) = isNon d := by
  cases d with
  | non =>
    cases (show x = .non from r)
    rfl
  | bl b =>
    cases (show x = .bl b from r)
    rfl
  | int b =>
    cases (show x = .int b from r)
    rfl
  | str b =>
    cases (show x = .str b from r)
    rfl
  | tup ds =>
    obtain ⟨a, xs, rfl, _⟩ := r
    rfl
  | lst ds =>
    obtain ⟨a, xs, rfl, _⟩ := r
    rfl
  | dct ks ds =>
    obtain ⟨a, xs, rfl, _⟩ := r
    rfl
  | ref n =>
    obtain ⟨a, rfl, _⟩ := r
    rfl
  | scr n =>
    obtain ⟨a, rfl, _⟩ := r
    rfl
theorem oIsS : OpS K mg (fun x y H Q => y = .non ∧ Q (.bl (decide (x = .non))) H) isD := fun W A H E Q d e x y k rx ry h => by
  unfold isD at h
  split at h
  · refine ⟨ry, ?_⟩
    rw [rep_non rx]
    exact h.ok_at k rfl
  · exact h.elim
theorem oIsntS : OpS K mg (fun x y H Q => y = .non ∧ Q (.bl (!decide (x = .non))) H) isntD := fun W A H E Q d e x y k rx ry h => by
  unfold isntD at h
  split at h
  · refine ⟨ry, ?_⟩
    rw [rep_non rx]
    exact h.ok_at k rfl
  · exact h.elim
end

/-! ### == != : scalars, then data at any depth -/
def scEq : D → D → Option Bool
  | .non, .non => some true
  | .bl a, .bl b => some (a == b)
  | .int a, .int b => some (a == b)
  | .str a, .str b => some (a == b)
  | .non, .int _ | .int _, .non | .non, .bl _ | .bl _, .non | .non, .str _ | .str _, .non => some false
  | .int _, .str _ | .str _, .int _ | .bl _, .str _ | .str _, .bl _ => some false
  | _, _ => none
def pysOf (f : D → Option PyData) : List D → Option (List PyData)
  | [] => some []
  | d :: ds => match f d, pysOf f ds with
    | some p, some ps => some (p :: ps)
    | _, _ => none
/-- data as it can be compared; what changes as it stands now -/
def pyOf : Nat → AH → D → Option PyData
  | 0, _, _ => none
  | n + 1, A, d => match d with
    | .non => some .none
    | .bl b => some (.bool b)
    | .int i => some (.int i)
    | .str s => some (.str s)
    | .tup ds => (pysOf (pyOf n A) ds).map .tuple
    | .lst ds => (pysOf (pyOf n A) ds).map .list
    | .ref k => match A[k]? with
      | some (.lst ds) => (pysOf (pyOf n A) ds).map .list
      | _ => none
    | .scr ns => some (.list (ns.map .int))
    | .dct _ _ => none
def eqD (x y : D) (A : AH) : R D := match scEq x y with
  | some b => .ok (.bl b) A
  | none => match pyOf 12 A x, pyOf 12 A y with
    | some p, some q => if SeqAt.shaped p && SeqAt.shaped q then .ok (.bl (PyData.eqv p q)) A else .bad
    | _, _ => .bad
def neD (x y : D) (A : AH) : R D := match scEq x y with
  | some b => .ok (.bl (!b)) A
  | none => match pyOf 12 A x, pyOf 12 A y with
    | some p, some q => if SeqAt.shaped p && SeqAt.shaped q then .ok (.bl (!PyData.eqv p q)) A else .bad
    | _, _ => .bad
section
variable {K : PySem.W.Frag} {mg : Str → Option Value} {W : Wd} {A : AH} {H : Hp}
theorem dps_of (f : D → Option PyData) (hf : ∀ d p v, f d = some p → Rep K W d v → Dp K H v p) : ∀ (ds : List D) (ps : List PyData) (vs : List V), pysOf f ds = some ps → Reps K W ds vs → DpAll K H vs ps
  | [], ps, vs, e, r => by
    cases (show some [] = some ps from e)
    cases (show vs = [] from r)
    exact .nil
  | d :: ds, ps, vs, e, r => by
    unfold pysOf at e
    split at e
    · rename_i p ps' e1 e2
      cases e
      obtain ⟨v, r', rfl, h1, h2⟩ := r
      exact .cons (hf d p v e1 h1) (dps_of f hf ds ps' r' e2 h2)
    · cases e
theorem dp_ints : ∀ ns : List Int, DpAll K H (ns.map V.int) (ns.map PyData.int)
  | [] => .nil
  | n :: ns => .cons (.int n) (dp_ints ns)
theorem dp_of (k : Ok K mg W A H) : ∀ (n : Nat) (d : D) (p : PyData) (v : V), pyOf n A d = some p → Rep K W d v → Dp K H v p
  | 0, _, _, _, e, _ => by cases (show none = some _ from e)
  | n + 1, d, p, v, e, r => by
    cases d with
    | non =>
      cases (show some PyData.none = some p from e)
      cases (show v = .non from r)
      exact .non
    | bl b =>
      cases (show some (PyData.bool b) = some p from e)
      cases (show v = .bl b from r)
      exact .bl b
    | int b =>
      cases (show some (PyData.int b) = some p from e)
      cases (show v = .int b from r)
      exact .int b
    | str b =>
      cases (show some (PyData.str b) = some p from e)
      cases (show v = .str b from r)
      exact .str b
    | tup ds =>
      obtain ⟨ps, e1, rfl⟩ := Option.map_eq_some_iff.mp (show (pysOf (pyOf n A) ds).map PyData.tuple = some p from e)
      obtain ⟨a, xs, rfl, sx, rr⟩ := tup_at k r
      exact .tup sx (dps_of _ (fun d p v => dp_of k n d p v) ds ps xs e1 rr)
    | lst ds =>
      obtain ⟨ps, e1, rfl⟩ := Option.map_eq_some_iff.mp (show (pysOf (pyOf n A) ds).map PyData.list = some p from e)
      obtain ⟨a, xs, rfl, sx, rr⟩ := seqL_at k r (ds := ds) rfl
      exact .lst sx (dps_of _ (fun d p v => dp_of k n d p v) ds ps xs e1 rr)
    | ref j =>
      unfold pyOf at e
      dsimp only at e
      split at e
      · rename_i ds q
        obtain ⟨ps, e1, rfl⟩ := Option.map_eq_some_iff.mp e
        obtain ⟨a, rfl, ha⟩ := r
        obtain ⟨xs, hx, rr⟩ := k.lookL ha q
        exact .lst (.of hx) (dps_of _ (fun d p v => dp_of k n d p v) ds ps xs e1 rr)
      · cases e
    | scr ns =>
      cases (show some (PyData.list (ns.map .int)) = some p from e)
      obtain ⟨a, rfl, hs⟩ := r
      exact .lst (k.sqL hs) (dp_ints ns)
    | dct ks ds => cases (show none = some p from e)
theorem scEq_at {d e : D} {x y : V} {b : Bool} (h : scEq d e = some b) (rx : Rep K W d x) (ry : Rep K W e y) : scal x y = true ∧ decide (x = y) = b := by
  unfold scEq at h
  split at h
  all_goals first
    | (cases h
       cases rx
       cases ry
       exact ⟨rfl, by first | rfl | exact dec_int | exact dec_bl | exact dec_str⟩)
    | cases h
end
def rEqU (K : PySem.W.Frag) : R2 := fun x y H Q => rEq x y H Q ∨ rEqD K x y H Q
def rNeU (K : PySem.W.Frag) : R2 := fun x y H Q => rNe x y H Q ∨ rNeD K x y H Q
theorem oEq {X : Cx} {k : Nat} (hr : Room k X.A) : OpR X (compareOp .Eq) (rEqU X.K) := op_eq.or (op_eqD hr.units)
theorem oNe {X : Cx} {k : Nat} (hr : Room k X.A) : OpR X (compareOp .NotEq) (rNeU X.K) := op_ne.or (op_neD hr.units)
section
variable {K : PySem.W.Frag} {mg : Str → Option Value}
theorem oEqS : OpS K mg (rEqU K) eqD := fun W A H E Q d e x y k rx ry h => by
  unfold eqD at h
  split at h
  · rename_i b hb
    obtain ⟨h1, h2⟩ := scEq_at hb rx ry
    refine .inl ⟨h1, ?_⟩
    rw [h2]
    exact h.ok_at k rfl
  · split at h
    · rename_i p q e1 e2
      split at h
      · rename_i z
        have z' := Bool.and_eq_true_iff.mp z
        exact .inr ⟨p, q, dp_of k _ _ _ _ e1 rx, dp_of k _ _ _ _ e2 ry, z'.1, z'.2, h.ok_at k rfl⟩
      · exact h.elim
    · exact h.elim
theorem oNeS : OpS K mg (rNeU K) neD := fun W A H E Q d e x y k rx ry h => by
  unfold neD at h
  split at h
  · rename_i b hb
    obtain ⟨h1, h2⟩ := scEq_at hb rx ry
    refine .inl ⟨h1, ?_⟩
    rw [h2]
    exact h.ok_at k rfl
  · split at h
    · rename_i p q e1 e2
      split at h
      · rename_i z
        have z' := Bool.and_eq_true_iff.mp z
        exact .inr ⟨p, q, dp_of k _ _ _ _ e1 rx, dp_of k _ _ _ _ e2 ry, z'.1, z'.2, h.ok_at k rfl⟩
      · exact h.elim
    · exact h.elim
end
end Tg

set_option Elab.async false
set_option linter.all false
set_option maxRecDepth 100000
set_option maxHeartbeats 1000000
/-! TgSeq: in, subscripts, slices, displays, fields, dicts, built-ins and methods by values. -/
namespace Tg
open PySem PySem.Spec PyProof.Rows L2

/-! ### dicts as tables -/
def lkK (kvs : List (Key × D)) (k : Key) : Option D := (kvs.find? fun kv => decide (kv.1 = k)).map (·.2)
def ptK (kvs : List (Key × D)) (k : Key) (d : D) : List (Key × D) :=
  if (kvs.any fun kv => decide (kv.1 = k)) = true then kvs.map (fun kv => if kv.1 = k then (kv.1, d) else kv) else kvs ++ [(k, d)]
def keyD : D → Option Key
  | .int i => some (.inl i)
  | .str s => some (.inr s)
  | _ => none
/-- a dict's pairs -/
def dctD (A : AH) : D → Option (List (Key × D))
  | .dct ks ds => some (ks.zip ds)
  | .ref n => match A[n]? with
    | some (.dct kvs) => some kvs
    | _ => none
  | _ => none
def KVR (K : PySem.W.Frag) (W : Wd) (kvs : List (Key × D)) (vs : List (Key × V)) : Prop := vs.map (·.1) = kvs.map (·.1) ∧ Reps K W (kvs.map (·.2)) (vs.map (·.2))
section
variable {K : PySem.W.Frag} {mg : Str → Option Value} {W : Wd} {A : AH} {H : Hp}
theorem KVR.le {W' : Wd} (l : Le W W') {kvs : List (Key × D)} {vs : List (Key × V)} (r : KVR K W kvs vs) : KVR K W' kvs vs := ⟨r.1, r.2.le l⟩
theorem KVR.cons_iff {p : Key × D} {kvs : List (Key × D)} {vs : List (Key × V)} (r : KVR K W (p :: kvs) vs) : ∃ v vs', vs = (p.1, v) :: vs' ∧ Rep K W p.2 v ∧ KVR K W kvs vs' := by
  obtain ⟨h1, h2⟩ := r
  cases vs with
  | nil => cases h1
  | cons q vs =>
    obtain ⟨v, r', e, h3, h4⟩ := h2
    obtain ⟨qk, qv⟩ := q
    simp only [List.map_cons, List.cons.injEq] at h1 e
    obtain ⟨e1, e2⟩ := h1
    obtain ⟨e3, e4⟩ := e
    subst e1 e3 e4
    exact ⟨_, _, rfl, h3, e2, h4⟩
theorem KVR.nil_iff {vs : List (Key × V)} (r : KVR K W [] vs) : vs = [] := by
  cases vs with
  | nil => rfl
  | cons q vs => cases r.1
theorem KVR.get {k : Key} {d : D} : ∀ {kvs : List (Key × D)} {vs : List (Key × V)}, KVR K W kvs vs → lkK kvs k = some d → ∃ v, valV vs k = some v ∧ Rep K W d v
  | [], _, _, e => by cases e
  | p :: kvs, vs, r, e => by
    obtain ⟨v, vs', rfl, h1, h2⟩ := r.cons_iff
    by_cases q : p.1 = k
    · have e' : lkK (p :: kvs) k = some p.2 := by simp [lkK, List.find?_cons, q]
      rw [e'] at e
      cases e
      exact ⟨v, valV_pos q, h1⟩
    · have e' : lkK (p :: kvs) k = lkK kvs k := by simp [lkK, List.find?_cons, q]
      rw [e'] at e
      obtain ⟨u, h3, h4⟩ := KVR.get h2 e
      exact ⟨u, by rw [valV_neg q]; exact h3, h4⟩
theorem KVR.none {k : Key} : ∀ {kvs : List (Key × D)} {vs : List (Key × V)}, KVR K W kvs vs → lkK kvs k = none → valV vs k = none
  | [], _, r, _ => by
    cases r.nil_iff
    rfl
  | p :: kvs, vs, r, e => by
    obtain ⟨v, vs', rfl, h1, h2⟩ := r.cons_iff
    by_cases q : p.1 = k
    · have e' : lkK (p :: kvs) k = some p.2 := by simp [lkK, List.find?_cons, q]
      rw [e'] at e
      cases e
    · have e' : lkK (p :: kvs) k = lkK kvs k := by simp [lkK, List.find?_cons, q]
      rw [e'] at e
      rw [valV_neg q]
      exact KVR.none h2 e
theorem KVR.isSome {k : Key} {kvs : List (Key × D)} {vs : List (Key × V)} (r : KVR K W kvs vs) : (valV vs k).isSome = (lkK kvs k).isSome := by
  cases e : lkK kvs k with
  | none =>
    rw [r.none e]
    rfl
  | some d =>
    obtain ⟨v, e1, _⟩ := r.get e
    rw [e1]
    rfl
theorem KVR.any {k : Key} : ∀ {kvs : List (Key × D)} {vs : List (Key × V)}, KVR K W kvs vs → (vs.any fun kv => decide (kv.1 = k)) = (kvs.any fun kv => decide (kv.1 = k))
  | [], _, r => by
    cases r.nil_iff
    rfl
  | p :: kvs, vs, r => by
    obtain ⟨v, vs', rfl, h1, h2⟩ := r.cons_iff
    simp only [List.any_cons, KVR.any h2]
theorem KVR.mk_cons {k : Key} {d : D} {v : V} {kvs : List (Key × D)} {vs : List (Key × V)} (h : Rep K W d v) (r : KVR K W kvs vs) : KVR K W ((k, d) :: kvs) ((k, v) :: vs) :=
  ⟨by simp only [List.map_cons, r.1], by simp only [List.map_cons]; exact Reps.cons h r.2⟩
theorem KVR.app {kvs lvs : List (Key × D)} {vs us : List (Key × V)} (r : KVR K W kvs vs) (r' : KVR K W lvs us) : KVR K W (kvs ++ lvs) (vs ++ us) :=
  ⟨by rw [List.map_append, List.map_append, r.1, r'.1], by rw [List.map_append, List.map_append]; exact r.2.append r'.2⟩
theorem KVR.over {k : Key} {d : D} {v : V} (h : Rep K W d v) : ∀ {kvs : List (Key × D)} {vs : List (Key × V)}, KVR K W kvs vs →
    KVR K W (kvs.map (fun kv => if kv.1 = k then (kv.1, d) else kv)) (vs.map (fun kv => if kv.1 = k then (kv.1, v) else kv))
  | [], _, r => by
    cases r.nil_iff
    exact ⟨rfl, rfl⟩
  | p :: kvs, vs, r => by
    obtain ⟨u, vs', rfl, h1, h2⟩ := r.cons_iff
    by_cases q : p.1 = k
    · simp only [List.map_cons, if_pos q]
      exact KVR.mk_cons h (KVR.over h h2)
    · simp only [List.map_cons, if_neg q]
      exact KVR.mk_cons (k := p.1) (d := p.2) h1 (KVR.over h h2)
theorem KVR.put {k : Key} {d : D} {v : V} {kvs : List (Key × D)} {vs : List (Key × V)} (r : KVR K W kvs vs) (h : Rep K W d v) : KVR K W (ptK kvs k d) (putK vs k v) := by
  unfold ptK putK
  rw [r.any]
  split
  · exact KVR.over h r
  · exact r.app ⟨rfl, Reps.one h⟩
theorem KVR.len {kvs : List (Key × D)} {vs : List (Key × V)} (r : KVR K W kvs vs) : vs.length = kvs.length := by
  have := congrArg List.length r.1
  simpa using this
theorem KVR.zip : ∀ {ks : List Key} {ds : List D} {vs : List (Key × V)}, vs.map (·.1) = ks → Reps K W ds (vs.map (·.2)) → KVR K W (ks.zip ds) vs
  | [], ds, vs, e, r => by
    cases vs with
    | nil => exact ⟨rfl, rfl⟩
    | cons q vs => cases e
  | k :: ks, ds, vs, e, r => by
    cases vs with
    | nil => cases e
    | cons q vs =>
      obtain ⟨qk, qv⟩ := q
      simp only [List.map_cons, List.cons.injEq] at e
      cases ds with
      | nil => cases (show _ = [] from r)
      | cons d ds =>
        obtain ⟨v, r', e2, h1, h2⟩ := r
        simp only [List.map_cons, List.cons.injEq] at e2
        obtain ⟨e3, e4⟩ := e2
        subst e3
        rw [← e4] at h2
        rw [← e.1]
        exact KVR.mk_cons h1 (KVR.zip e.2 h2)
theorem dctD_at (k : Ok K mg W A H) {d : D} {v : V} (r : Rep K W d v) {kvs : List (Key × D)} (e : dctD A d = some kvs) : ∃ a vs, v = .ref a ∧ H a = some (.dK vs) ∧ KVR K W kvs vs := by
  cases d with
  | dct ks ds =>
    obtain ⟨a, vs, ev, ha, hk, rr⟩ := r
    cases (show some (ks.zip ds) = some kvs from e)
    exact ⟨a, vs, ev, k.frz _ _ ha, KVR.zip hk rr⟩
  | ref n =>
    obtain ⟨a, ev, ha⟩ := r
    unfold dctD at e
    dsimp only at e
    split at e
    · rename_i es q
      cases e
      obtain ⟨vs, hx, hk, rr⟩ := k.obj n a _ ha q
      exact ⟨a, vs, ev, hx, hk, rr⟩
    · cases e
  | _ => cases (show none = some kvs from e)
theorem keyD_at {d : D} {v : V} {k : Key} (r : Rep K W d v) (e : keyD d = some k) : v = kV k := by
  cases d with
  | int i =>
    cases (show some (Sum.inl i) = some k from e)
    exact r
  | str s =>
    cases (show some (Sum.inr s) = some k from e)
    exact r
  | _ => cases (show none = some k from e)
end

/-! ### in, not in -/
def flatD : D → Bool
  | .non | .bl _ | .int _ | .str _ => true
  | _ => false
def feq : D → D → Bool
  | .non, .non => true
  | .bl a, .bl b => a == b
  | .bl a, .int b => (if a then 1 else 0) == b
  | .int a, .bl b => a == (if b then 1 else 0)
  | .int a, .int b => a == b
  | .str a, .str b => a == b
  | _, _ => false
section
variable {K : PySem.W.Frag} {mg : Str → Option Value} {W : Wd} {A : AH} {H : Hp}
theorem flat_at {d : D} {v : V} (r : Rep K W d v) (f : flatD d = true) : flatV v = true := by
  cases d <;> first
    | (cases r; rfl)
    | cases (show false = true from f)
theorem feq_at {d e : D} {v u : V} (r : Rep K W d v) (q : Rep K W e u) (f : flatD d = true) (g : flatD e = true) : eqV v u = feq d e := by
  cases d <;> first
    | cases (show false = true from f)
    | (cases e <;> first
        | cases (show false = true from g)
        | (cases r
           cases q
           rfl))
theorem flats_at : ∀ {ds : List D} {vs : List V}, Reps K W ds vs → ds.all flatD = true → vs.all flatV = true
  | [], _, r, _ => by
    cases (show _ = [] from r)
    rfl
  | d :: ds, _, r, f => by
    obtain ⟨v, r', rfl, h1, h2⟩ := r
    simp only [List.all_cons, Bool.and_eq_true] at f ⊢
    exact ⟨flat_at h1 f.1, flats_at h2 f.2⟩
theorem inV_at {d : D} {v : V} (r : Rep K W d v) (f : flatD d = true) : ∀ {ds : List D} {vs : List V}, Reps K W ds vs → ds.all flatD = true → inV v vs = ds.any fun y => feq y d
  | [], _, r', _ => by
    cases (show _ = [] from r')
    rfl
  | e :: ds, _, r', g => by
    obtain ⟨u, r2, rfl, h1, h2⟩ := r'
    simp only [List.all_cons, Bool.and_eq_true] at g
    have := inV_at r f h2 g.2
    unfold inV at this ⊢
    simp only [List.any_cons, this, feq_at h1 r g.1 f]
end
def itemsD (A : AH) : D → Option (List D)
  | .tup ds => some ds
  | d => seqL A d
def inB (x y : D) (A : AH) : Option Bool := match x, y with
  | .str s, .str t => some (!(Builtin.Str.occurrences t s 0 t.length 1).isEmpty)
  | x, y => match dctD A y with
    | some kvs => (keyD x).map fun k => (lkK kvs k).isSome
    | none => match itemsD A y with
      | some ds => if (flatD x && ds.all flatD) = true then some (ds.any fun z => feq z x) else
          match seqL A y, pyOf 12 A x, pyOf 12 A y with
          | some _, some p, some (.list qs) => if SeqAt.shaped p && SeqAt.shaped (.list qs) then some (qs.any fun z => PyData.eqv z p) else none
          | _, _, _ => none
      | none => none
def inD (x y : D) (A : AH) : R D := match inB x y A with
  | some b => .ok (.bl b) A
  | none => .bad
def ninD (x y : D) (A : AH) : R D := match inB x y A with
  | some b => .ok (.bl (!b)) A
  | none => .bad
def rInDct (neg : Bool) : R2 := fun x y H Q => ∃ a o, y = .ref a ∧ DGet H a x o ∧ Q (.bl (if neg then !o.isSome else o.isSome)) H
def rInAll (K : PySem.W.Frag) : R2 := fun x y H Q =>
  ((∃ i j, x = .str i ∧ y = .str j ∧ Q (.bl (!(Builtin.Str.occurrences j i 0 j.length 1).isEmpty)) H) ∨ rInDct false x y H Q) ∨ rIn K false x y H Q ∨ rInD K x y H Q
def rNInAll (K : PySem.W.Frag) : R2 := fun x y H Q =>
  ((∃ i j, x = .str i ∧ y = .str j ∧ Q (.bl (!(!(Builtin.Str.occurrences j i 0 j.length 1).isEmpty))) H) ∨ rInDct true x y H Q) ∨ rIn K true x y H Q ∨ rNotInD K x y H Q
section
variable {X : Cx}
theorem op_in_dct (hu : X.A.units + 1 < cLine) : OpR X (compareOp .In) (rInDct false) := by
  intro pn st sg Hh xv yv vv uu QQ II rx ry hh
  obtain ⟨a, o, rfl, g, q⟩ := hh
  obtain rfl : uu = Value.ref a := ry
  exact d_in hu II g rx fun s3 I3 => ⟨.bl o.isSome, Hh, I3, rfl, q⟩
theorem op_nin_dct (hu : X.A.units + 1 < cLine) : OpR X (compareOp .NotIn) (rInDct true) := by
  intro pn st sg Hh xv yv vv uu QQ II rx ry hh
  obtain ⟨a, o, rfl, g, q⟩ := hh
  obtain rfl : uu = Value.ref a := ry
  exact d_notIn hu II g rx fun s3 I3 => ⟨.bl (!o.isSome), Hh, I3, rfl, q⟩
theorem room_u1 {k : Nat} {B : Around} (r : Room k B) : B.units + 1 < cLine := by have := r.un; omega
theorem room_u65 {k : Nat} {B : Around} (r : Room k B) : B.units + 65 < cLine := by have := r.un; omega
theorem oIn {k : Nat} (hr : Room k X.A) : OpR X (compareOp .In) (rInAll X.K) := (op_in_str.or (op_in_dct (room_u1 hr))).or (op_in_seq.or (op_inD (room_u65 hr)))
theorem oNIn {k : Nat} (hr : Room k X.A) : OpR X (compareOp .NotIn) (rNInAll X.K) := (op_notin_str.or (op_nin_dct (room_u1 hr))).or (op_notIn_seq.or (op_notInD (room_u65 hr)))
end
section
variable {K : PySem.W.Frag} {mg : Str → Option Value} {W : Wd} {A : AH} {H : Hp}
theorem itemsD_at (k : Ok K mg W A H) {d : D} {v : V} (r : Rep K W d v) {ds : List D} (e : itemsD A d = some ds) : ∃ a xs, v = .ref a ∧ (SqL K H a xs ∨ SqT K H a xs) ∧ Reps K W ds xs := by
  cases d with
  | tup es =>
    cases (show some es = some ds from e)
    obtain ⟨a, xs, h1, h2, h3⟩ := tup_at k r
    exact ⟨a, xs, h1, .inr h2, h3⟩
  | _ =>
    obtain ⟨a, xs, h1, h2, h3⟩ := seqL_at k r e
    exact ⟨a, xs, h1, .inl h2, h3⟩
theorem inB_at (k : Ok K mg W A H) {d e : D} {x y : V} (rx : Rep K W d x) (ry : Rep K W e y) {b : Bool} (h : inB d e A = some b) :
    (∃ i j, x = .str i ∧ y = .str j ∧ b = (!(Builtin.Str.occurrences j i 0 j.length 1).isEmpty)) ∨ (∃ a o, y = .ref a ∧ DGet H a x o ∧ b = o.isSome) ∨
      (∃ p xs, y = .ref p ∧ (SqL K H p xs ∨ SqT K H p xs) ∧ flatV x = true ∧ xs.all flatV = true ∧ b = inV x xs) ∨
        ∃ d ds, Dp K H x d ∧ Dp K H y (.list ds) ∧ SeqAt.shaped d = true ∧ SeqAt.shaped (.list ds) = true ∧ b = ds.any fun z => PyData.eqv z d := by
  unfold inB at h
  split at h
  · cases h
    exact .inl ⟨_, _, rx, ry, rfl⟩
  · split at h
    · rename_i kvs e1
      obtain ⟨kk, e2, e3⟩ := Option.map_eq_some_iff.mp h
      obtain ⟨a, vs, rfl, h1, h2⟩ := dctD_at k ry e1
      refine .inr (.inl ⟨a, valV vs kk, rfl, ?_, ?_⟩)
      · rw [keyD_at rx e2]
        exact .k h1
      · rw [h2.isSome, e3]
    · split at h
      · rename_i ds e1
        obtain ⟨a, xs, rfl, h1, h2⟩ := itemsD_at k ry e1
        split at h
        · rename_i f
          cases h
          have f' := Bool.and_eq_true_iff.mp f
          exact .inr (.inr (.inl ⟨a, xs, rfl, h1, flat_at rx f'.1, flats_at h2 f'.2, (inV_at rx f'.1 h2 f'.2).symm⟩))
        · split at h
          · rename_i es p qs _ e4 e5
            split at h
            · rename_i z
              cases h
              have z' := Bool.and_eq_true_iff.mp z
              exact .inr (.inr (.inr ⟨p, qs, dp_of k _ _ _ _ e4 rx, dp_of k _ _ _ _ e5 ry, z'.1, z'.2, rfl⟩))
            · cases h
          · cases h
      · cases h
theorem oInS : OpS K mg (rInAll K) inD := fun W A H E Q d e x y k rx ry h => by
  unfold inD at h
  split at h
  · rename_i b hb
    rcases inB_at k rx ry hb with ⟨i, j, e1, e2, rfl⟩ | ⟨a, o, e1, g, rfl⟩ | ⟨p, xs, e1, h1, h2, h3, rfl⟩ | ⟨p, ds, h1, h2, h3, h4, rfl⟩
    · exact .inl (.inl ⟨i, j, e1, e2, h.ok_at k rfl⟩)
    · exact .inl (.inr ⟨a, o, e1, g, h.ok_at k rfl⟩)
    · exact .inr (.inl ⟨p, xs, e1, h1, h2, h3, h.ok_at k rfl⟩)
    · exact .inr (.inr ⟨p, ds, h1, h2, h3, h4, h.ok_at k rfl⟩)
  · exact h.elim
theorem oNInS : OpS K mg (rNInAll K) ninD := fun W A H E Q d e x y k rx ry h => by
  unfold ninD at h
  split at h
  · rename_i b hb
    rcases inB_at k rx ry hb with ⟨i, j, e1, e2, rfl⟩ | ⟨a, o, e1, g, rfl⟩ | ⟨p, xs, e1, h1, h2, h3, rfl⟩ | ⟨p, ds, h1, h2, h3, h4, rfl⟩
    · exact .inl (.inl ⟨i, j, e1, e2, h.ok_at k rfl⟩)
    · exact .inl (.inr ⟨a, o, e1, g, h.ok_at k rfl⟩)
    · exact .inr (.inl ⟨p, xs, e1, h1, h2, h3, h.ok_at k rfl⟩)
    · exact .inr (.inr ⟨p, ds, h1, h2, h3, h4, h.ok_at k rfl⟩)
  · exact h.elim
end

/-! ### subscripts -/
def ixD : D → D → AH → R D
  | .str z, .int i, A => match (if z.length ≤ 16777216 then atI z.cps.toList i else none) with
    | some c => .ok (.str ⟨#[c]⟩) A
    | none => .bad
  | x, y, A => match dctD A x with
    | some kvs => match (keyD y).bind (lkK kvs) with
      | some d => .ok d A
      | none => .bad
    | none => match itemsD A x, y with
      | some ds, .int i => match atI ds i with
        | some d => .ok d A
        | none => .bad
      | _, _ => .bad
def rIxDct : R2 := fun x y H Q => ∃ a v, x = .ref a ∧ DGet H a y (some v) ∧ Q v H
def rIxU (K : PySem.W.Frag) : R2 := fun x y H Q => rIxDct x y H Q ∨ rIx K x y H Q
section
variable {X : Cx}
theorem ix_dct (hu : X.A.units + 1 < cLine) : IxR X rIxDct := by
  intro val sl pn st sg Hh xv yv vv uu QQ II rx ry hh hs
  obtain ⟨a, z, rfl, g, q⟩ := hh
  obtain rfl : vv = Value.ref a := rx
  have hT := dict_typeIs II g
  unfold subscriptTail
  refine wpAny_bind ?_
  rw [getitemInPython_of_ne hT.not_modules]
  refine wpAny_bind (wpAny_specialOf hT PySem.F.slot_dict_getitem.lookup ?_)
  have fin : wpAny (model X.prog X.w) X.A (subscripted sl false (.ref a) uu) (fun r s3 => wpAny (model X.prog X.w) X.A (letTemporaryGo val (.ref a) r >>= fun _ => pure r) (EP X pn sg QQ) X.xe s3) X.xe st := by
    rw [hs]
    exact wpAny_operating (wpAny_mono (d_getItem (Q := EP X pn sg QQ) hu II g ry fun w2 s3 I3 rw2 => ⟨z, Hh, I3, rw2, q⟩) (fun r s3 h3 => wpAny_bind (wpAny_letTemporaryGo (wpAny_pure h3))) fun _ _ x => x)
  first
    | exact wpAny_pure (wpAny_bind fin)
    | exact wpAny_bind (wpAny_pure (wpAny_bind fin))
    | exact wpAny_bind fin
theorem oIx {k : Nat} (hr : Room k X.A) : IxR X (rIxU X.K) := (ix_dct (room_u1 hr)).or ix_seq
end
section
variable {K : PySem.W.Frag} {mg : Str → Option Value} {W : Wd} {A : AH} {H : Hp}
theorem Reps.atI {ds : List D} {xs : List V} {i : Int} {d : D} (r : Reps K W ds xs) (e : L2.atI ds i = some d) : ∃ v, L2.atI xs i = some v ∧ Rep K W d v := by
  unfold L2.atI at e ⊢
  rw [r.length]
  cases h : ixN ds.length i with
  | none =>
    rw [h] at e
    cases e
  | some j =>
    rw [h] at e
    exact r.get e
theorem oIxS : OpS K mg (rIxU K) ixD := fun W A H E Q d e x y k rx ry h => by
  unfold ixD at h
  split at h
  · split at h
    · rename_i c hc
      split at hc
      · rename_i z
        exact .inr (.inr (.inr ⟨_, _, c, rx, ry, sz_of z, hc, h.ok_at k rfl⟩))
      · cases hc
    · exact h.elim
  · split at h
    · rename_i kvs e1
      split at h
      · rename_i d' e2
        obtain ⟨kk, e3, e4⟩ := Option.bind_eq_some_iff.mp e2
        obtain ⟨a, vs, rfl, h1, h2⟩ := dctD_at k rx e1
        obtain ⟨v, h3, h4⟩ := h2.get e4
        refine .inl ⟨a, v, rfl, ?_, h.ok_at k h4⟩
        rw [keyD_at ry e3, ← h3]
        exact .k h1
      · exact h.elim
    · split at h
      · rename_i e1 _
        split at h
        · rename_i e2
          obtain ⟨a, xs, rfl, h1, h2⟩ := itemsD_at k rx e1
          obtain ⟨v, h3, h4⟩ := h2.atI e2
          rcases h1 with h1 | h1
          · exact .inr (.inl ⟨a, xs, _, v, rfl, ry, h1, h3, h.ok_at k h4⟩)
          · exact .inr (.inr (.inl ⟨a, xs, _, v, rfl, ry, h1, h3, h.ok_at k h4⟩))
        · exact h.elim
      · exact h.elim
end

/-! ### slices -/
def cutD (ds : List D) (lo hi : Option Int) : List D := (ds.drop (HT.sIx ds.length 0 lo)).take (HT.sIx ds.length ds.length hi - HT.sIx ds.length 0 lo)
def slD (x : D) (lo hi : Option Int) (A : AH) : R D := match x with
  | .str z => if z.length ≤ 16777216 then .ok (.str (cutS z lo hi)) A else .bad
  | .tup ds => .ok (.tup (cutD ds lo hi)) A
  | x => match seqL A x with
    | some ds => .ok (.lst (cutD ds lo hi)) A
    | none => .bad
def rSlU (K : PySem.W.Frag) : V → Option Int → Option Int → Hp → VK → Prop := fun x lo hi H Q => rSlS x lo hi H Q ∨ rSlA K x lo hi H Q ∨ rSlL K x lo hi H Q
theorem oSl {X : Cx} : L2.SlR X (rSlU X.K) := sl_str.or (sl_tupA.or sl_list)
section
variable {K : PySem.W.Frag} {mg : Str → Option Value} {W : Wd} {A : AH} {H : Hp}
theorem Reps.cut {ds : List D} {xs : List V} (r : Reps K W ds xs) (lo hi : Option Int) : Reps K W (cutD ds lo hi) (cutV xs lo hi) := by
  unfold cutD cutV
  rw [r.length]
  exact (r.drop _).take _
theorem oSlS {E : XK} {Q : VK} {d : D} {x : V} {lo hi : Option Int} (k : Ok K mg W A H) (rx : Rep K W d x) (h : Post K mg (Rep K) W H E Q (slD d lo hi A)) : rSlU K x lo hi H Q := by
  unfold slD at h
  split at h
  · split at h
    · rename_i z
      exact .inl ⟨_, rx, sz_of z, h.ok_at k rfl⟩
    · exact h.elim
  · rename_i ds
    obtain ⟨a, xs, rfl, h1, h2⟩ := tup_at k rx
    refine .inr (.inl ⟨a, xs, rfl, h1, fun q => ?_, fun _ p hp => post_tup k h (h2.cut lo hi) hp⟩)
    have e : cutD ds lo hi = ds := by
      unfold cutD
      rw [h2.length] at q
      rw [q.1, q.2]
      simp
    rw [e] at h
    exact h.ok_at k rx
  · split at h
    · rename_i ds e1
      obtain ⟨a, xs, rfl, h1, h2⟩ := seqL_at k rx e1
      exact .inr (.inr ⟨a, xs, rfl, h1, fun p hp => post_lst k h (h2.cut lo hi) hp⟩)
    · exact h.elim
end
end Tg

set_option Elab.async false
set_option linter.all false
set_option maxRecDepth 100000
set_option maxHeartbeats 1000000
/-! TgCall: subscripts, slices, displays, fields, calls as expressions. -/
namespace Tg
open PySem PySem.Spec PyProof.Rows L2

/-! ### a cell beside is taken in -/
def delH (H : Hp) (p : Addr) : Hp := fun b => if b = p then none else H b
theorem delH_same {H : Hp} {p : Addr} : delH H p p = none := if_pos rfl
theorem delH_ne {H : Hp} {p b : Addr} (h : b ≠ p) : delH H p b = H b := if_neg h
theorem upd_delH {H : Hp} {p : Addr} {o : HO} : upd (delH H p) p o = upd H p o := by
  funext b
  by_cases h : b = p
  · rw [h, upd_same, upd_same]
  · rw [upd_ne h, upd_ne h, delH_ne h]
section
variable {K : PySem.W.Frag} {mg : Str → Option Value} {W0 W1 : Wd} {A0 A1 : AH} {H0 H1 : Hp} {p : Addr} {u : HO}
theorem Ok.undo (hp : H0 p = none) (k0 : Ok K mg W0 A0 H0) (e : Ext W0 (upd H0 p u) W1 H1) (k1 : Ok K mg W1 A1 H1) :
    p ∉ W1.m ∧ W1.F p = none ∧ Ok K mg W1 A1 (delH H1 p) ∧ Ext W0 H0 W1 (delH H1 p) ∧ H1 p = some u := by
  have nm := k0.notm hp
  have nF := k0.notF hp
  have nm1 : p ∉ W1.m := fun q => by
    have z := e.fm p q nm
    rw [upd_same] at z
    cases z
  have nF1 : W1.F p = none := by
    cases q : W1.F p with
    | none => rfl
    | some o =>
      have z := e.fF p o q nF
      rw [upd_same] at z
      cases z
  refine ⟨nm1, nF1, ⟨fun a o h => ?_, k1.sep, k1.nd, k1.len, fun n a o h1 h2 => ?_⟩, ⟨e.le, fun a o h n => ?_, fun a h => ?_, fun a o h n => ?_, fun a h n => ?_⟩, e.out p u upd_same nm⟩
  · have z : a ≠ p := fun q => by
      rw [q, nF1] at h
      cases h
    rw [delH_ne z]
    exact k1.frz a o h
  · have z : a ≠ p := fun q => nm1 (q ▸ List.mem_of_getElem? h1)
    rw [delH_ne z]
    exact k1.obj n a o h1 h2
  · have z : a ≠ p := fun q => by
      rw [q, hp] at h
      cases h
    rw [delH_ne z]
    exact e.out a o (by rw [upd_ne z]; exact h) n
  · by_cases q : a = p
    · rw [q]
      exact hp
    · rw [delH_ne q] at h
      have z := e.dom a h
      rw [upd_ne q] at z
      exact z
  · have z := e.fF a o h n
    by_cases q : a = p
    · rw [q]
      exact hp
    · rw [upd_ne q] at z
      exact z
  · have z := e.fm a h n
    by_cases q : a = p
    · rw [q]
      exact hp
    · rw [upd_ne q] at z
      exact z
end

/-! ### displays -/
def mTup (m : MA) : ME := fun s A => (m s A).bind fun ds A1 => if ds.length ≤ 16777216 then .ok (.tup ds) A1 else .bad
def mLst (m : MA) : ME := fun s A => (m s A).bind fun ds A1 => if ds.length ≤ 16777216 then .ok (.lst ds) A1 else .bad
/-- a list that will change -/
def mLstN (m : MA) : ME := fun s A => (m s A).bind fun ds A1 => if ds.length ≤ 16777216 then .ok (.ref A1.length) (A1 ++ [.lst ds]) else .bad
section
variable {X : Cx} {Wx : WX} {e : Expr} {es : List Expr} {te : TE} {t : TA} {me : ME} {m : MA} {pos : Pos}
theorem stup {j : Nat} (h : SA X Wx es t m) : SE X Wx (.Tuple es j pos) (tTup t) (mTup m) :=
  ⟨pe_tup h.pa, fun W σ s A H Q k sr z => h.sim W σ s A H _ k sr (z.bind fun ds A1 vs W1 H1 e1 k1 r1 h1 => by
    by_cases q : ds.length ≤ 16777216
    · rw [if_pos q] at h1
      exact ⟨by rw [r1.length]; exact sz_of q, fun p hp => post_tup k1 h1 r1 hp⟩
    · rw [if_neg q] at h1
      exact h1.elim)⟩
theorem slst (h : SA X Wx es t m) : SE X Wx (.List es pos) (tLst t) (mLst m) :=
  ⟨pe_lst h.pa, fun W σ s A H Q k sr z => h.sim W σ s A H _ k sr (z.bind fun ds A1 vs W1 H1 e1 k1 r1 h1 => by
    by_cases q : ds.length ≤ 16777216
    · rw [if_pos q] at h1
      exact ⟨by rw [r1.length]; exact sz_of q, fun p hp => post_lst k1 h1 r1 hp⟩
    · rw [if_neg q] at h1
      exact h1.elim)⟩
theorem slstN (h : SA X Wx es t m) : SE X Wx (.List es pos) (tLst t) (mLstN m) :=
  ⟨pe_lst h.pa, fun W σ s A H Q k sr z => h.sim W σ s A H _ k sr (z.bind fun ds A1 vs W1 H1 e1 k1 r1 h1 => by
    by_cases q : ds.length ≤ 16777216
    · rw [if_pos q] at h1
      exact ⟨by rw [r1.length]; exact sz_of q, fun p hp => post_new k1 h1 r1 hp⟩
    · rw [if_neg q] at h1
      exact h1.elim)⟩
end

/-! ### a[b], a[b:c] -/
def mPart (m : ME) : Sl → AH → R (Option Int) := fun s A => (m s A).bind fun x A1 => match x with
  | .int i => .ok (some i) A1
  | _ => .bad
def mNoPart : Sl → AH → R (Option Int) := fun _ A => .ok none A
def mSl (m : ME) (lo hi : Sl → AH → R (Option Int)) : ME := fun s A => (m s A).bind fun x A1 => (lo s A1).bind fun l A2 => (hi s A2).bind fun u A3 => slD x l u A3
section
variable {X : Cx} {Wx : WX} {a b e : Expr} {lo hi : Option Expr} {ta tb te : TE} {tl th : TO} {ma mb me : ME} {ml mh : Sl → AH → R (Option Int)} {pos p2 : Pos}
theorem six {k : Nat} (hr : Room k X.A) (ha : SE X Wx a ta ma) (hb : SE X Wx b tb mb) (hs : PlainIx b := by intro _ _; rfl) : SE X Wx (.Subscript a b pos) (tOp (rIxU X.K) ta tb) (mBin ixD ma mb) :=
  ⟨pe_ix (oIx hr) ha.pe hb.pe hs, sim_bin oIxS ha.sim hb.sim⟩
theorem onone : SO X Wx none tNoPart mNoPart := ⟨po_none, fun W σ s A H Q k sr h => h.ok_at k rfl⟩
theorem osome (h : SE X Wx e te me) : SO X Wx (some e) (tPart te) (mPart me) :=
  ⟨po_some h.pe, fun W σ s A H Q k sr z => h.sim W σ s A H _ k sr (z.bind fun x A1 v W1 H1 e1 k1 r1 h1 => by
    cases x with
    | int i => exact ⟨i, r1, h1.ok_at k1 rfl⟩
    | _ => exact h1.elim)⟩
theorem ssl (h : SE X Wx e te me) (hl : SO X Wx lo tl ml) (hh : SO X Wx hi th mh) : SE X Wx (.Subscript e (.Slice lo hi none p2) pos) (tSl (rSlU X.K) te tl th) (mSl me ml mh) :=
  ⟨pe_slice oSl h.pe hl.po hh.po, fun W σ s A H Q k sr z => h.sim W σ s A H _ k sr (z.bind fun x A1 v W1 H1 e1 k1 r1 h1 =>
    hl.sim W1 σ s A1 H1 _ k1 (sr.le e1.le) (h1.bind fun l A2 l' W2 H2 e2 k2 r2 h2 =>
      hh.sim W2 σ s A2 H2 _ k2 (sr.le (e1.trans e2).le) (h2.bind fun u A3 u' W3 H3 e3 k3 r3 h3 => by
        cases r2
        cases r3
        exact oSlS k3 (r1.le (e2.trans e3).le) h3)))⟩
end

/-! ### o.f -/
def Fds (K : PySem.W.Frag) (mg : Str → Option Value) (cs : List Str) (f : Str) : Prop := ∀ c ∈ cs, Cls K (clA mg c) ∧ NoAttr K (clA mg c) f
def fldD (cs : List Str) (f : Str) : D → AH → R D
  | .ref n, A => match A[n]? with
    | some (.ins c fs) => if c ∈ cs then match fs.lookup f with
      | some d => .ok d A
      | none => .bad
      else .bad
    | _ => .bad
  | _, _ => .bad
def mFld (cs : List Str) (f : Str) (m : ME) : ME := fun s A => (m s A).bind fun x A1 => fldD cs f x A1
section
variable {K : PySem.W.Frag} {mg : Str → Option Value} {W : Wd} {A : AH} {H : Hp}
theorem fld_at {f : Str} {d : D} : ∀ {fs : List (Str × D)} {vs : List (Str × V)}, vs.map (·.1) = fs.map (·.1) → Reps K W (fs.map (·.2)) (vs.map (·.2)) → fs.lookup f = some d → ∃ v, vs.lookup f = some v ∧ Rep K W d v
  | [], _, _, _, e => by cases e
  | (g, x) :: fs, vs, h1, h2, e => by
    cases vs with
    | nil => cases h1
    | cons q vs =>
      obtain ⟨qk, qv⟩ := q
      obtain ⟨v, r', e2, h3, h4⟩ := h2
      simp only [List.map_cons, List.cons.injEq] at h1 e2
      obtain ⟨e3, e4⟩ := h1
      obtain ⟨e5, e6⟩ := e2
      subst e3 e5 e6
      simp only [List.lookup] at e ⊢
      cases hb : (f == qk) with
      | true =>
        rw [hb] at e
        cases e
        exact ⟨_, rfl, h3⟩
      | false =>
        rw [hb] at e
        exact fld_at e4 h4 e
theorem fldn_at {f : Str} : ∀ {fs : List (Str × D)} {vs : List (Str × V)}, vs.map (·.1) = fs.map (·.1) → fs.lookup f = none → vs.lookup f = none
  | [], vs, h1, _ => by
    cases vs with
    | nil => rfl
    | cons q vs => cases h1
  | (g, x) :: fs, vs, h1, e => by
    cases vs with
    | nil => cases h1
    | cons q vs =>
      obtain ⟨qk, qv⟩ := q
      simp only [List.map_cons, List.cons.injEq] at h1
      obtain ⟨e3, e4⟩ := h1
      subst e3
      simp only [List.lookup] at e ⊢
      cases hb : (f == qk) with
      | true =>
        rw [hb] at e
        cases e
      | false =>
        rw [hb] at e
        exact fldn_at e4 e
def putFD (f : Str) (d : D) : List (Str × D) → List (Str × D)
  | [] => [(f, d)]
  | (g, x) :: r => if g = f then (g, d) :: r else (g, x) :: putFD f d r
theorem putFD_at {f : Str} {d : D} {v : V} (r : Rep K W d v) : ∀ {fs : List (Str × D)} {vs : List (Str × V)}, vs.map (·.1) = fs.map (·.1) → Reps K W (fs.map (·.2)) (vs.map (·.2)) →
    (putF f v vs).map (·.1) = (putFD f d fs).map (·.1) ∧ Reps K W ((putFD f d fs).map (·.2)) ((putF f v vs).map (·.2))
  | [], vs, h1, h2 => by
    cases vs with
    | nil => exact ⟨rfl, Reps.one r⟩
    | cons q vs => cases h1
  | (g, x) :: fs, vs, h1, h2 => by
    cases vs with
    | nil => cases h1
    | cons q vs =>
      obtain ⟨qk, qv⟩ := q
      obtain ⟨u, r', e2, h3, h4⟩ := h2
      simp only [List.map_cons, List.cons.injEq] at h1 e2
      obtain ⟨e3, e4⟩ := h1
      obtain ⟨e5, e6⟩ := e2
      subst e3 e5 e6
      obtain ⟨i1, i2⟩ := putFD_at (f := f) r e4 h4
      unfold putF putFD
      by_cases hq : qk = f
      · rw [if_pos hq, if_pos hq]
        exact ⟨by simp only [List.map_cons, e4], Reps.cons r h4⟩
      · rw [if_neg hq, if_neg hq]
        exact ⟨by simp only [List.map_cons, i1], Reps.cons h3 i2⟩
end
section
variable {X : Cx} {Wx : WX} {e : Expr} {te : TE} {me : ME} {pos : Pos}
theorem sfld {cs : List Str} {f : Str} (hc : Fds X.K X.mg cs f) (h : SE X Wx e te me) (hb : attributeBase e f X.env (eval e X.env) = eval e X.env := by rfl) : SE X Wx (.Attribute e f pos) (tFld X.K te f) (mFld cs f me) :=
  ⟨pe_fld h.pe hb, fun W σ s A H Q k sr z => h.sim W σ s A H _ k sr (z.bind fun x A1 v W1 H1 e1 k1 r1 h1 => by
    unfold fldD at h1
    split at h1
    · split at h1
      · rename_i n c fs q
        split at h1
        · rename_i hm
          split at h1
          · rename_i d hd
            obtain ⟨a, rfl, ha⟩ := r1
            obtain ⟨dx, vs, hx, hk, rr⟩ := k1.obj _ a _ ha q
            obtain ⟨v, h3, h4⟩ := fld_at hk rr hd
            exact ⟨a, _, dx, vs, v, rfl, hx, (hc c hm).1, (hc c hm).2, h3, h1.ok_at k1 h4⟩
          · exact h1.elim
        · exact h1.elim
      · exact h1.elim
    · exact h1.elim)⟩
end

/-! ### promises of defs -/
def spM (K : PySem.W.Frag) (mg : Str → Option Value) (g : List D → AH → R D) : Sp := fun vs H Q E => ∃ (W : Wd) (ds : List D) (A : AH), Ok K mg W A H ∧ Reps K W ds vs ∧ Post K mg (Rep K) W H E Q (g ds A)
/-- the def that the module's name x holds does as g says -/
def Dfn (P : Program) (w : World) (K : PySem.W.Frag) (mg : Str → Option Value) (base : Heap) (x : Str) (k : Nat) (g : List D → AH → R D) : Prop :=
  ∃ (f : Addr) (fd : FuncData) (ps : List Str), FnOk P w K mg base (L2.CX P w) k f fd ps (spM K mg g) ∧ mg x = some (.ref f) ∧ PySem.W.keepIn K (.ref f) = true ∧ Binds K fd ps []
/-- the method m of the class named c does as g says -/
def Mtd (P : Program) (w : World) (K : PySem.W.Frag) (mg : Str → Option Value) (base : Heap) (c m : Str) (k : Nat) (g : List D → AH → R D) : Prop :=
  ∃ (f : Addr) (fd : FuncData) (ps : List Str), FnOk P w K mg base (L2.CX P w) k f fd ps (spM K mg g) ∧ Meth K (clA mg c) m f ∧ Binds K fd ps [] ∧ Cls K (clA mg c)
/-- the class named c can be made; its __init__ does as g says -/
def Mkr (P : Program) (w : World) (K : PySem.W.Frag) (mg : Str → Option Value) (base : Heap) (c : Str) (k : Nat) (g : List D → AH → R D) : Prop :=
  ∃ (C f : Addr) (fd : FuncData) (ps : List Str), FnOk P w K mg base (L2.CX P w) k f fd ps (spM K mg g) ∧ mg c = some (.ref C) ∧ Mk K C f ∧ Binds K fd ps []
def mCall (g : List D → AH → R D) (m : MA) : ME := fun s A => (m s A).bind fun ds A1 => g ds A1
def mMeth (c m : Str) (g : List D → AH → R D) (o : ME) (ma : MA) : ME := fun s A => (o s A).bind fun x A1 => match x with
  | .ref n => match A1[n]? with
    | some (.ins c' fs) => if c' = c ∧ fs.lookup m = none then (ma s A1).bind fun ds A2 => g (.ref n :: ds) A2 else .bad
    | _ => .bad
  | _ => .bad
def mMake (c : Str) (g : List D → AH → R D) (ma : MA) : ME := fun s A => (ma s A).bind fun ds A1 => (g (.ref A1.length :: ds) (A1 ++ [.ins c []])).bind fun r A2 => match r with
  | .non => .ok (.ref A1.length) A2
  | _ => .bad
abbrev WxF : WX := fun _ _ _ _ => False

section
variable {X : Cx} {Wx : WX} {e o : Expr} {es : List Expr} {to : TE} {t : TA} {mo : ME} {m : MA} {p pos apos : Pos} {x c mn : Str} {k j : Nat} {g : List D → AH → R D}
theorem sim_call {K : PySem.W.Frag} {mg : Str → Option Value} (h : SimA K mg Wx t m) : SimE K mg Wx (tCallS (spM K mg g) (WE Wx) t) (mCall g m) := fun W σ s A H Q k sr z =>
  h W σ s A H _ k sr (z.bind fun ds A1 vs W1 H1 e1 k1 r1 h1 => ⟨W1, ds, A1, k1, r1, h1⟩)
theorem scall (d : Dfn X.prog X.w X.K X.mg X.base x k g) (hr : Room j X.A) (hk : k ≤ j) (tk : Takes X Wx) (ha : SA X Wx (e :: es) t m) (hg : Gl X x := by rfl) (hdb : (x == ("__debug__" : Str)) = false := by decide)
    (he : starEach (e :: es) X.env = (false, eval e X.env) :: starEach es X.env := by rfl) (hpl : (backTo pos (starEach es X.env)).any (·.1) = false := by rfl) :
    SE X Wx (.Call (.Name x p) (e :: es) [] pos) (tCallS (spM X.K X.mg g) (WE Wx) t) (mCall g m) := by
  obtain ⟨f, fd, ps, F, hm, kp, hb⟩ := d
  exact ⟨pe_callS F (hr.mono hk) hg hm kp hb (fun σ => passAt tk σ) ha.pa hdb he hpl, sim_call ha.sim⟩
theorem pe_call0S {CX : CXT} {f : Addr} {fd : FuncData} {ps : List Str} {sp : Sp} {E : L2.St → XK} (F : FnOk X.prog X.w X.K X.mg X.base CX k f fd ps sp) (hr : Room k X.A) (hg : Gl X x) (hm : X.mg x = some (.ref f)) (hk : PySem.W.keepIn X.K (.ref f) = true)
    (hb : Binds X.K fd ps []) (hx : ∀ σ, PassesAt CX X σ (E σ)) (hdb : (x == ("__debug__" : Str)) = false := by decide) : PE X (.Call (.Name x p) [] [] pos) (tCallS sp E tNil) :=
  ⟨fun pn st sg Hh QQ II hh => wpAny_Call_Name_kw (ld_glob II hg hm (PySem.W.callWith_K0 II.kIn hk (run_fnS (us := []) F hr hb (hx sg) II .nil hh)) hdb)⟩
theorem scall0 (d : Dfn X.prog X.w X.K X.mg X.base x k g) (hr : Room j X.A) (hk : k ≤ j) (tk : Takes X Wx) (hg : Gl X x := by rfl) (hdb : (x == ("__debug__" : Str)) = false := by decide) :
    SE X Wx (.Call (.Name x p) [] [] pos) (tCallS (spM X.K X.mg g) (WE Wx) tNil) (mCall g mNil) := by
  obtain ⟨f, fd, ps, F, hm, kp, hb⟩ := d
  exact ⟨pe_call0S F (hr.mono hk) hg hm kp hb (fun σ => passAt tk σ) hdb, sim_call fun W σ s A H Q k sr h => h.ok_at k rfl⟩

/-- o.m(..), what is raised wished for at the slots -/
def tMethS (C : Addr) (m : Str) (sp : Sp) (E : L2.St → XK) (ta : TE) (t : TA) : TE := fun σ H Q => ta σ H fun x H1 => ∃ a dx fs, x = .ref a ∧ H1 a = some (.ins C dx fs) ∧ fs.lookup m = none ∧ t σ H1 fun vs H2 => sp (x :: vs) H2 Q (E σ)
theorem pe_methS1 {CX : CXT} {C f : Addr} {fd : FuncData} {ps : List Str} {sp : Sp} {E : L2.St → XK} {pl : Sem Bool} (he : PE X o to) (cl : Cls X.K C) (hm : Meth X.K C mn f) (F : FnOk X.prog X.w X.K X.mg X.base CX k f fd ps sp) (hr : Room k X.A)
    (hb : Binds X.K fd ps []) (hx : ∀ σ, PassesAt CX X σ (E σ)) (ha : PA X (e :: es) t)
    (hst : starEach (e :: es) X.env = (false, eval e X.env) :: starEach es X.env) (hpl : (backTo pos (starEach es X.env)).any (·.1) = false)
    (ht : eval (.Call (.Attribute o mn apos) (e :: es) [] pos) X.env = (do
      let ov ← eval o X.env
      standAt apos.atName
      let (f, first) ← holding [ov] (getMethod ov mn pl)
      callWith pos f first (backTo pos (starEach (e :: es) X.env)) (backToKw pos (keywordEach [] X.env)))) :
    PE X (.Call (.Attribute o mn apos) (e :: es) [] pos) (tMethS C mn sp E to t) := by
  refine ⟨fun pn st sg Hh QQ II hh => ?_⟩
  refine PySem.W.methodCall_KW (pl := pl) (thn (he.run pn st sg Hh _ II hh) fun u s1 ⟨x, H1, I1, rx, a, dx, fs, ex, ea, l, q⟩ => ?_) ht
  subst ex
  obtain rfl : u = Value.ref a := rx
  refine getmeth_ok I1 ea cl hm l ?_
  refine PySem.W.callWith_K (first := [.ref a]) (h₀ := X.base) II.ok.mod.kin hm.kp (thn (ha.run pos pn s1 sg H1 _ I1 q) fun us s2 ⟨vs, H2, I2, r, q2⟩ => ⟨I2.kIn, ?_⟩) hst hpl
  exact run_fnS (us := .ref a :: us) (vs := .ref a :: vs) F hr hb (hx sg) I2 (.cons rfl r) q2
theorem pe_methS0 {CX : CXT} {C f : Addr} {fd : FuncData} {ps : List Str} {sp : Sp} {E : L2.St → XK} {pl : Sem Bool} (he : PE X o to) (cl : Cls X.K C) (hm : Meth X.K C mn f) (F : FnOk X.prog X.w X.K X.mg X.base CX k f fd ps sp) (hr : Room k X.A)
    (hb : Binds X.K fd ps []) (hx : ∀ σ, PassesAt CX X σ (E σ))
    (ht : eval (.Call (.Attribute o mn apos) [] [] pos) X.env = (do
      let ov ← eval o X.env
      standAt apos.atName
      let (f, first) ← holding [ov] (getMethod ov mn pl)
      callWith pos f first (backTo pos (starEach [] X.env)) (backToKw pos (keywordEach [] X.env)))) :
    PE X (.Call (.Attribute o mn apos) [] [] pos) (tMethS C mn sp E to tNil) := by
  refine ⟨fun pn st sg Hh QQ II hh => ?_⟩
  refine PySem.W.methodCall_KW (pl := pl) (thn (he.run pn st sg Hh _ II hh) fun u s1 ⟨x, H1, I1, rx, a, dx, fs, ex, ea, l, q⟩ => ?_) ht
  subst ex
  obtain rfl : u = Value.ref a := rx
  refine getmeth_ok I1 ea cl hm l ?_
  exact PySem.W.callWith_K0 (first := [.ref a]) I1.kIn hm.kp (run_fnS (us := [.ref a]) (vs := [.ref a]) F hr hb (hx sg) I1 (.cons rfl .nil) q)
theorem sim_meth {K : PySem.W.Frag} {mg : Str → Option Value} (ho : SimE K mg Wx to mo) (h : SimA K mg Wx t m) : SimE K mg Wx (tMethS (clA mg c) mn (spM K mg g) (WE Wx) to t) (mMeth c mn g mo m) := fun W σ s A H Q k sr z =>
  ho W σ s A H _ k sr (z.bind fun x A1 v W1 H1 e1 k1 r1 h1 => by
    split at h1
    · rename_i n
      split at h1
      · rename_i c' fs q
        split at h1
        · rename_i hm
          obtain ⟨a, rfl, ha⟩ := r1
          obtain ⟨dx, vs, hx, hk, rr⟩ := k1.obj n a _ ha q
          rw [hm.1] at hx
          refine ⟨a, dx, vs, rfl, hx, fldn_at hk hm.2, h W1 σ s A1 H1 _ k1 (sr.le e1.le) (h1.bind fun ds A2 us W2 H2 e2 k2 r2 h2 => ⟨W2, _, A2, k2, Reps.cons (d := .ref n) ⟨a, rfl, e2.le.at ha⟩ r2, h2⟩)⟩
        · exact h1.elim
      · exact h1.elim
    · exact h1.elim)
theorem smeth {pl : Sem Bool} (d : Mtd X.prog X.w X.K X.mg X.base c mn k g) (hr : Room j X.A) (hk : k ≤ j) (tk : Takes X Wx) (ho : SE X Wx o to mo) (ha : SA X Wx (e :: es) t m)
    (hst : starEach (e :: es) X.env = (false, eval e X.env) :: starEach es X.env := by rfl) (hpl : (backTo pos (starEach es X.env)).any (·.1) = false := by rfl)
    (ht : eval (.Call (.Attribute o mn apos) (e :: es) [] pos) X.env = (do
      let ov ← eval o X.env
      standAt apos.atName
      let (f, first) ← holding [ov] (getMethod ov mn pl)
      callWith pos f first (backTo pos (starEach (e :: es) X.env)) (backToKw pos (keywordEach [] X.env))) := by rfl) :
    SE X Wx (.Call (.Attribute o mn apos) (e :: es) [] pos) (tMethS (clA X.mg c) mn (spM X.K X.mg g) (WE Wx) to t) (mMeth c mn g mo m) := by
  obtain ⟨f, fd, ps, F, hm, hb, cl⟩ := d
  exact ⟨pe_methS1 ho.pe cl hm F (hr.mono hk) hb (fun σ => passAt tk σ) ha.pa hst hpl ht, sim_meth ho.sim ha.sim⟩
theorem smeth0 {pl : Sem Bool} (d : Mtd X.prog X.w X.K X.mg X.base c mn k g) (hr : Room j X.A) (hk : k ≤ j) (tk : Takes X Wx) (ho : SE X Wx o to mo)
    (ht : eval (.Call (.Attribute o mn apos) [] [] pos) X.env = (do
      let ov ← eval o X.env
      standAt apos.atName
      let (f, first) ← holding [ov] (getMethod ov mn pl)
      callWith pos f first (backTo pos (starEach [] X.env)) (backToKw pos (keywordEach [] X.env))) := by rfl) :
    SE X Wx (.Call (.Attribute o mn apos) [] [] pos) (tMethS (clA X.mg c) mn (spM X.K X.mg g) (WE Wx) to tNil) (mMeth c mn g mo mNil) := by
  obtain ⟨f, fd, ps, F, hm, hb, cl⟩ := d
  exact ⟨pe_methS0 ho.pe cl hm F (hr.mono hk) hb (fun σ => passAt tk σ) ht, sim_meth ho.sim fun W σ s A H Q k sr h => h.ok_at k rfl⟩

/-- C(..), what is raised wished for at the slots -/
def tMakeS (C : Addr) (sp : Sp) (E : L2.St → XK) (t : TA) : TE := fun σ H Q => t σ H fun vs H1 => ∀ x dx, H1 x = none → H1 dx = none → dx ≠ x →
  sp (.ref x :: vs) (upd (upd H1 dx (.own x)) x (.ins C dx [])) (fun v H2 => v = .non ∧ Q (.ref x) H2) (E σ)
theorem run_makeS {CX : CXT} {C f : Addr} {fd : FuncData} {ps : List Str} {sp : Sp} {E : L2.St → XK} {pn : List (Addr × Obj)} {sg : L2.St} {Hh : Hp} {st : Shared} {QQ : VK} {us : List Value} {vs : List V} (M : Mk X.K C f)
    (F : FnOk X.prog X.w X.K X.mg X.base CX k f fd ps sp) (hr : Room (k + 1) X.A) (hb : Binds X.K fd ps []) (hx : ∀ σ, PassesAt CX X σ (E σ)) (II : Inv X pn sg Hh st) (r : Vals vs us)
    (h : ∀ x dx, Hh x = none → Hh dx = none → dx ≠ x → sp (.ref x :: vs) (upd (upd Hh dx (.own x)) x (.ins C dx [])) (fun v H2 => v = .non ∧ QQ (.ref x) H2) (E sg)) :
    wpAny (model X.prog X.w) X.A (call (.ref C) us) (EP X pn sg QQ) X.xe st := by
  have hq := h (st.heap.objs.size + 1) st.heap.objs.size (II.hok.fresh (Nat.le_succ _)) (II.hok.fresh (Nat.le_refl _)) (Nat.ne_of_lt (Nat.lt_succ_self _))
  have I2 := Inv.made (C := C) II
  have r2 : Vals (V.ref (st.heap.objs.size + 1) :: vs) (Value.ref (st.heap.objs.size + 1) :: us) := .cons rfl r
  have hl : (Value.ref (st.heap.objs.size + 1) :: us).length = ps.length := by
    have e := r2.length
    rw [F.len _ _ _ _ hq] at e
    exact e.symm
  have hbb := hb _ (Value.ref (st.heap.objs.size + 1) :: us) I2.kIn (by rw [List.append_nil]; exact hl)
  rw [List.append_nil] at hbb
  refine wpAny_call (make_map (f := f) II.kIn M.makes M.init (beq_iff_eq.mp M.fn) (codeAny_mono (F.run _ X.stack _ _ ⟨Value.ref (st.heap.objs.size + 1) :: us, []⟩ _ _ _ (E sg) (hr.make C us []) (I2.env0.make C us []) hbb r2 hq) fun r s' hq' => ?_))
  cases r with
  | error e => exact hx sg pn _ _ e s' I2 hq'
  | ok fl =>
    cases fl with
    | ret u =>
      obtain ⟨v, H', I3, rv, ev, q3⟩ := I2.after hq'
      subst ev
      exact ⟨rv, ⟨V.ref (st.heap.objs.size + 1), H', I3, rfl, q3⟩⟩
    | next => exact False.elim hq'
    | brk => exact False.elim hq'
    | cont => exact False.elim hq'
theorem smake (d : Mkr X.prog X.w X.K X.mg X.base c k g) (hr : Room j X.A) (hk : k + 1 ≤ j) (tk : Takes X Wx) (ha : SA X Wx (e :: es) t m) (hg : Gl X c := by rfl) (hdb : (c == ("__debug__" : Str)) = false := by decide)
    (he : starEach (e :: es) X.env = (false, eval e X.env) :: starEach es X.env := by rfl) (hpl : (backTo pos (starEach es X.env)).any (·.1) = false := by rfl) :
    SE X Wx (.Call (.Name c p) (e :: es) [] pos) (tMakeS (clA X.mg c) (spM X.K X.mg g) (WE Wx) t) (mMake c g m) := by
  obtain ⟨C, f, fd, ps, F, hm, M, hb⟩ := d
  rw [clA_of hm]
  refine ⟨⟨fun pn st sg Hh QQ II hh => ?_⟩, fun W σ s A H Q k sr z => ?_⟩
  · refine wpAny_Call_Name_kw (ld_glob II hg hm ?_ hdb)
    refine PySem.W.callWith_K (h₀ := X.base) II.ok.mod.kin M.kp (thn (ha.pa.run pos pn st sg Hh _ II hh) fun us s1 ⟨vs, H1, I1, r, q⟩ => ⟨I1.kIn, ?_⟩) he hpl
    exact run_makeS (E := WE Wx) M F (hr.mono hk) hb (fun σ => passAt tk σ) I1 r q
  · refine ha.sim W σ s A H _ k sr (z.bind fun ds A1 vs W1 H1 e1 k1 r1 h1 => fun x dx hx hdx ne => ?_)
    obtain ⟨k2, e2⟩ := k1.aside hdx (.own x)
    have hx2 : upd H1 dx (.own x) x = none := by
      rw [upd_ne (Ne.symm ne)]
      exact hx
    obtain ⟨k3, e3⟩ := k2.fresh hx2 (o := .ins C dx []) (u := .ins c []) ⟨dx, [], by rw [clA_of hm], rfl, rfl⟩
    have hn : (W1.m ++ [x])[A1.length]? = some x := by
      rw [← k1.len]
      exact List.getElem?_concat_length
    refine ⟨_, .ref A1.length :: ds, _, k3, Reps.cons ⟨x, rfl, hn⟩ (r1.le (e2.trans e3).le), ?_⟩
    have h2 := Post.ext (e2.trans e3) h1
    exact h2.bind fun r A2 v W4 H4 e4 k4 r4 h4 => by
      cases r with
      | non => exact ⟨r4, h4.ok_at k4 ⟨x, rfl, e4.le.at hn⟩⟩
      | _ => exact h4.elim
end
end Tg

set_option Elab.async false
set_option linter.all false
set_option maxRecDepth 100000
set_option maxHeartbeats 2000000
/-! TgBuilt: built-in functions and methods. -/
namespace Tg
open PySem PySem.Spec PyProof.Rows L2

/-! ### a built-in by its name -/
section
variable {X : Cx} {Wx : WX} {e o : Expr} {es : List Expr} {to : TE} {t : TA} {mo : ME} {m : MA} {p pos apos : Pos} {x : Str} {id T : String} {r : List V → Hp → VK → Prop} {f : List D → AH → R D}
theorem sim_cb {K : PySem.W.Frag} {mg : Str → Option Value} (hs : CallS K mg r f) (ha : SimA K mg Wx t m) : SimE K mg Wx (tCB r t) (mCall f m) := fun W σ s A H Q k sr z =>
  ha W σ s A H _ k sr (z.bind fun ds A1 vs W1 H1 e1 k1 r1 h1 => hs W1 A1 H1 _ Q ds vs k1 r1 h1)
theorem sbuilt (hc : CallR X (.builtin id) r) (hs : CallS X.K X.mg r f) (hm : X.mg x = none) (ha : SA X Wx (e :: es) t m) (hg : Gl X x := by rfl) (hv : bootBuiltins x = some (.builtin id) := by decide +kernel) (hn : x ≠ "__name__" := by decide) (hdb : (x == ("__debug__" : Str)) = false := by decide)
    (he : starEach (e :: es) X.env = (false, eval e X.env) :: starEach es X.env := by rfl) (hpl : (backTo pos (starEach es X.env)).any (·.1) = false := by rfl) : SE X Wx (.Call (.Name x p) (e :: es) [] pos) (tCB r t) (mCall f m) :=
  ⟨pe_callB hc hg hm hv ha.pa hn hdb he hpl, sim_cb hs ha.sim⟩
theorem styp (hc : CallR X (.type T) r) (hs : CallS X.K X.mg r f) (hm : X.mg x = none) (ha : SA X Wx (e :: es) t m) (hg : Gl X x := by rfl) (hv : bootBuiltins x = some (.type T) := by decide +kernel) (hn : x ≠ "__name__" := by decide) (hdb : (x == ("__debug__" : Str)) = false := by decide)
    (he : starEach (e :: es) X.env = (false, eval e X.env) :: starEach es X.env := by rfl) (hpl : (backTo pos (starEach es X.env)).any (·.1) = false := by rfl) : SE X Wx (.Call (.Name x p) (e :: es) [] pos) (tCB r t) (mCall f m) :=
  ⟨pe_callTy hc hg hm hv ha.pa hn hdb he hpl, sim_cb hs ha.sim⟩
end

/-! ### len, int, str, abs, max, min, sum, sorted, tuple, list, dict -/
def lenD : List D → AH → R D
  | [.str z], A => if z.length ≤ 16777216 then .ok (.int z.length) A else .bad
  | [d], A => match dctD A d with
    | some kvs => .ok (.int kvs.length) A
    | none => match itemsD A d with
      | some ds => .ok (.int ds.length) A
      | none => .bad
  | _, _ => .bad
def intD : List D → AH → R D
  | [.int i], A => .ok (.int i) A
  | [.bl k], A => .ok (.int (if k then 1 else 0)) A
  | [.str a], A => match PySem.intText? a with
    | some n => if a.length ≤ 640 then .ok (.int n) A else .bad
    | none => .bad
  | _, _ => .bad
def strD : List D → AH → R D
  | [.int i], A => if i.natAbs.log2 < 1920 then .ok (.str (toString i)) A else .bad
  | [.str a], A => .ok (.str a) A
  | _, _ => .bad
def intsD : List D → Option (List Int)
  | [] => some []
  | .int i :: ds => (intsD ds).map (i :: ·)
  | _ :: _ => none
def maxI : List Int → Option Int
  | [] => none
  | i :: is => some (is.foldl (fun m j => if m < j then j else m) i)
def maxD : List D → AH → R D
  | [.int i, .int j], A => .ok (.int (if j > i then j else i)) A
  | [d], A => match (itemsD A d).bind intsD with
    | some ns => match maxI ns with
      | some m => .ok (.int m) A
      | none => .bad
    | none => .bad
  | _, _ => .bad
def minD : List D → AH → R D
  | [.int i, .int j], A => .ok (.int (if j < i then j else i)) A
  | _, _ => .bad
def sumD : List D → AH → R D
  | [d], A => match (seqL A d).bind intsD with
    | some ns => .ok (.int ns.sum) A
    | none => .bad
  | _, _ => .bad
def tupD : List D → AH → R D
  | [.tup ds], A => .ok (.tup ds) A
  | [d], A => match seqL A d with
    | some ds => .ok (.tup ds) A
    | none => .bad
  | _, _ => .bad
def keyOfK : Key → D
  | .inl i => .int i
  | .inr s => .str s
def listD : List D → AH → R D
  | [d], A => match dctD A d with
    | some kvs => .ok (.lst (kvs.map fun kv => keyOfK kv.1)) A
    | none => match itemsD A d with
      | some ds => .ok (.lst ds) A
      | none => .bad
  | _, _ => .bad
def listN : List D → AH → R D
  | [d], A => match itemsD A d with
      | some ds => .ok (.ref A.length) (A ++ [.lst ds])
      | none => .bad
  | _, _ => .bad
section
variable {K : PySem.W.Frag} {mg : Str → Option Value} {W : Wd} {A : AH} {H : Hp}
theorem reps1 {d : D} {xs : List V} (r : Reps K W [d] xs) : ∃ v, xs = [v] ∧ Rep K W d v := by
  obtain ⟨v, r', rfl, h1, h2⟩ := r
  cases (show r' = [] from h2)
  exact ⟨v, rfl, h1⟩
theorem reps2 {d e : D} {xs : List V} (r : Reps K W [d, e] xs) : ∃ v u, xs = [v, u] ∧ Rep K W d v ∧ Rep K W e u := by
  obtain ⟨v, r', rfl, h1, h2⟩ := r
  obtain ⟨u, rfl, h3⟩ := reps1 h2
  exact ⟨v, u, rfl, h1, h3⟩
theorem intsD_at : ∀ {ds : List D} {ns : List Int} {xs : List V}, intsD ds = some ns → Reps K W ds xs → xs = ns.map V.int
  | [], ns, xs, e, r => by
    cases (show some [] = some ns from e)
    exact r
  | d :: ds, ns, xs, e, r => by
    cases d with
    | int i =>
      obtain ⟨ns', e1, rfl⟩ := Option.map_eq_some_iff.mp (show (intsD ds).map (i :: ·) = some ns from e)
      obtain ⟨v, r', rfl, h1, h2⟩ := r
      rw [intsD_at e1 h2, (show v = .int i from h1)]
      rfl
    | _ => cases (show none = some ns from e)
theorem maxI_mem : ∀ (is : List Int) (i : Int), is.foldl (fun m j => if m < j then j else m) i ∈ i :: is ∧ ∀ y ∈ i :: is, y ≤ is.foldl (fun m j => if m < j then j else m) i
  | [], i => ⟨by simp, fun y h => by
      have e : y = i := by simpa using h
      rw [e]
      exact Int.le_refl i⟩
  | j :: is, i => by
    rw [List.foldl_cons]
    generalize hk : (if i < j then j else i) = k
    have hk1 : i ≤ k ∧ j ≤ k ∧ (k = i ∨ k = j) := by
      rw [← hk]
      split
      · exact ⟨by omega, by omega, .inr rfl⟩
      · exact ⟨by omega, by omega, .inl rfl⟩
    obtain ⟨h1, h2⟩ := maxI_mem is k
    have h3 := h2 k (by simp)
    refine ⟨?_, fun y h => ?_⟩
    · rcases List.mem_cons.mp h1 with e | e
      · rw [e]
        rcases hk1.2.2 with z | z
        · rw [z]
          simp
        · rw [z]
          simp
      · exact List.mem_cons_of_mem _ (List.mem_cons_of_mem _ e)
    · rcases List.mem_cons.mp h with e | e
      · rw [e]
        exact Int.le_trans hk1.1 h3
      · rcases List.mem_cons.mp e with e | e
        · rw [e]
          exact Int.le_trans hk1.2.1 h3
        · exact h2 y (List.mem_cons_of_mem _ e)
theorem maxI_eq {ns : List Int} {m n : Int} (h : maxI ns = some m) (h1 : n ∈ ns) (h2 : ∀ y, y ∈ ns → y ≤ n) : n = m := by
  cases ns with
  | nil => cases h1
  | cons i is =>
    have e : is.foldl (fun m j => if m < j then j else m) i = m := Option.some.inj h
    obtain ⟨q1, q2⟩ := maxI_mem is i
    rw [e] at q1 q2
    have z1 := h2 m q1
    have z2 := q2 n h1
    omega
def rLenU (K : PySem.W.Frag) : List V → Hp → VK → Prop := fun xs H Q => (∃ x n, xs = [x] ∧ LenV K x H n ∧ Q (.int n) H) ∨ ∃ a kvs, xs = [V.ref a] ∧ H a = some (.dK kvs) ∧ Q (.int kvs.length) H
theorem oLen {X : Cx} : CallR X (.builtin "len") (rLenU X.K) := call_len.or call_lenD
theorem oLenS : CallS K mg (rLenU K) lenD := fun W A H E Q ds xs k r h => by
  unfold lenD at h
  split at h
  · split at h
    · rename_i z
      obtain ⟨v, rfl, h1⟩ := reps1 r
      cases (show v = _ from h1)
      exact .inl ⟨_, _, rfl, ⟨sz_of z, rfl⟩, h.ok_at k rfl⟩
    · exact h.elim
  · obtain ⟨v, rfl, h1⟩ := reps1 r
    split at h
    · rename_i kvs e1
      obtain ⟨a, vs, rfl, h2, h3⟩ := dctD_at k h1 e1
      refine .inr ⟨a, vs, rfl, h2, ?_⟩
      rw [h3.len]
      exact h.ok_at k rfl
    · split at h
      · rename_i es e1
        obtain ⟨a, ys, rfl, h2, h3⟩ := itemsD_at k h1 e1
        refine .inl ⟨_, ys.length, rfl, ?_, ?_⟩
        · rcases h2 with h2 | h2
          · exact .inl ⟨ys, h2, rfl⟩
          · exact .inr ⟨ys, h2, rfl⟩
        · rw [h3.length]
          exact h.ok_at k rfl
      · exact h.elim
  · exact h.elim
def rIntU : List V → Hp → VK → Prop := fun xs H Q => ((∃ i, xs = [.int i] ∧ Q (.int i) H) ∨ ∃ k, xs = [.bl k] ∧ Q (.int (if k then 1 else 0)) H) ∨ ∃ a n, xs = [.str a] ∧ PySem.intText? a = some n ∧ a.length ≤ 640 ∧ Q (.int n) H
theorem oInt {X : Cx} : CallR X (.type "int") rIntU := call_int1.or call_int_str
theorem oIntS : CallS K mg rIntU intD := fun W A H E Q ds xs k r h => by
  unfold intD at h
  split at h
  · obtain ⟨v, rfl, h1⟩ := reps1 r
    cases (show v = _ from h1)
    exact .inl (.inl ⟨_, rfl, h.ok_at k rfl⟩)
  · obtain ⟨v, rfl, h1⟩ := reps1 r
    cases (show v = _ from h1)
    exact .inl (.inr ⟨_, rfl, h.ok_at k rfl⟩)
  · obtain ⟨v, rfl, h1⟩ := reps1 r
    cases (show v = _ from h1)
    split at h
    · rename_i n e1
      split at h
      · rename_i z
        exact .inr ⟨_, n, rfl, e1, z, h.ok_at k rfl⟩
      · exact h.elim
    · exact h.elim
  · exact h.elim
def rStrU : List V → Hp → VK → Prop := fun xs H Q => (∃ i : Int, xs = [.int i] ∧ i.natAbs.log2 < 1920 ∧ Q (.str (toString i)) H) ∨ ∃ a, xs = [.str a] ∧ Q (.str a) H
theorem oStr {X : Cx} : CallR X (.type "str") rStrU := call_str_int.or SkE.call_str_str
theorem oStrS : CallS K mg rStrU strD := fun W A H E Q ds xs k r h => by
  unfold strD at h
  split at h
  · obtain ⟨v, rfl, h1⟩ := reps1 r
    cases (show v = _ from h1)
    split at h
    · rename_i z
      exact .inl ⟨_, rfl, z, h.ok_at k rfl⟩
    · exact h.elim
  · obtain ⟨v, rfl, h1⟩ := reps1 r
    cases (show v = _ from h1)
    exact .inr ⟨_, rfl, h.ok_at k rfl⟩
  · exact h.elim
end

/-- max of a tuple of ints -/
theorem iter_intTup {prog : Program} {w : World} {B : Around} {E : Value → Shared → Prop} {s : Shared} {l : Addr} {items : Array Value} {Q : Value → Shared → Prop} (hl : s.heap.IsTuple l items)
    (h : ∀ s2 : Shared, s2 = { s with heap := s.heap.push { cls := .type "tuple_iterator", data := .fields #[.ref l, .int 0 0] } } →
      (s2.heap.IsTupleIter s.heap.objs.size l 0 ∧ s2.heap.IsTuple l items) → (∀ b ∈ [s.heap.objs.size, l], b < s2.heap.objs.size) → l ≠ s.heap.objs.size → Q (.ref s.heap.objs.size) s2) : wpAny (model prog w) B (pyIter (.ref l)) Q E s := by
  have hlt : l < s.heap.objs.size := by obtain ⟨_, e, _⟩ := hl; exact Heap.lt_size e
  refine wpAny_pyIter_tuple hl (h _ rfl ⟨⟨_, Heap.get?_push_size _ rfl, rfl, rfl⟩, hl.push _⟩ (fun b hb => ?_) (Nat.ne_of_lt hlt))
  rw [Heap.size_push]
  rcases List.mem_cons.mp hb with z | z
  · rw [z]
    exact Nat.lt_succ_self _
  · rw [List.mem_singleton.mp z]
    exact Nat.lt_succ_of_lt hlt
def rMaxT (K : PySem.W.Frag) : List V → Hp → VK → Prop := fun vs H Q => ∃ (a : Addr) (ns : List Int), vs = [V.ref a] ∧ SqT K H a (ns.map V.int) ∧ 0 < ns.length ∧ ∀ m, m ∈ ns → (∀ y, y ∈ ns → y ≤ m) → Q (.int m) H
theorem cr_maxT {X : Cx} (hc : X.calm = true) : CallR X (.builtin "max") (rMaxT X.K) := by
  intro pn st sg Hh vs us QQ II r hh
  obtain ⟨a, ns, rfl, hs, hne, q⟩ := hh
  obtain ⟨its, rv, ⟨o0, ho, hcl, n, hdat⟩, _⟩ := II.tuple hs
  rw [Vals.ref1 r]
  have hi := rv.ints
  obtain ⟨ys, e⟩ := hi.allInts.items
  have hn : numsOf (intItems ys).toList = ns := by rw [← e]; exact hi.numsOf
  rw [nums_intItems] at hn
  subst hn
  have hT : st.heap.IsTuple a (intItems ys) := ⟨o0, ho, hcl, n, by rw [hdat, ← e]⟩
  have hsz : 0 < ys.size := by simpa using hne
  refine call_max_walk (iter_intTup hT fun s2 e2 st2 hfp hlI => ?_)
  subst e2
  refine ⟨_, _, _, _, _, _, _, rfl, Walks.tuple (A := X.A.in1) (II.ok.hd hc) _ a hlI (intItems ys), st2, hfp, by simpa [intItems] using hsz, CmpOf.ints_gt (numAt ys) (fun _ _ => intItems_at), fun v h' tk hP hk => ?_⟩
  have hP' : (intItems ys)[argBest (fun i j => decide (numAt ys i > numAt ys j)) (ys.size - 1)]? = some v := by simpa [intItems] using hP
  have hk' : ∀ b o, st.heap.get? b = some o → h'.get? b = some o := fun b o e => by
    refine hk b o (fun hm => ?_) (Heap.get?_push_of_some _ e)
    rw [List.mem_singleton.mp hm] at e
    exact absurd (Heap.lt_size e) (Nat.lt_irrefl _)
  obtain ⟨t, rfl⟩ := intItems_at hP'
  obtain ⟨h1, h2⟩ := argBest_gt (numAt ys) (ys.size - 1)
  refine ⟨.int _, Hh, II.kept hk', ⟨_, rfl⟩, q _ ?_ fun y hy => ?_⟩
  · rw [numAt_eq]
    exact PySem.getD_mem (by rw [List.length_map, Array.length_toList]; omega)
  · obtain ⟨j, hj, rfl⟩ := mem_getD hy
    rw [List.length_map, Array.length_toList] at hj
    rw [← numAt_eq]
    exact h2 j (by omega)
def rMaxU (K : PySem.W.Frag) : List V → Hp → VK → Prop := fun xs H Q => (∃ i j, xs = [.int i, .int j] ∧ Q (.int (if j > i then j else i)) H) ∨ rMax K xs H Q ∨ rMaxT K xs H Q
theorem oMax {X : Cx} (hc : X.calm = true) : CallR X (.builtin "max") (rMaxU X.K) := (call_max2 hc).or ((cr_max hc).or (cr_maxT hc))
def rTupU (K : PySem.W.Frag) : List V → Hp → VK → Prop := fun xs H Q => ∃ p ys, xs = [.ref p] ∧ ((SqL K H p ys ∧ ∀ l, H l = none → Q (.ref l) (upd H l (.tup ys))) ∨ (SqT K H p ys ∧ Q (.ref p) H))
def rListU (K : PySem.W.Frag) : List V → Hp → VK → Prop := fun xs H Q => (∃ p ys, xs = [.ref p] ∧ (SqL K H p ys ∨ SqT K H p ys) ∧ ∀ l, H l = none → Q (.ref l) (upd H l (.lst ys))) ∨ rListD xs H Q
theorem oList {X : Cx} (hc : X.calm = true) : CallR X (.type "list") (rListU X.K) := call_list_of.or (call_list_dK hc)
section
variable {K : PySem.W.Frag} {mg : Str → Option Value} {W : Wd} {A : AH} {H : Hp}
theorem oMaxS : CallS K mg (rMaxU K) maxD := fun W A H E Q ds xs k r h => by
  unfold maxD at h
  split at h
  · obtain ⟨v, u, rfl, h1, h2⟩ := reps2 r
    cases (show v = _ from h1)
    cases (show u = _ from h2)
    exact .inl ⟨_, _, rfl, h.ok_at k rfl⟩
  · obtain ⟨v, rfl, h1⟩ := reps1 r
    split at h
    · rename_i ns e1
      obtain ⟨es, e2, e3⟩ := Option.bind_eq_some_iff.mp e1
      split at h
      · rename_i mx e4
        obtain ⟨a, ys, rfl, h2, h3⟩ := itemsD_at k h1 e2
        have ey := intsD_at e3 h3
        subst ey
        have hne : 0 < ns.length := by
          cases ns with
          | nil => cases e4
          | cons _ _ => exact Nat.succ_pos _
        have go : ∀ m, m ∈ ns → (∀ y, y ∈ ns → y ≤ m) → Q (.int m) H := fun m q1 q2 => by
          rw [maxI_eq e4 q1 q2]
          exact h.ok_at k rfl
        rcases h2 with h2 | h2
        · exact .inr (.inl ⟨a, ns, rfl, h2, hne, go⟩)
        · exact .inr (.inr ⟨a, ns, rfl, h2, hne, go⟩)
      · exact h.elim
    · exact h.elim
  · exact h.elim
theorem oMinS : CallS K mg (fun xs H Q => ∃ i j, xs = [.int i, .int j] ∧ Q (.int (if j < i then j else i)) H) minD := fun W A H E Q ds xs k r h => by
  unfold minD at h
  split at h
  · obtain ⟨v, u, rfl, h1, h2⟩ := reps2 r
    cases (show v = _ from h1)
    cases (show u = _ from h2)
    exact ⟨_, _, rfl, h.ok_at k rfl⟩
  · exact h.elim
theorem oSumS : CallS K mg (rSum K) sumD := fun W A H E Q ds xs k r h => by
  unfold sumD at h
  split at h
  · obtain ⟨v, rfl, h1⟩ := reps1 r
    split at h
    · rename_i ns e1
      obtain ⟨es, e2, e3⟩ := Option.bind_eq_some_iff.mp e1
      obtain ⟨a, ys, rfl, h2, h3⟩ := seqL_at k h1 e2
      have ey := intsD_at e3 h3
      subst ey
      exact ⟨a, ns, rfl, h2, h.ok_at k rfl⟩
    · exact h.elim
  · exact h.elim
theorem oTupS : CallS K mg (rTupU K) tupD := fun W A H E Q ds xs k r h => by
  unfold tupD at h
  split at h
  · obtain ⟨v, rfl, h1⟩ := reps1 r
    obtain ⟨a, ys, rfl, h2, h3⟩ := tup_at k h1
    exact ⟨a, ys, rfl, .inr ⟨h2, h.ok_at k h1⟩⟩
  · obtain ⟨v, rfl, h1⟩ := reps1 r
    split at h
    · rename_i es e1
      obtain ⟨a, ys, rfl, h2, h3⟩ := seqL_at k h1 e1
      exact ⟨a, ys, rfl, .inl ⟨h2, fun l hl => post_tup k h h3 hl⟩⟩
    · exact h.elim
  · exact h.elim
theorem reps_keys : ∀ {kvs : List (Key × D)} {vs : List (Key × V)}, KVR K W kvs vs → Reps K W (kvs.map fun kv => keyOfK kv.1) (vs.map fun kv => kV kv.1)
  | [], _, r => by
    cases r.nil_iff
    exact rfl
  | p :: kvs, vs, r => by
    obtain ⟨v, vs', rfl, h1, h2⟩ := r.cons_iff
    refine Reps.cons ?_ (reps_keys h2)
    obtain ⟨kk, d⟩ := p
    cases kk <;> exact rfl
theorem oListS : CallS K mg (rListU K) listD := fun W A H E Q ds xs k r h => by
  unfold listD at h
  split at h
  · obtain ⟨v, rfl, h1⟩ := reps1 r
    split at h
    · rename_i kvs e1
      obtain ⟨a, vs, rfl, h2, h3⟩ := dctD_at k h1 e1
      exact .inr ⟨a, vs, rfl, h2, fun q hq => post_lst k h (reps_keys h3) hq⟩
    · split at h
      · rename_i es e1
        obtain ⟨a, ys, rfl, h2, h3⟩ := itemsD_at k h1 e1
        exact .inl ⟨a, ys, rfl, h2, fun l hl => post_lst k h h3 hl⟩
      · exact h.elim
  · exact h.elim
theorem oListNS : CallS K mg (rListU K) listN := fun W A H E Q ds xs k r h => by
  unfold listN at h
  split at h
  · obtain ⟨v, rfl, h1⟩ := reps1 r
    split at h
    · rename_i es e1
      obtain ⟨a, ys, rfl, h2, h3⟩ := itemsD_at k h1 e1
      exact .inl ⟨a, ys, rfl, h2, fun l hl => post_new k h h3 hl⟩
    · exact h.elim
  · exact h.elim
end

/-! ### isinstance -/
def tyD (A : AH) : D → Option String
  | .non => some "NoneType"
  | .bl _ => some "bool"
  | .int _ => some "int"
  | .str _ => some "str"
  | .tup _ => some "tuple"
  | .lst _ => some "list"
  | .scr _ => some "list"
  | .dct _ _ => some "dict"
  | .ref n => match A[n]? with
    | some (.lst _) => some "list"
    | some (.dct _) => some "dict"
    | _ => none
/-- is a thing of the type a one of T? -/
def subTy (a T : String) : Bool := a == T || (a == "bool" && T == "int")
def isiD (T : String) (d : D) (A : AH) : R D := match tyD A d with
  | some a => .ok (.bl (subTy a T)) A
  | none => .bad
def isiD2 (T U : String) (d : D) (A : AH) : R D := match tyD A d with
  | some a => .ok (.bl (subTy a T || subTy a U)) A
  | none => .bad
/-- the types that are asked about -/
def askTy : List String := ["int", "bool", "str", "tuple", "list", "dict"]
theorem kit_all : ∀ a ∈ ["NoneType", "bool", "int", "str", "tuple", "list", "dict"], ∀ T ∈ askTy, kitB a T = some (subTy a T) := by decide +kernel
section
variable {K : PySem.W.Frag} {mg : Str → Option Value} {W : Wd} {A : AH} {H : Hp}
theorem tyD_at (k : Ok K mg W A H) {d : D} {v : V} (r : Rep K W d v) {a : String} (e : tyD A d = some a) : TyX K H v (.type a) ∧ a ∈ ["NoneType", "bool", "int", "str", "tuple", "list", "dict"] := by
  cases d with
  | non =>
    cases (show some "NoneType" = some a from e)
    cases (show v = .non from r)
    exact ⟨.base .non, by simp⟩
  | bl b =>
    cases (show some "bool" = some a from e)
    cases (show v = .bl b from r)
    exact ⟨.base (.bl b), by simp⟩
  | int b =>
    cases (show some "int" = some a from e)
    cases (show v = .int b from r)
    exact ⟨.base (.int b), by simp⟩
  | str b =>
    cases (show some "str" = some a from e)
    cases (show v = .str b from r)
    exact ⟨.base (.str b), by simp⟩
  | tup ds =>
    cases (show some "tuple" = some a from e)
    obtain ⟨p, xs, rfl, h1, _⟩ := tup_at k r
    rcases h1 with (h1 | ⟨o, h1⟩) | ⟨o, its, n, h1, h2, _⟩
    · exact ⟨.base (.tup h1), by simp⟩
    · exact ⟨.fTuple h1, by simp⟩
    · exact ⟨.kTuple h1 h2, by simp⟩
  | lst ds =>
    cases (show some "list" = some a from e)
    obtain ⟨p, xs, rfl, h1, _⟩ := r
    exact ⟨.base (.lst (k.frz _ _ h1)), by simp⟩
  | scr ns =>
    cases (show some "list" = some a from e)
    obtain ⟨p, rfl, h1⟩ := r
    rcases k.sqL h1 with (h1 | ⟨o, h1⟩) | ⟨o, its, n, h1, h2, _⟩
    · exact ⟨.base (.lst h1), by simp⟩
    · exact ⟨.base (.frz h1), by simp⟩
    · exact ⟨.kList h1 h2, by simp⟩
  | dct ks ds =>
    cases (show some "dict" = some a from e)
    obtain ⟨p, xs, rfl, h1, _⟩ := r
    exact ⟨.base (.dK (k.frz _ _ h1)), by simp⟩
  | ref n =>
    obtain ⟨p, rfl, hp⟩ := r
    unfold tyD at e
    dsimp only at e
    split at e
    · rename_i ds q
      cases e
      obtain ⟨xs, h1, _⟩ := k.obj n p _ hp q
      exact ⟨.base (.lst h1), by simp⟩
    · rename_i ds q
      cases e
      obtain ⟨xs, h1, _⟩ := k.obj n p _ hp q
      exact ⟨.base (.dK h1), by simp⟩
    · cases e
end
section
variable {X : Cx} {Wx : WX} {e : Expr} {te : TE} {me : ME} {p pos : Pos}
theorem sisi {T : String} {y : Str} {p2 : Pos} (hT : T ∈ askTy) (hm : X.mg "isinstance" = none) (hm2 : X.mg y = none) (h : SE X Wx e te me) (hg : Gl X "isinstance" := by rfl) (hg2 : Gl X y := by rfl) (hv : bootBuiltins y = some (.type T) := by decide +kernel)
    (hn : y ≠ "__name__" := by decide) (hdb : (y == ("__debug__" : Str)) = false := by decide)
    (he1 : starEach [.Name y p2] X.env = (false, eval (.Name y p2) X.env) :: starEach [] X.env := by rfl) (he2 : starEach [e, .Name y p2] X.env = (false, eval e X.env) :: starEach [.Name y p2] X.env := by rfl)
    (hpl : (backTo pos (starEach [.Name y p2] X.env)).any (·.1) = false := by rfl) :
    SE X Wx (.Call (.Name "isinstance" p) [e, .Name y p2] [] pos) (tCB (rIsi X.K) (tCons te (tCons (tC (.ty T)) tNil))) (mUn (isiD T) me) :=
  ⟨pe_callB call_isi hg hm (by decide +kernel) (pa_cons h.pe (pa_cons (pe_bltn hg2 hm2 hv rfl hn hdb) pa_nil he1) he2) (by decide) (by decide) he2 hpl, fun W σ s A H Q k sr z =>
    h.sim W σ s A H _ k sr (z.bind fun x A1 v W1 H1 e1 k1 r1 h1 => by
      show rIsi X.K [v, .ty T] H1 Q
      unfold isiD at h1
      split at h1
      · rename_i a e2
        obtain ⟨q1, q2⟩ := tyD_at k1 r1 e2
        exact ⟨v, .ty T, .type a, .type T, subTy a T, rfl, .ty T, q1, kit_ty (kit_all a q2 T hT), h1.ok_at k1 rfl⟩
      · exact h1.elim)⟩
theorem sisi2 {T U : String} {y z : Str} {p2 p3 p4 : Pos} {j : Nat} (hT : T ∈ askTy) (hU : U ∈ askTy) (hm : X.mg "isinstance" = none) (hm2 : X.mg y = none) (hm3 : X.mg z = none) (h : SE X Wx e te me) (hg : Gl X "isinstance" := by rfl) (hg2 : Gl X y := by rfl) (hg3 : Gl X z := by rfl)
    (hv : bootBuiltins y = some (.type T) := by decide +kernel) (hv3 : bootBuiltins z = some (.type U) := by decide +kernel)
    (hn : y ≠ "__name__" := by decide) (hdb : (y == ("__debug__" : Str)) = false := by decide) (hn3 : z ≠ "__name__" := by decide) (hdb3 : (z == ("__debug__" : Str)) = false := by decide)
    (he3 : starEach [.Name z p3] X.env = (false, eval (.Name z p3) X.env) :: starEach [] X.env := by rfl) (he4 : starEach [.Name y p2, .Name z p3] X.env = (false, eval (.Name y p2) X.env) :: starEach [.Name z p3] X.env := by rfl)
    (he1 : starEach [.Tuple [.Name y p2, .Name z p3] j p4] X.env = (false, eval (.Tuple [.Name y p2, .Name z p3] j p4) X.env) :: starEach [] X.env := by rfl)
    (he2 : starEach [e, .Tuple [.Name y p2, .Name z p3] j p4] X.env = (false, eval e X.env) :: starEach [.Tuple [.Name y p2, .Name z p3] j p4] X.env := by rfl)
    (hpl : (backTo pos (starEach [.Tuple [.Name y p2, .Name z p3] j p4] X.env)).any (·.1) = false := by rfl) :
    SE X Wx (.Call (.Name "isinstance" p) [e, .Tuple [.Name y p2, .Name z p3] j p4] [] pos) (tCB (rIsiT X.K) (tCons te (tCons (tTup (tCons (tC (.ty T)) (tCons (tC (.ty U)) tNil))) tNil))) (mUn (isiD2 T U) me) :=
  ⟨pe_callB call_isiT hg hm (by decide +kernel) (pa_cons h.pe (pa_cons (pe_tup (pa_cons (pe_bltn hg2 hm2 hv rfl hn hdb) (pa_cons (pe_bltn hg3 hm3 hv3 rfl hn3 hdb3) pa_nil he3) he4)) pa_nil he1) he2) (by decide) (by decide) he2 hpl, fun W σ s A H Q k sr z =>
    h.sim W σ s A H _ k sr (z.bind fun x A1 v W1 H1 e1 k1 r1 h1 => by
      show ([V.ty T, V.ty U] : List V).length ≤ sizeLine ∧ ∀ p, H1 p = none → rIsiT X.K [v, .ref p] (upd H1 p (.tup [.ty T, .ty U])) Q
      refine ⟨sz_of (by show 2 ≤ 16777216; decide), fun p hp => ?_⟩
      obtain ⟨k2, e2⟩ := k1.aside hp (.tup [.ty T, .ty U])
      have h2 := Post.ext e2 h1
      unfold isiD2 at h2
      split at h2
      · rename_i a e3
        obtain ⟨q1, q2⟩ := tyD_at k2 r1 e3
        refine ⟨v, p, [.ty T, .ty U], .type a, [.type T, .type U], subTy a T || subTy a U, rfl, upd_same, .cons (.ty T) (.cons (.ty U) .nil), q1, ?_, h2.ok_at k2 rfl⟩
        refine kitAny_cons (kit_ty (kit_all a q2 T hT)) (fun q => ?_) (fun q => by rw [q]; rfl)
        rw [q]
        refine kitAny_cons (kit_ty (kit_all a q2 U hU)) (fun q' => ?_) (fun q' => by rw [q']; rfl)
        rw [q']
        rfl
      · exact h2.elim)⟩
end
end Tg

set_option Elab.async false
set_option linter.all false
set_option maxRecDepth 100000
set_option maxHeartbeats 2000000
/-! TgMeth: methods of lists, dicts, texts; dict displays. -/
namespace Tg
open PySem PySem.Spec PyProof.Rows L2

def tyMD (A : AH) (T : String) (d : D) : Bool :=
  if T = "list" then (seqL A d).isSome else if T = "dict" then (dctD A d).isSome else if T = "str" then (match d with
    | .str _ => true
    | _ => false) else false
def mMt (T : String) (f : D → List D → AH → R D) (mo : ME) (ma : MA) : ME := fun s A => (mo s A).bind fun x A1 => if tyMD A1 T x then (ma s A1).bind fun ds A2 => f x ds A2 else .bad
def MtS (K : PySem.W.Frag) (mg : Str → Option Value) (r : V → List V → Hp → VK → Prop) (f : D → List D → AH → R D) : Prop :=
  ∀ (W : Wd) (A : AH) (H : Hp) (E : XK) (Q : VK) (d : D) (x : V) (ds : List D) (xs : List V), Ok K mg W A H → Rep K W d x → Reps K W ds xs → Post K mg (Rep K) W H E Q (f d ds A) → r x xs H Q
section
variable {K : PySem.W.Frag} {mg : Str → Option Value} {W : Wd} {A : AH} {H : Hp}
theorem tyMD_at (k : Ok K mg W A H) {d : D} {x : V} (r : Rep K W d x) {T : String} (h : tyMD A T d = true) : tyV K T x H := by
  unfold tyMD at h
  split at h
  · rename_i e
    subst e
    obtain ⟨ds, e1⟩ := Option.isSome_iff_exists.mp h
    obtain ⟨a, xs, rfl, h1, h2⟩ := seqL_at k r e1
    exact .inl ⟨rfl, xs, h1⟩
  · split at h
    · rename_i e
      subst e
      obtain ⟨ds, e1⟩ := Option.isSome_iff_exists.mp h
      obtain ⟨a, xs, rfl, h1, h2⟩ := dctD_at k r e1
      exact .inr (.inr (.inl ⟨rfl, .inl ⟨xs, h1⟩⟩))
    · split at h
      · rename_i e
        subst e
        split at h
        · cases (show x = _ from r)
          exact rfl
        · cases h
      · cases h
end
section
variable {X : Cx} {Wx : WX} {e o : Expr} {es : List Expr} {to : TE} {t : TA} {mo : ME} {m : MA} {apos cpos : Pos} {name : Str} {T id : String} {r : V → List V → Hp → VK → Prop} {f : D → List D → AH → R D}
theorem smt (pa : PlainAttrs T) (slot : Slot T name id) (hty : typeOf (.builtin id) = pure (.type "method_descriptor")) (hm : MtR X id r) (hs : MtS X.K X.mg r f) (ho : SE X Wx o to mo) (ha : SA X Wx (e :: es) t m)
    (hbase : attributeBase o name X.env (eval o X.env) = eval o X.env := by rfl)
    (hfew : ((backTo cpos (starEach (e :: es) X.env)).all (fun x => !x.1) && (backToKw cpos (keywordEach [] X.env)).all (fun x => x.1.isSome) && decide ((e :: es).length + ([] : List Keyword).length + (if ([] : List Keyword).isEmpty then 0 else 1) < 30)) = true := by rfl)
    (hline : (apos.endLine == cpos.line) = true := by rfl) (hst : starEach (e :: es) X.env = (false, eval e X.env) :: starEach es X.env := by rfl) (hplain : (backTo cpos (starEach es X.env)).any (·.1) = false := by rfl) :
    SE X Wx (.Call (.Attribute o name apos) (e :: es) [] cpos) (tBM X.K T r to t) (mMt T f mo m) :=
  ⟨pe_bm pa slot hty hm ho.pe ha.pa hbase hfew hline hst hplain, fun W σ s A H Q k sr z => ho.sim W σ s A H _ k sr (z.bind fun x A1 v W1 H1 e1 k1 r1 h1 => by
    by_cases q : tyMD A1 T x = true
    · rw [if_pos q] at h1
      exact ⟨tyMD_at k1 r1 q, ha.sim W1 σ s A1 H1 _ k1 (sr.le e1.le) (h1.bind fun ds A2 us W2 H2 e2 k2 r2 h2 => hs W2 A2 H2 _ Q x v ds us k2 (r1.le e2.le) r2 h2)⟩
    · rw [if_neg q] at h1
      exact h1.elim)⟩
theorem smt0 (pa : PlainAttrs T) (slot : Slot T name id) (hty : typeOf (.builtin id) = pure (.type "method_descriptor")) (hm : MtR X id r) (hs : MtS X.K X.mg r f) (ho : SE X Wx o to mo)
    (hbase : attributeBase o name X.env (eval o X.env) = eval o X.env := by rfl) (hline : (apos.endLine == cpos.line) = true := by rfl) :
    SE X Wx (.Call (.Attribute o name apos) [] [] cpos) (tBM0 X.K T r to) (mMt T f mo mNil) :=
  ⟨pe_bm0 pa slot hty hm ho.pe hbase hline, fun W σ s A H Q k sr z => ho.sim W σ s A H _ k sr (z.bind fun x A1 v W1 H1 e1 k1 r1 h1 => by
    by_cases q : tyMD A1 T x = true
    · rw [if_pos q] at h1
      exact ⟨tyMD_at k1 r1 q, hs W1 A1 H1 _ Q x v [] [] k1 r1 rfl h1⟩
    · rw [if_neg q] at h1
      exact h1.elim)⟩
end

/-! ### lists that change -/
def appD : D → List D → AH → R D
  | .ref n, [d], A => match A[n]? with
    | some (.lst ds) => if ds.length < 16777216 then .ok .non (A.set n (.lst (ds ++ [d]))) else .bad
    | _ => .bad
  | _, _, _ => .bad
def extD : D → List D → AH → R D
  | .ref n, [d], A => match A[n]?, lstL A d with
    | some (.lst ds), some es => if ds.length + es.length ≤ 16777216 then .ok .non (A.set n (.lst (ds ++ es))) else .bad
    | _, _ => .bad
  | _, _, _ => .bad
def popD : D → List D → AH → R D
  | .ref n, [], A => match A[n]? with
    | some (.lst ds) => match ds[ds.length - 1]? with
      | some d => .ok d (A.set n (.lst ds.dropLast))
      | none => .bad
    | _ => .bad
  | _, _, _ => .bad
def popAtD : D → List D → AH → R D
  | .ref n, [.int i], A => match A[n]? with
    | some (.lst ds) => if 0 ≤ i ∧ i < ds.length ∧ i < 2 ^ 63 then match ds[i.toNat]? with
      | some d => .ok d (A.set n (.lst (ds.eraseIdx i.toNat)))
      | none => .bad
      else .bad
    | _ => .bad
  | _, _, _ => .bad
def revD : D → List D → AH → R D
  | .ref n, [], A => match A[n]? with
    | some (.lst ds) => .ok .non (A.set n (.lst ds.reverse))
    | _ => .bad
  | _, _, _ => .bad
def clrD : D → List D → AH → R D
  | .ref n, [], A => match A[n]? with
    | some (.lst _) => .ok .non (A.set n (.lst []))
    | _ => .bad
  | _, _, _ => .bad
def findI (k : Int) : List Int → Option Nat
  | [] => none
  | i :: is => if i = k then some 0 else (findI k is).map (· + 1)
def remD : D → List D → AH → R D
  | .ref n, [.int k], A => match A[n]? with
    | some (.lst ds) => match intsD ds with
      | some ns => match findI k ns with
        | some j => .ok .non (A.set n (.lst ((ns.eraseIdx j).map .int)))
        | none => .bad
      | none => .bad
    | _ => .bad
  | _, _, _ => .bad
section
variable {K : PySem.W.Frag} {mg : Str → Option Value}
theorem obl {W : Wd} {ds : List D} {xs : List V} (h : Reps K W ds xs) : ObR K mg W (.lst ds) (some (.lst xs)) := ⟨xs, rfl, h⟩
theorem obd {W : Wd} {kvs : List (Key × D)} {vs : List (Key × V)} (h : KVR K W kvs vs) : ObR K mg W (.dct kvs) (some (.dK vs)) := ⟨vs, rfl, h.1, h.2⟩
theorem post_write {W : Wd} {A : AH} {H : Hp} {E : XK} {Q : VK} {n : Nat} {a : Addr} {d : D} {v : V} {u : AO} {o : HO} (k : Ok K mg W A H) (ha : W.m[n]? = some a) (ob : ObR K mg W u (some o)) (rv : Rep K W d v)
    (h : Post K mg (Rep K) W H E Q (.ok d (A.set n u))) : Q v (upd H a o) := by
  obtain ⟨k1, e1⟩ := k.write ha ob
  exact h _ _ _ e1 k1 (rv.le e1.le)
theorem oAppS : MtS K mg rAppend appD := fun W A H E Q d x ds xs k rx r h => by
  unfold appD at h
  split at h
  · obtain ⟨a, rfl, ha⟩ := rx
    obtain ⟨v, rfl, h1⟩ := reps1 r
    split at h
    · rename_i es q
      split at h
      · rename_i z
        obtain ⟨ys, h2, h3⟩ := k.lookL ha q
        exact ⟨a, ys, v, rfl, rfl, h2, by rw [sizeLine_eq, h3.length]; exact z, post_write (d := .non) k ha (obl (h3.append (Reps.one h1))) rfl h⟩
      · exact h.elim
    · exact h.elim
  · exact h.elim
theorem oExtS : MtS K mg rExtend extD := fun W A H E Q d x ds xs k rx r h => by
  unfold extD at h
  split at h
  · obtain ⟨a, rfl, ha⟩ := rx
    obtain ⟨v, rfl, h1⟩ := reps1 r
    split at h
    · rename_i es fs q q2
      split at h
      · rename_i z
        obtain ⟨ys, h2, h3⟩ := k.lookL ha q
        obtain ⟨b, zs, rfl, h4, h5⟩ := lstL_at k h1 q2
        exact ⟨a, b, ys, zs, rfl, rfl, h2, h4, by rw [h3.length, h5.length]; exact sz_of z, post_write (d := .non) k ha (obl (h3.append h5)) rfl h⟩
      · exact h.elim
    · exact h.elim
  · exact h.elim
theorem Reps.dropLast {W : Wd} {ds : List D} {xs : List V} (r : Reps K W ds xs) : Reps K W ds.dropLast xs.dropLast := by
  rw [List.dropLast_eq_take, List.dropLast_eq_take, r.length]
  exact r.take _
theorem oPopS : MtS K mg rPop popD := fun W A H E Q d x ds xs k rx r h => by
  unfold popD at h
  split at h
  · obtain ⟨a, rfl, ha⟩ := rx
    cases (show xs = [] from r)
    split at h
    · rename_i es q
      split at h
      · rename_i d' q2
        obtain ⟨ys, h2, h3⟩ := k.lookL ha q
        obtain ⟨v, h4, h5⟩ := h3.get q2
        exact ⟨a, ys, v, rfl, rfl, h2, by rw [h3.length]; exact h4, post_write k ha (obl (h3.dropLast)) h5 h⟩
      · exact h.elim
    · exact h.elim
  · exact h.elim
theorem oPopAtS : MtS K mg rPopAt popAtD := fun W A H E Q d x ds xs k rx r h => by
  unfold popAtD at h
  split at h
  · obtain ⟨a, rfl, ha⟩ := rx
    obtain ⟨v, rfl, h1⟩ := reps1 r
    cases (show v = _ from h1)
    split at h
    · rename_i i _ es q
      split at h
      · rename_i z
        split at h
        · rename_i d' q2
          obtain ⟨ys, h2, h3⟩ := k.lookL ha q
          obtain ⟨v, h4, h5⟩ := h3.get q2
          refine ⟨a, ys, _, _, v, rfl, rfl, h2, by omega, z.2.2, ?_, h4, post_write k ha (obl (h3.eraseIdx _)) h5 h⟩
          rw [h3.length]
          exact (ixN_seq (by unfold ixN; rw [if_pos z.1, if_pos z.2.1])).1
        · exact h.elim
      · exact h.elim
    · exact h.elim
  · exact h.elim
theorem oRevS : MtS K mg rReverse revD := fun W A H E Q d x ds xs k rx r h => by
  unfold revD at h
  split at h
  · obtain ⟨a, rfl, ha⟩ := rx
    cases (show xs = [] from r)
    split at h
    · rename_i es q
      obtain ⟨ys, h2, h3⟩ := k.lookL ha q
      exact ⟨a, ys, rfl, rfl, h2, post_write (d := .non) k ha (obl (h3.reverse)) rfl h⟩
    · exact h.elim
  · exact h.elim
theorem oClrS : MtS K mg rClear clrD := fun W A H E Q d x ds xs k rx r h => by
  unfold clrD at h
  split at h
  · obtain ⟨a, rfl, ha⟩ := rx
    cases (show xs = [] from r)
    split at h
    · rename_i es q
      obtain ⟨ys, h2, h3⟩ := k.lookL ha q
      exact ⟨a, ys, rfl, rfl, h2, post_write (d := .non) k ha (obl (show Reps K W [] [] from rfl)) rfl h⟩
    · exact h.elim
  · exact h.elim
theorem findI_at : ∀ {ns : List Int} {k : Int} {j : Nat}, findI k ns = some j → ns[j]? = some k ∧ ∀ m : Nat, m < j → ns[m]? ≠ some k
  | [], _, _, e => by cases e
  | i :: is, k, j, e => by
    unfold findI at e
    by_cases q : i = k
    · rw [if_pos q] at e
      cases e
      exact ⟨by simp [q], fun m hm => absurd hm (Nat.not_lt_zero m)⟩
    · rw [if_neg q] at e
      obtain ⟨j', e1, rfl⟩ := Option.map_eq_some_iff.mp e
      obtain ⟨h1, h2⟩ := findI_at e1
      refine ⟨by simpa using h1, fun m hm => ?_⟩
      cases m with
      | zero => simpa using q
      | succ m => simpa using h2 m (by omega)
theorem oRemS : MtS K mg rRemI remD := fun W A H E Q d x ds xs k rx r h => by
  unfold remD at h
  split at h
  · obtain ⟨a, rfl, ha⟩ := rx
    obtain ⟨v, rfl, h1⟩ := reps1 r
    cases (show v = _ from h1)
    split at h
    · rename_i es q
      split at h
      · rename_i ns q2
        split at h
        · rename_i j q3
          obtain ⟨ys, h2, h3⟩ := k.lookL ha q
          have ey := intsD_at q2 h3
          subst ey
          obtain ⟨f1, f2⟩ := findI_at q3
          exact ⟨a, ns, _, j, rfl, rfl, h2, f1, f2, post_write (d := .non) k ha (obl (reps_ints W _)) rfl h⟩
        · exact h.elim
      · exact h.elim
    · exact h.elim
  · exact h.elim
end

/-! ### texts -/
def strsD : List D → Option (List Str)
  | [] => some []
  | .str z :: ds => (strsD ds).map (z :: ·)
  | _ :: _ => none
def joinD : D → List D → AH → R D
  | .str a, [d], A => match (itemsD A d).bind strsD with
    | some ys => if (ys.map (·.length)).sum + ys.length * a.length ≤ 16777216 then .ok (.str (Txt.join a ys)) A else .bad
    | none => .bad
  | _, _, _ => .bad
def splitD : D → List D → AH → R D
  | .str a, [.str b], A => if (b.length == 0) = false ∧ a.length + 2 ≤ 16777216 then .ok (.lst ((Txt.split a b).map .str)) A else .bad
  | _, _, _ => .bad
section
variable {K : PySem.W.Frag} {mg : Str → Option Value}
theorem strsD_at {W : Wd} : ∀ {ds : List D} {ys : List Str} {xs : List V}, strsD ds = some ys → Reps K W ds xs → xs = ys.map V.str
  | [], ys, xs, e, r => by
    cases (show some [] = some ys from e)
    exact r
  | d :: ds, ys, xs, e, r => by
    cases d with
    | str z =>
      obtain ⟨ys', e1, rfl⟩ := Option.map_eq_some_iff.mp (show (strsD ds).map (z :: ·) = some ys from e)
      obtain ⟨v, r', rfl, h1, h2⟩ := r
      rw [strsD_at e1 h2, (show v = .str z from h1)]
      rfl
    | _ => cases (show none = some ys from e)
theorem reps_strs (W : Wd) : ∀ ys : List Str, Reps K W (ys.map .str) (ys.map V.str)
  | [] => rfl
  | y :: ys => ⟨_, _, rfl, rfl, reps_strs W ys⟩
theorem oJoinS : MtS K mg (fun x xs H Q => ∃ a p, ∃ ys : List Str, x = .str a ∧ xs = [.ref p] ∧ (SqL K H p (ys.map V.str) ∨ SqT K H p (ys.map V.str)) ∧ (ys.map (·.length)).sum + ys.length * a.length ≤ 16777216 ∧ Q (.str (Txt.join a ys)) H) joinD :=
  fun W A H E Q d x ds xs k rx r h => by
    unfold joinD at h
    split at h
    · cases (show x = _ from rx)
      obtain ⟨v, rfl, h1⟩ := reps1 r
      split at h
      · rename_i ys e1
        obtain ⟨es, e2, e3⟩ := Option.bind_eq_some_iff.mp e1
        split at h
        · rename_i z
          obtain ⟨p, zs, rfl, h2, h3⟩ := itemsD_at k h1 e2
          have ez := strsD_at e3 h3
          subst ez
          exact ⟨_, p, ys, rfl, rfl, h2, z, h.ok_at k rfl⟩
        · exact h.elim
      · exact h.elim
    · exact h.elim
theorem oSplitS : MtS K mg (fun x xs H Q => ∃ a b, x = .str a ∧ xs = [.str b] ∧ (b.length == 0) = false ∧ a.length + 2 ≤ sizeLine ∧ rNewStrs (Txt.split a b) H Q) splitD :=
  fun W A H E Q d x ds xs k rx r h => by
    unfold splitD at h
    split at h
    · cases (show x = _ from rx)
      obtain ⟨v, rfl, h1⟩ := reps1 r
      cases (show v = _ from h1)
      split at h
      · rename_i z
        exact ⟨_, _, rfl, rfl, z.1, sz_of z.2, fun p hp => post_lst k h (reps_strs W _) hp⟩
      · exact h.elim
    · exact h.elim
end

/-! ### dicts -/
def getD1 (x y : D) (A : AH) : R D := match dctD A x, keyD y with
  | some kvs, some k => .ok ((lkK kvs k).getD .non) A
  | _, _ => .bad
def getD2 (x y z : D) (A : AH) : R D := match dctD A x, keyD y with
  | some kvs, some k => .ok ((lkK kvs k).getD z) A
  | _, _ => .bad
def mGet1 (o y : ME) : ME := fun s A => (o s A).bind fun x A1 => if (dctD A1 x).isSome then (y s A1).bind fun d A2 => getD1 x d A2 else .bad
def mGet2 (o y z : ME) : ME := fun s A => (o s A).bind fun x A1 => if (dctD A1 x).isSome then (y s A1).bind fun d A2 => (z s A2).bind fun e A3 => getD2 x d e A3 else .bad
section
variable {X : Cx} {Wx : WX} {o e f : Expr} {to te tf : TE} {mo me mf : ME} {apos cpos : Pos} {kk : Nat}
theorem isD_of {K : PySem.W.Frag} {mg : Str → Option Value} {W : Wd} {A : AH} {H : Hp} (k : Ok K mg W A H) {d : D} {x : V} (r : Rep K W d x) (h : (dctD A d).isSome = true) : ∃ a, x = .ref a ∧ IsD H a := by
  obtain ⟨kvs, e1⟩ := Option.isSome_iff_exists.mp h
  obtain ⟨a, vs, rfl, h1, _⟩ := dctD_at k r e1
  exact ⟨a, rfl, .inl ⟨vs, .inl h1⟩⟩
theorem sget1 (hr : Room kk X.A) (ho : SE X Wx o to mo) (he : SE X Wx e te me) (m : M1 X o "get" apos e cpos := by exact ⟨by rfl, by rfl, by rfl, by rfl⟩) : SE X Wx (.Call (.Attribute o "get" apos) [e] [] cpos) (tDGet1 to te) (mGet1 mo me) :=
  ⟨pe_dget1 (room_u1 hr) ho.pe he.pe m, fun W σ s A H Q k sr z => ho.sim W σ s A H _ k sr (z.bind fun x A1 v W1 H1 e1 k1 r1 h1 => by
    by_cases q : (dctD A1 x).isSome = true
    · rw [if_pos q] at h1
      obtain ⟨a, rfl, hd⟩ := isD_of k1 r1 q
      refine ⟨a, rfl, hd, he.sim W1 σ s A1 H1 _ k1 (sr.le e1.le) (h1.bind fun y A2 u W2 H2 e2 k2 r2 h2 => ?_)⟩
      unfold getD1 at h2
      split at h2
      · rename_i kvs kx q1 q2
        obtain ⟨b, vs, ev, h3, h4⟩ := dctD_at k2 (r1.le e2.le) q1
        cases ev
        refine ⟨valV vs kx, ?_, h2.ok_at k2 ?_⟩
        · rw [keyD_at r2 q2]
          exact .k h3
        · cases q3 : lkK kvs kx with
          | none =>
            rw [h4.none q3]
            exact rfl
          | some d =>
            obtain ⟨w', h5, h6⟩ := h4.get q3
            rw [h5]
            exact h6
      · exact h2.elim
    · rw [if_neg q] at h1
      exact h1.elim)⟩
theorem sget2 (hr : Room kk X.A) (ho : SE X Wx o to mo) (he : SE X Wx e te me) (hf : SE X Wx f tf mf) (m : M2 X o "get" apos e f cpos := by exact ⟨by rfl, by rfl, by rfl, by rfl⟩) : SE X Wx (.Call (.Attribute o "get" apos) [e, f] [] cpos) (tDGet2 to te tf) (mGet2 mo me mf) :=
  ⟨pe_dget2 (room_u1 hr) ho.pe he.pe hf.pe m, fun W σ s A H Q k sr z => ho.sim W σ s A H _ k sr (z.bind fun x A1 v W1 H1 e1 k1 r1 h1 => by
    by_cases q : (dctD A1 x).isSome = true
    · rw [if_pos q] at h1
      obtain ⟨a, rfl, hd⟩ := isD_of k1 r1 q
      refine ⟨a, rfl, hd, he.sim W1 σ s A1 H1 _ k1 (sr.le e1.le) (h1.bind fun y A2 u W2 H2 e2 k2 r2 h2 => hf.sim W2 σ s A2 H2 _ k2 (sr.le (e1.trans e2).le) (h2.bind fun dz A3 uz W3 H3 e3 k3 r3 h3 => ?_))⟩
      unfold getD2 at h3
      split at h3
      · rename_i kvs kx q1 q2
        obtain ⟨b, vs, ev, h4, h5⟩ := dctD_at k3 (r1.le (e2.trans e3).le) q1
        cases ev
        refine ⟨valV vs kx, ?_, h3.ok_at k3 ?_⟩
        · rw [keyD_at r2 q2]
          exact .k h4
        · cases q3 : lkK kvs kx with
          | none =>
            rw [h5.none q3]
            exact r3
          | some d =>
            obtain ⟨w', h6, h7⟩ := h5.get q3
            rw [h6]
            exact h7
      · exact h3.elim
    · rw [if_neg q] at h1
      exact h1.elim)⟩
end

/-! ### {k: v, ..} -/
abbrev MP := Sl → AH → R (List (D × D))
def RepP (K : PySem.W.Frag) (W : Wd) : List (D × D) → List (V × V) → Prop
  | [], ps => ps = []
  | p :: ds, ps => ∃ q r, ps = q :: r ∧ Rep K W p.1 q.1 ∧ Rep K W p.2 q.2 ∧ RepP K W ds r
structure SPs (X : Cx) (Wx : WX) (pos : Pos) (keys : List (Option Expr)) (values : List Expr) (trs : List (TE × TE)) (m : MP) : Prop where
  pps : PPs X pos keys values trs
  sim : ∀ (W : Wd) (σ : L2.St) (s : Sl) (A : AH) (H : Hp) (Q : List (V × V) → Hp → Prop), Ok X.K X.mg W A H → SlR X.K W s σ → Post X.K X.mg (RepP X.K) W H (fun c d H' => Wx c d σ H') Q (m s A) → tPairs trs σ H Q
def mPNil : MP := fun _ A => .ok [] A
def mPCons (a b : ME) (r : MP) : MP := fun s A => (a s A).bind fun x A1 => (b s A1).bind fun y A2 => (r s A2).bind fun ps A3 => .ok ((x, y) :: ps) A3
def keysD : List (D × D) → Option (List (Key × D))
  | [] => some []
  | p :: ps => match keyD p.1, keysD ps with
    | some k, some kvs => some ((k, p.2) :: kvs)
    | _, _ => none
def mergeD (kvs more : List (Key × D)) : List (Key × D) := more.foldl (fun acc kv => ptK acc kv.1 kv.2) kvs
/-- a dict that lies still; one that will change -/
def mDct (m : MP) : ME := fun s A => (m s A).bind fun ps A1 => match keysD ps with
  | some kvs => if kvs.length ≤ 15 then .ok (.dct ((mergeD [] kvs).map (·.1)) ((mergeD [] kvs).map (·.2))) A1 else .bad
  | none => .bad
def mDctN (m : MP) : ME := fun s A => (m s A).bind fun ps A1 => match keysD ps with
  | some kvs => if kvs.length ≤ 15 then .ok (.ref A1.length) (A1 ++ [.dct (mergeD [] kvs)]) else .bad
  | none => .bad
section
variable {K : PySem.W.Frag} {mg : Str → Option Value} {W : Wd}
theorem RepP.le {W' : Wd} (l : Le W W') : ∀ {ds : List (D × D)} {ps : List (V × V)}, RepP K W ds ps → RepP K W' ds ps
  | [], _, h => h
  | _ :: _, _, h => by
    obtain ⟨q, r, e, h1, h2, h3⟩ := h
    exact ⟨q, r, e, h1.le l, h2.le l, RepP.le l h3⟩
theorem keysD_at : ∀ {ds : List (D × D)} {ps : List (V × V)} {kvs : List (Key × D)}, RepP K W ds ps → keysD ds = some kvs → ∃ vs : List (Key × V), ps = vs.map (fun kv => (kV kv.1, kv.2)) ∧ KVR K W kvs vs
  | [], ps, kvs, r, e => by
    cases (show some [] = some kvs from e)
    cases (show ps = [] from r)
    exact ⟨[], rfl, rfl, rfl⟩
  | p :: ds, ps, kvs, r, e => by
    obtain ⟨q, r', rfl, h1, h2, h3⟩ := r
    unfold keysD at e
    split at e
    · rename_i kx kvs' e1 e2
      cases e
      obtain ⟨vs, e3, e4⟩ := keysD_at h3 e2
      refine ⟨(kx, q.2) :: vs, ?_, KVR.mk_cons h2 e4⟩
      rw [List.map_cons, ← e3, ← keyD_at h1 e1]
    · cases e
theorem KVR.merge : ∀ {more : List (Key × D)} {ms : List (Key × V)} {kvs : List (Key × D)} {vs : List (Key × V)}, KVR K W more ms → KVR K W kvs vs → KVR K W (mergeD kvs more) (mergeK vs ms)
  | [], ms, kvs, vs, r, r' => by
    cases r.nil_iff
    exact r'
  | p :: more, ms, kvs, vs, r, r' => by
    obtain ⟨v, ms', rfl, h1, h2⟩ := r.cons_iff
    have e : mergeK vs ((p.1, v) :: ms') = mergeK (putK vs p.1 v) ms' := rfl
    rw [e]
    exact KVR.merge (more := more) h2 (r'.put h1)
theorem KVR.zipMap {kvs : List (Key × D)} : ((kvs.map (·.1)).zip (kvs.map (·.2))) = kvs := by
  induction kvs with
  | nil => rfl
  | cons p r ih => simp only [List.map_cons, List.zip_cons_cons, ih]
end
section
variable {X : Cx} {Wx : WX} {pos : Pos} {a b : Expr} {keys : List (Option Expr)} {values : List Expr} {ta tb : TE} {ma mb : ME} {trs : List (TE × TE)} {m : MP}
theorem spnil : SPs X Wx pos [] [] [] mPNil := ⟨pps_nil, fun W σ s A H Q k sr h => h.ok_at k rfl⟩
theorem spcons (ha : SE X Wx a ta ma) (hb : SE X Wx b tb mb) (h : SPs X Wx pos keys values trs m) : SPs X Wx pos (some a :: keys) (b :: values) ((ta, tb) :: trs) (mPCons ma mb m) :=
  ⟨pps_cons ha.pe hb.pe h.pps, fun W σ s A H Q k sr z => ha.sim W σ s A H _ k sr (z.bind fun x A1 v W1 H1 e1 k1 r1 h1 => hb.sim W1 σ s A1 H1 _ k1 (sr.le e1.le) (h1.bind fun y A2 u W2 H2 e2 k2 r2 h2 =>
    h.sim W2 σ s A2 H2 _ k2 (sr.le (e1.trans e2).le) (h2.bind fun ps A3 qs W3 H3 e3 k3 r3 h3 => h3.ok_at k3 ⟨(v, u), qs, rfl, r1.le (e2.trans e3).le, r2.le e3.le, r3⟩)))⟩
theorem sdct (h : SPs X Wx pos keys values trs m) (hall : keys.all (·.isSome) = true := by rfl) (hl : keys.length = values.length := by rfl) (h0 : keys ≠ [] := by (intro z; cases z)) (h15 : keys.length ≤ 15 := by decide) : SE X Wx (.Dict keys values pos) (tDisp trs) (mDct m) :=
  ⟨pe_disp h.pps hall hl h0 h15, fun W σ s A H Q k sr z p hp => by
    obtain ⟨k0, e0⟩ := k.aside hp (.dK [])
    refine h.sim W σ s A _ _ k0 (sr.le e0.le) (z.bind0 e0 fun ps A1 qs W1 H1 e1 k1 r1 h1 => ?_)
    obtain ⟨nm, nF, k2, e2, hh⟩ := Ok.undo hp k e1 k1
    refine ⟨hh, ?_⟩
    split at h1
    · rename_i kvs q
      split at h1
      · rename_i q15
        obtain ⟨vs, ev, rr⟩ := keysD_at r1 q
        refine ⟨vs, ev, by rw [rr.len]; exact q15, ?_⟩
        have mm := KVR.merge rr (kvs := []) (vs := []) ⟨rfl, rfl⟩
        obtain ⟨k3, e3⟩ := k2.frozen delH_same (.dK (mergeK [] vs))
        rw [upd_delH] at k3 e3
        exact h1 _ _ _ (e2.trans e3) k3 ⟨p, _, rfl, upd_same, mm.1, mm.2.le e3.le⟩
      · exact h1.elim
    · exact h1.elim⟩
theorem sdctN (h : SPs X Wx pos keys values trs m) (hall : keys.all (·.isSome) = true := by rfl) (hl : keys.length = values.length := by rfl) (h0 : keys ≠ [] := by (intro z; cases z)) (h15 : keys.length ≤ 15 := by decide) : SE X Wx (.Dict keys values pos) (tDisp trs) (mDctN m) :=
  ⟨pe_disp h.pps hall hl h0 h15, fun W σ s A H Q k sr z p hp => by
    obtain ⟨k0, e0⟩ := k.aside hp (.dK [])
    refine h.sim W σ s A _ _ k0 (sr.le e0.le) (z.bind0 e0 fun ps A1 qs W1 H1 e1 k1 r1 h1 => ?_)
    obtain ⟨nm, nF, k2, e2, hh⟩ := Ok.undo hp k e1 k1
    refine ⟨hh, ?_⟩
    split at h1
    · rename_i kvs q
      split at h1
      · rename_i q15
        obtain ⟨vs, ev, rr⟩ := keysD_at r1 q
        refine ⟨vs, ev, by rw [rr.len]; exact q15, ?_⟩
        have mm := KVR.merge rr (kvs := []) (vs := []) ⟨rfl, rfl⟩
        have l : Le W1 ⟨W1.F, W1.m ++ [p]⟩ := ⟨fun _ _ e => e, [p], rfl⟩
        obtain ⟨k3, e3⟩ := k2.fresh delH_same (obd (mm.le l))
        rw [upd_delH] at k3 e3
        refine h1 _ _ _ (e2.trans e3) k3 ⟨p, rfl, ?_⟩
        rw [← k2.len]
        exact List.getElem?_concat_length
      · exact h1.elim
    · exact h1.elim⟩
theorem sdct0 : SE X Wx (.Dict [] [] pos) tDNewK (mDct mPNil) := ⟨pe_dnewK, fun W σ s A H Q k sr z p hp => by
    obtain ⟨k3, e3⟩ := k.frozen hp (.dK [])
    exact z _ _ _ e3 k3 ⟨p, _, rfl, upd_same, rfl, rfl⟩⟩
theorem sdct0N : SE X Wx (.Dict [] [] pos) tDNewK (mDctN mPNil) := ⟨pe_dnewK, fun W σ s A H Q k sr z p hp => by
    obtain ⟨k3, e3⟩ := k.fresh hp (o := .dK []) (u := .dct []) ⟨[], rfl, rfl, rfl⟩
    refine z _ _ _ e3 k3 ⟨p, rfl, ?_⟩
    rw [← k.len]
    exact List.getElem?_concat_length⟩
end
end Tg

set_option Elab.async false
set_option linter.all false
set_option maxRecDepth 100000
set_option maxHeartbeats 2000000
/-! TgStmt: statements, loops, comprehensions. -/
namespace Tg
open PySem PySem.Spec PyProof.Rows L2

inductive RS where
  | nx (s : Sl) (A : AH)
  | rt (d : D) (A : AH)
  | bk (s : Sl) (A : AH)
  | ct (s : Sl) (A : AH)
  | exc (x : XV) (s : Sl) (A : AH)
  | bad
abbrev MS := Sl → AH → RS
def PostS (K : PySem.W.Frag) (mg : Str → Option Value) (W : Wd) (H : Hp) (De : Ends) (Wx : WX) : RS → Prop
  | .nx s A => ∀ W' σ' H', Ext W H W' H' → Ok K mg W' A H' → SlR K W' s σ' → De.nx σ' H'
  | .rt d A => ∀ W' v H', Ext W H W' H' → Ok K mg W' A H' → Rep K W' d v → De.rt v H'
  | .bk s A => ∀ W' σ' H', Ext W H W' H' → Ok K mg W' A H' → SlR K W' s σ' → De.bk σ' H'
  | .ct s A => ∀ W' σ' H', Ext W H W' H' → Ok K mg W' A H' → SlR K W' s σ' → De.ct σ' H'
  | .exc x s A => ∀ W' σ' H' c d, Ext W H W' H' → Ok K mg W' A H' → SlR K W' s σ' → XRep K mg W' x c d H' → Wx c d σ' H'
  | .bad => False
section
variable {K : PySem.W.Frag} {mg : Str → Option Value} {W W1 : Wd} {H H1 : Hp} {De : Ends} {Wx : WX}
theorem PostS.ext {r : RS} (e : Ext W H W1 H1) (h : PostS K mg W H De Wx r) : PostS K mg W1 H1 De Wx r := by
  cases r with
  | nx s A => exact fun W' σ' H' x => h W' σ' H' (e.trans x)
  | rt s A => exact fun W' σ' H' x => h W' σ' H' (e.trans x)
  | bk s A => exact fun W' σ' H' x => h W' σ' H' (e.trans x)
  | ct s A => exact fun W' σ' H' x => h W' σ' H' (e.trans x)
  | exc y s A => exact fun W' σ' H' c d x => h W' σ' H' c d (e.trans x)
  | bad => exact h
theorem PostS.nx_at {s : Sl} {A : AH} {σ : L2.St} (h : PostS K mg W H De Wx (.nx s A)) (k : Ok K mg W A H) (sr : SlR K W s σ) : De.nx σ H := h W σ H (Ext.refl W H) k sr
end
def SimS (K : PySem.W.Frag) (mg : Str → Option Value) (Wx : WX) (t : TS) (m : MS) : Prop :=
  ∀ (W : Wd) (σ : L2.St) (s : Sl) (A : AH) (H : Hp) (De : Ends), Ok K mg W A H → SlR K W s σ → PostS K mg W H De Wx (m s A) → t De σ H
structure SS (X : Cx) (Wx : WX) (st : Stmt) (t : TS) (m : MS) : Prop where
  ps : PS X st t
  sim : SimS X.K X.mg Wx t m
structure SSs (X : Cx) (Wx : WX) (st : List Stmt) (t : TS) (m : MS) : Prop where
  ps : PSs X st t
  sim : SimS X.K X.mg Wx t m
/-- behind an expression -/
def R.thenS {α : Type} (r : R α) (s : Sl) (f : α → AH → RS) : RS := match r with
  | .ok a A => f a A
  | .exc x A => .exc x s A
  | .bad => .bad
@[simp] theorem R.thenS_ok {α : Type} (a : α) (A : AH) (s : Sl) (f : α → AH → RS) : (R.ok a A).thenS s f = f a A := rfl
@[simp] theorem R.thenS_exc {α : Type} (x : XV) (A : AH) (s : Sl) (f : α → AH → RS) : (R.exc x A).thenS s f = .exc x s A := rfl
@[simp] theorem R.thenS_bad {α : Type} (s : Sl) (f : α → AH → RS) : (R.bad : R α).thenS s f = .bad := rfl
theorem PostS.bind {α β : Type} {K : PySem.W.Frag} {mg : Str → Option Value} {rel : Wd → α → β → Prop} {W : Wd} {H : Hp} {De : Ends} {Wx : WX} {Q : β → Hp → Prop} {r : R α} {s : Sl} {σ : L2.St} {f : α → AH → RS} (sr : SlR K W s σ) (h : PostS K mg W H De Wx (r.thenS s f))
    (g : ∀ a A1 b W1 H1, Ext W H W1 H1 → Ok K mg W1 A1 H1 → rel W1 a b → PostS K mg W1 H1 De Wx (f a A1) → Q b H1) : Post K mg rel W H (fun c d H' => Wx c d σ H') Q r := by
  cases r with
  | ok a A' => exact fun W' H' b x k z => g a A' b W' H' x k z (PostS.ext x h)
  | exc x A' => exact fun W' H' c d y k z => h W' σ H' c d y k (sr.le y.le) z
  | bad => exact h

def mNx : MS := fun s A => .nx s A
def mSeq (a b : MS) : MS := fun s A => match a s A with
  | .nx s1 A1 => b s1 A1
  | r => r
def mDrop (m : ME) : MS := fun s A => (m s A).thenS s fun _ A1 => .nx s A1
def mRet (m : ME) : MS := fun s A => (m s A).thenS s fun d A1 => .rt d A1
def mRetN : MS := fun _ A => .rt .non A
def mIfS (c : MT) (a b : MS) : MS := fun s A => (c s A).thenS s fun k A1 => if k then a s A1 else b s A1
def mCt : MS := fun s A => .ct s A
def mBk : MS := fun s A => .bk s A
def mNever : MS := fun _ _ => .bad
abbrev MG := D → Sl → Option Sl
def mAsg (m : ME) (g : MG) : MS := fun s A => (m s A).thenS s fun d A1 => match g d s with
  | some s1 => .nx s1 A1
  | none => .bad
def gmN (i : Nat) : MG := fun d s => some (s.set i (some d))
abbrev MGs := List D → Sl → Option Sl
def gmNil : MGs := fun ds s => match ds with
  | [] => some s
  | _ => none
def gmCons (g : MG) (gs : MGs) : MGs := fun ds s => match ds with
  | d :: r => match g d s with
    | some s1 => gs r s1
    | none => none
  | _ => none
def gmTup (n : Nat) (gs : MGs) : MG := fun d s => match d with
  | .tup ds => if ds.length = n then gs ds s else none
  | _ => none
theorem wipe_set {i : Nat} {o : Option V} : ∀ {vs : List Nat} {σ : L2.St}, wipe (σ.set i o) vs = if i ∈ vs then wipe σ vs else (wipe σ vs).set i o
  | [], σ => rfl
  | v :: vs, σ => by
    show (wipe (σ.set i o) vs).set v none = if i ∈ v :: vs then (wipe σ vs).set v none else ((wipe σ vs).set v none).set i o
    rw [wipe_set]
    by_cases h : i ∈ vs
    · rw [if_pos h, if_pos (List.mem_cons_of_mem _ h)]
    · rw [if_neg h]
      by_cases q : i = v
      · subst q
        rw [if_pos (List.mem_cons_self ..), List.set_set]
      · rw [if_neg (by simp only [List.mem_cons, not_or]; exact ⟨q, h⟩), List.set_comm _ _ q]
theorem wipe_in {i : Nat} {o : Option V} {vs : List Nat} {σ : L2.St} (h : i ∈ vs) : wipe (σ.set i o) vs = wipe σ vs := by rw [wipe_set, if_pos h]
def wpD (s : Sl) : List Nat → Sl
  | [] => s
  | v :: vs => (wpD s vs).set v none
theorem SlR.wipe {K : PySem.W.Frag} {W : Wd} {s : Sl} {σ : L2.St} (h : Tg.SlR K W s σ) : ∀ vs : List Nat, Tg.SlR K W (wpD s vs) (L2.wipe σ vs)
  | [] => h
  | v :: vs => (SlR.wipe h vs).unset v
/-- a target; is: its slots -/
structure SG (X : Cx) (tg : Expr) (g : TG) (m : MG) (is : List Nat) : Prop where
  pg : PG X tg g
  sim : ∀ (W : Wd) (σ : L2.St) (s s1 : Sl) (A : AH) (H : Hp) (d : D) (x : V) (Q : L2.St → Hp → Prop), Ok X.K X.mg W A H → SlR X.K W s σ → Rep X.K W d x → m d s = some s1 →
    (∀ σ', SlR X.K W s1 σ' → (∀ vs, (∀ i ∈ is, i ∈ vs) → wipe σ' vs = wipe σ vs) → Q σ' H) → g x σ H Q
structure SGs (X : Cx) (tg : List Expr) (g : TGs) (m : MGs) (is : List Nat) : Prop where
  pgs : PGs X tg g
  sim : ∀ (W : Wd) (σ : L2.St) (s s1 : Sl) (A : AH) (H : Hp) (ds : List D) (xs : List V) (Q : L2.St → Hp → Prop), Ok X.K X.mg W A H → SlR X.K W s σ → Reps X.K W ds xs → m ds s = some s1 →
    (∀ σ', SlR X.K W s1 σ' → (∀ vs, (∀ i ∈ is, i ∈ vs) → wipe σ' vs = wipe σ vs) → Q σ' H) → g xs σ H Q
section
variable {X : Cx} {Wx : WX} {e : Expr} {es : List Expr} {te : TE} {me : ME} {pos : Pos}
theorem gname {i : Nat} {x : Str} (hN : X.N.Nodup) (hi : X.N[i]? = some x := by rfl) (hx : Loc X.env.scope x := by first | exact Or.inl rfl | exact Or.inr rfl) (hf : X.fn x = true ∨ X.env.scope.names.lookup x = some .local := by first | exact .inl rfl | exact .inr rfl | assumption) :
    SG X (.Name x pos) (gName i) (gmN i) [i] := ⟨pg_name hN hi hx hf, fun W σ s s1 A H d x Q k sr r e h => by
  cases e
  exact h _ (sr.set i r) fun vs hv => wipe_in (hv i (by simp))⟩
theorem gnil : SGs X [] gNil gmNil [] := ⟨pgs_nil, fun W σ s s1 A H ds xs Q k sr r e h => by
  cases ds with
  | nil =>
    cases e
    exact ⟨r, h σ sr fun _ _ => rfl⟩
  | cons d ds => cases e⟩
theorem gcons {g : TG} {gs : TGs} {m : MG} {ms : MGs} {is js : List Nat} (h1 : SG X e g m is) (h2 : SGs X es gs ms js) (hs : (assignEach (e :: es) X.env).map (·.2) = assign e X.env :: (assignEach es X.env).map (·.2) := by rfl) :
    SGs X (e :: es) (gCons g gs) (gmCons m ms) (is ++ js) := ⟨pgs_cons h1.pg h2.pgs hs, fun W σ s s1 A H ds xs Q k sr r eq h => by
  cases ds with
  | nil => cases eq
  | cons d ds =>
    obtain ⟨v, r', rfl, r1, r2⟩ := r
    unfold gmCons at eq
    dsimp only at eq
    split at eq
    · rename_i s2 e1
      exact ⟨v, r', rfl, h1.sim W σ s s2 A H d v _ k sr r1 e1 fun σ2 sr2 w2 => h2.sim W σ2 s2 s1 A H ds r' _ k sr2 r2 eq fun σ3 sr3 w3 => h σ3 sr3 fun vs hv =>
        (w3 vs fun i hi => hv i (List.mem_append_right _ hi)).trans (w2 vs fun i hi => hv i (List.mem_append_left _ hi))⟩
    · cases eq⟩
theorem gtup {gs : TGs} {ms : MGs} {is : List Nat} {n j : Nat} (hc : X.calm = true) (h : SGs X es gs ms is) (hn : (assignEach es X.env).length = n := by rfl) (hst : (assignEach es X.env).findIdx? (·.1) = none := by rfl) :
    SG X (.Tuple es j pos) (gTup X.K n gs) (gmTup n ms) is := ⟨pg_tup hc h.pgs hn hst, fun W σ s s1 A H d x Q k sr r eq hq => by
  unfold gmTup at eq
  split at eq
  · rename_i ds
    split at eq
    · rename_i hl
      obtain ⟨a, xs, rfl, q1, q2⟩ := tup_at k r
      exact ⟨a, xs, rfl, q1, q2.length.trans hl, h.sim W σ s s1 A H ds xs Q k sr q2 eq hq⟩
    · cases eq
  · cases eq⟩
end

section
variable {X : Cx} {Wx : WX} {c e o : Expr} {es : List Expr} {st : Stmt} {rest as bs : List Stmt} {te to : TE} {me mo : ME} {tc : TT} {mc' : MT} {t u : TS} {m n : MS} {pos pos' : Pos}
theorem ssnil : SSs X Wx [] tNext mNx := ⟨pss_nil, fun W σ s A H De k sr h => h.nx_at k sr⟩
theorem sscons (h1 : SS X Wx st t m) (h2 : SSs X Wx rest u n) : SSs X Wx (st :: rest) (tSeq t u) (mSeq m n) :=
  ⟨pss_cons h1.ps h2.ps, fun W σ s A H De k sr h => h1.sim W σ s A H _ k sr (by
    unfold mSeq at h
    split at h
    · rename_i s1 A1 e1
      rw [e1]
      exact fun W' σ' H' x k' sr' => h2.sim W' σ' s1 A1 H' De k' sr' (PostS.ext x h)
    · rename_i z
      generalize hm : m s A = r at h z
      cases r with
      | nx s1 A1 => exact absurd rfl (z s1 A1)
      | _ => exact h)⟩
theorem ssone (h1 : SS X Wx st t m) : SSs X Wx [st] t m := ⟨pss_one h1.ps, h1.sim⟩
theorem spass : SS X Wx (.Pass pos) tNext mNx := ⟨ps_pass, fun W σ s A H De k sr h => h.nx_at k sr⟩
theorem scont : SS X Wx (.Continue pos) tCont mCt := ⟨ps_continue, fun W σ s A H De k sr h => h W σ H (Ext.refl W H) k sr⟩
theorem sbrk : SS X Wx (.Break pos) tBreak mBk := ⟨ps_break, fun W σ s A H De k sr h => h W σ H (Ext.refl W H) k sr⟩
theorem snever : SS X Wx st tNever mNever := ⟨ps_never, fun W σ s A H De k sr h => h.elim⟩
theorem sexpr (h : SE X Wx e te me) (hs : swapsWith e none pos.line X.env = pure false := by rfl) : SS X Wx (.Expr e pos) (tDrop te) (mDrop me) :=
  ⟨ps_expr h.pe hs, fun W σ s A H De k sr z => h.sim W σ s A H _ k sr (PostS.bind (rel := Rep X.K) sr z fun d A1 v W1 H1 e1 k1 r1 h1 => h1.nx_at k1 (sr.le e1.le))⟩
theorem sret (h : SE X Wx e te me) : SS X Wx (.Return (some e) pos) (tRet te) (mRet me) :=
  ⟨ps_ret h.pe, fun W σ s A H De k sr z => h.sim W σ s A H _ k sr (PostS.bind (rel := Rep X.K) sr z fun d A1 v W1 H1 e1 k1 r1 h1 => h1 W1 v H1 (Ext.refl _ _) k1 r1)⟩
theorem sretN : SS X Wx (.Return none pos) tRetN mRetN := ⟨ps_retN, fun W σ s A H De k sr h => h W .non H (Ext.refl _ _) k rfl⟩
theorem sifS (hc : ST X Wx c tc mc') (ha : SSs X Wx as t m) (hb : SSs X Wx bs u n) : SS X Wx (.If c as bs pos) (tIfS tc t u) (mIfS mc' m n) :=
  ⟨ps_if hc.pt ha.ps hb.ps, fun W σ s A H De k sr z => hc.sim W σ s A H _ k sr (PostS.bind (rel := relB) sr z fun x A1 v W1 H1 e1 k1 r1 h1 => by
    cases r1
    cases x with
    | true => exact ha.sim W1 σ s A1 H1 De k1 (sr.le e1.le) h1
    | false => exact hb.sim W1 σ s A1 H1 De k1 (sr.le e1.le) h1)⟩
theorem sim_asg {K : PySem.W.Frag} {mg : Str → Option Value} {g : TG} {mgt : MG} (h : SimE K mg Wx te me) (hg : ∀ (W : Wd) (σ : L2.St) (s s1 : Sl) (A : AH) (H : Hp) (d : D) (x : V) (Q : L2.St → Hp → Prop), Ok K mg W A H → SlR K W s σ → Rep K W d x → mgt d s = some s1 →
    (∀ σ', SlR K W s1 σ' → Q σ' H) → g x σ H Q) : SimS K mg Wx (tAsg te g) (mAsg me mgt) := fun W σ s A H De k sr z => h W σ s A H _ k sr (PostS.bind (rel := Rep K) sr z fun d A1 v W1 H1 e1 k1 r1 h1 => by
  split at h1
  · rename_i s1 q
    exact hg W1 σ s s1 A1 H1 d v _ k1 (sr.le e1.le) r1 q fun σ' sr' => h1.nx_at k1 sr'
  · exact h1.elim)
/-- name = e -/
theorem sset (i : Nat) {x : Str} (hN : X.N.Nodup) (h : SE X Wx e te me) (hi : X.N[i]? = some x := by rfl) (hx : Loc X.env.scope x := by first | exact Or.inl rfl | exact Or.inr rfl) (hs : swapsWith e (some (.Name x pos')) pos.line X.env = pure false := by rfl)
    (hf : X.fn x = true ∨ X.env.scope.names.lookup x = some .local := by first | exact .inl rfl | exact .inr rfl | assumption) : SS X Wx (.Assign [.Name x pos'] e pos) (tAsg te (gName i)) (mAsg me (gmN i)) :=
  ⟨ps_set hN hi hx h.pe hs hf, sim_asg h.sim fun W σ s s1 A H d x Q k sr r eq hq => by
    cases eq
    exact hq _ (sr.set i r)⟩
/-- (a, b) = e -/
theorem sasg {tg : Expr} {g : TG} {m : MG} {is : List Nat} (h : SE X Wx e te me) (hg : SG X tg g m is) (hs : swapsWithSole [tg] e pos.line X.env = pure false := by rfl) (hw : swappedStores [tg] e X.env = pure none := by rfl)
    (h1 : (assignEach [tg] X.env).map (·.2) = [assign tg X.env] := by rfl) : SS X Wx (.Assign [tg] e pos) (tAsg te g) (mAsg me m) :=
  ⟨ps_asg h.pe hg.pg hs hw h1, sim_asg h.sim fun W σ s s1 A H d x Q k sr r eq hq => hg.sim W σ s s1 A H d x Q k sr r eq fun σ' sr' _ => hq σ' sr'⟩
/-- a, b = e1, e2 and a, b, c = e1, e2, e3 -/
def mPar (is : List Nat) (m : MA) : MS := fun s A => (m s A).thenS s fun ds A1 => match is, ds with
  | [i, j], [d, e] => .nx ((s.set i (some d)).set j (some e)) A1
  | [i, j, l], [d, e, f] => .nx (((s.set i (some d)).set j (some e)).set l (some f)) A1
  | _, _ => .bad
theorem spar {i j : Nat} {x y : Str} {a b : Expr} {ta : TA} {ma : MA} {px py pt pt2 : Pos} {kt k2 : Nat} (hc : X.calm = true) (hN : X.N.Nodup) (h : SA X Wx [a, b] ta ma) (hp : PS X (.Assign [.Tuple [.Name x px, .Name y py] kt pt] (.Tuple [a, b] k2 pt2) pos) (tPar i j ta)) :
    SS X Wx (.Assign [.Tuple [.Name x px, .Name y py] kt pt] (.Tuple [a, b] k2 pt2) pos) (tPar i j ta) (mPar [i, j] ma) :=
  ⟨hp, fun W σ s A H De k sr z => h.sim W σ s A H _ k sr (PostS.bind (rel := Reps X.K) sr z fun ds A1 v W1 H1 e1 k1 r1 h1 => by
    split at h1
    · rename_i i' j' d' e' q
      simp only [List.cons.injEq] at q
      obtain ⟨rfl, rfl, _⟩ := q
      obtain ⟨v1, v2, rfl, q1, q2⟩ := reps2 r1
      exact ⟨v1, v2, rfl, h1.nx_at k1 (((sr.le e1.le).set _ q1).set _ q2)⟩
    · rename_i q
      simp at q
    · exact h1.elim)⟩
theorem spar3 {i j l : Nat} {x y z : Str} {a b c : Expr} {ta : TA} {ma : MA} {px py pz pt pt2 : Pos} {kt k2 : Nat} (hc : X.calm = true) (hN : X.N.Nodup) (h : SA X Wx [a, b, c] ta ma)
    (hp : PS X (.Assign [.Tuple [.Name x px, .Name y py, .Name z pz] kt pt] (.Tuple [a, b, c] k2 pt2) pos) (tPar3 i j l ta)) :
    SS X Wx (.Assign [.Tuple [.Name x px, .Name y py, .Name z pz] kt pt] (.Tuple [a, b, c] k2 pt2) pos) (tPar3 i j l ta) (mPar [i, j, l] ma) :=
  ⟨hp, fun W σ s A H De k sr z => h.sim W σ s A H _ k sr (PostS.bind (rel := Reps X.K) sr z fun ds A1 v W1 H1 e1 k1 r1 h1 => by
    split at h1
    · rename_i q
      simp at q
    · rename_i i' j' l' d' e' f' q
      simp only [List.cons.injEq] at q
      obtain ⟨rfl, rfl, rfl, _⟩ := q
      obtain ⟨v1, r', rfl, q1, r2⟩ := r1
      obtain ⟨v2, v3, rfl, q2, q3⟩ := reps2 r2
      exact ⟨v1, v2, v3, rfl, h1.nx_at k1 ((((sr.le e1.le).set _ q1).set _ q2).set _ q3)⟩
    · exact h1.elim)⟩

/-! ### o.f = e, o[i] = e -/
def stFld (cs : List Str) (f : Str) (o d : D) (A : AH) : Option AH := match o with
  | .ref n => match A[n]? with
    | some (.ins c fs) => if c ∈ cs ∧ fs.length < 1000 then some (A.set n (.ins c (putFD f d fs))) else none
    | _ => none
  | _ => none
def mFldS (cs : List Str) (f : Str) (mo me : ME) : MS := fun s A => (me s A).thenS s fun d A1 => (mo s A1).thenS s fun x A2 => match stFld cs f x d A2 with
  | some A3 => .nx s A3
  | none => .bad
theorem sfldS {cs : List Str} {f : Str} (hc : Fds X.K X.mg cs f) (ho : SE X Wx o to mo) (h : SE X Wx e te me) (hs : swapsWith e (some (.Attribute o f pos')) pos.line X.env = pure false := by rfl) : SS X Wx (.Assign [.Attribute o f pos'] e pos) (sFld X.K to te f) (mFldS cs f mo me) :=
  ⟨ps_fld ho.pe h.pe hs, fun W σ s A H De k sr z => h.sim W σ s A H _ k sr (PostS.bind (rel := Rep X.K) sr z fun d A1 v W1 H1 e1 k1 r1 h1 =>
    ho.sim W1 σ s A1 H1 _ k1 (sr.le e1.le) (PostS.bind (rel := Rep X.K) (sr.le e1.le) h1 fun x A2 u W2 H2 e2 k2 r2 h2 => by
      split at h2
      · rename_i A3 q
        unfold stFld at q
        split at q
        · rename_i j
          split at q
          · rename_i c' fs q2
            split at q
            · rename_i q3
              cases q
              obtain ⟨a, rfl, ha⟩ := r2
              obtain ⟨dx, vs, hx, hk, rr⟩ := k2.obj _ a _ ha q2
              obtain ⟨p1, p2⟩ := putFD_at (f := f) (r1.le e2.le) hk rr
              have hl : vs.length = fs.length := by simpa using congrArg List.length hk
              obtain ⟨k3, e3⟩ := k2.write ha (u := .ins c' (putFD f d fs)) (o := .ins (clA X.mg c') dx (putF f v vs)) ⟨dx, _, rfl, p1, p2⟩
              exact ⟨a, _, dx, vs, rfl, hx, (hc c' q3.1).1, (hc c' q3.1).2, by rw [hl]; exact q3.2, h2 _ _ _ e3 k3 (sr.le ((e1.trans e2).trans e3).le)⟩
            · cases q
          · cases q
        · cases q
      · exact h2.elim))⟩
def rSetU : V → V → V → Hp → (Hp → Prop) → Prop := fun o i v H Q => rSetL o i v H Q ∨ ∃ a H', o = .ref a ∧ DPut H a i v H' ∧ Q H'
theorem set_any {kk : Nat} (hr : Room kk X.A) : PSet X rSetU := by
  intro pn st' sg Hh ov iv vv o1 i1 v1 QQ II ro ri rv hh
  rcases hh with hh | ⟨a, H', rfl, g, q⟩
  · exact set_list pn st' sg Hh ov iv vv o1 i1 v1 QQ II ro ri rv hh
  · obtain rfl : o1 = Value.ref a := ro
    exact d_setItem (room_u1 hr) II g ri rv fun s4 I4 => ⟨_, I4, q⟩
def stSub (o i d : D) (A : AH) : Option AH := match o with
  | .ref n => match A[n]? with
    | some (.lst ds) => match i with
      | .int k => match ixN ds.length k with
        | some j => some (A.set n (.lst (ds.set j d)))
        | none => none
      | _ => none
    | some (.dct kvs) => match keyD i with
      | some k => if kvs.length < 16777216 then some (A.set n (.dct (ptK kvs k d))) else none
      | none => none
    | _ => none
  | _ => none
def mSubS (mo mi me : ME) : MS := fun s A => (me s A).thenS s fun d A1 => (mo s A1).thenS s fun x A2 => (mi s A2).thenS s fun y A3 => match stSub x y d A3 with
  | some A4 => .nx s A4
  | none => .bad
theorem ssub {i : Expr} {ti : TE} {mi : ME} {kk : Nat} (hr : Room kk X.A) (ho : SE X Wx o to mo) (hi : SE X Wx i ti mi) (h : SE X Wx e te me)
    (ha : ∀ v, assign (.Subscript o i pos') X.env v = (do
      let ov ← holding [v] (eval o X.env)
      let iv ← holding [v, ov] (eval i X.env)
      standAt pos'
      holding [v, ov, iv] (setItem ov iv v)
      release [v, ov, iv] []) := by intro _; rfl)
    (hs : swapsWithSole [.Subscript o i pos'] e pos.line X.env = pure false := by rfl) (hw : swappedStores [.Subscript o i pos'] e X.env = pure none := by rfl)
    (h1 : (assignEach [.Subscript o i pos'] X.env).map (·.2) = [assign (.Subscript o i pos') X.env] := by rfl) :
    SS X Wx (.Assign [.Subscript o i pos'] e pos) (tAsg te (gSub to ti rSetU)) (mSubS mo mi me) :=
  ⟨ps_asg h.pe (pg_sub ho.pe hi.pe (set_any hr) ha) hs hw h1, fun W σ s A H De k sr z => h.sim W σ s A H _ k sr (PostS.bind (rel := Rep X.K) sr z fun d A1 v W1 H1 e1 k1 r1 h1 =>
    ho.sim W1 σ s A1 H1 _ k1 (sr.le e1.le) (PostS.bind (rel := Rep X.K) (sr.le e1.le) h1 fun x A2 u W2 H2 e2 k2 r2 h2 =>
      hi.sim W2 σ s A2 H2 _ k2 (sr.le (e1.trans e2).le) (PostS.bind (rel := Rep X.K) (sr.le (e1.trans e2).le) h2 fun y A3 w W3 H3 e3 k3 r3 h3 => by
        have rd := r1.le (e2.trans e3).le
        have ro := r2.le e3.le
        have sr3 := sr.le ((e1.trans e2).trans e3).le
        split at h3
        · rename_i A4 q
          unfold stSub at q
          split at q
          · rename_i n'
            obtain ⟨a, rfl, ha'⟩ := ro
            split at q
            · rename_i ds q2
              split at q
              · rename_i kx
                split at q
                · rename_i jx q4
                  cases q
                  obtain ⟨xs, hx, rr⟩ := k3.lookL ha' q2
                  obtain ⟨k4, e4⟩ := k3.write ha' (u := .lst (ds.set jx d)) (o := .lst (xs.set jx v)) (obl (rr.set jx rd))
                  exact .inl ⟨a, xs, kx, jx, rfl, r3, hx, by rw [rr.length]; exact q4, h3 _ _ _ e4 k4 (sr3.le e4.le)⟩
                · cases q
              · cases q
            · rename_i kvs q2
              split at q
              · rename_i kx q3
                split at q
                · rename_i q4
                  cases q
                  obtain ⟨vs, hx, hk, rr⟩ := k3.obj _ a _ ha' q2
                  have kr : KVR X.K W3 kvs vs := ⟨hk, rr⟩
                  obtain ⟨k4, e4⟩ := k3.write ha' (u := .dct (ptK kvs kx d)) (o := .dK (putK vs kx v)) (obd (kr.put rd))
                  refine .inr ⟨a, _, rfl, ?_, h3 _ _ _ e4 k4 (sr3.le e4.le)⟩
                  rw [keyD_at r3 q3]
                  exact .k hx (by rw [sizeLine_eq, kr.len]; exact q4)
                · cases q
              · cases q
            · cases q
          · cases q
        · exact h3.elim)))⟩
end
end Tg

set_option Elab.async false
set_option linter.all false
set_option maxRecDepth 100000
set_option maxHeartbeats 2000000
/-! TgLoop: for, while, comprehensions. -/
namespace Tg
open PySem PySem.Spec PyProof.Rows L2

/-- what is walked: data that lies still, or a list that may change -/
inductive IT where
  | data (ds : List D)
  | ref (n : Nat)
def itNext : IT → Nat → AH → Option (Option D)
  | .data ds, i, _ => some ds[i]?
  | .ref n, i, A => match A[n]? with
    | some (.lst ds) => some ds[i]?
    | _ => none
def itLen : IT → AH → Nat
  | .data ds, _ => ds.length
  | .ref n, A => match A[n]? with
    | some (.lst ds) => ds.length
    | _ => 0
/-- J goes as it does, from W on -/
def JR (K : PySem.W.Frag) (mg : Str → Option Value) (W : Wd) (it : IT) (J : It) : Prop :=
  ∀ (W' : Wd) (A' : AH) (H' : Hp) (i : Nat), Le W W' → Ok K mg W' A' H' → match itNext it i A' with
    | some (some d) => J.go i H' ∧ ∀ x H2, J.yld i H' x H2 → ∃ W2, Ext W' H' W2 H2 ∧ Ok K mg W2 A' H2 ∧ Rep K W2 d x
    | some none => J.stop i H'
    | none => True
def SimI (K : PySem.W.Frag) (mg : Str → Option Value) (Wx : WX) (t : TI) (m : Sl → AH → R IT) : Prop :=
  ∀ (W : Wd) (σ : L2.St) (s : Sl) (A : AH) (H : Hp) (Rr : It → Hp → Prop), Ok K mg W A H → SlR K W s σ → Post K mg (JR K mg) W H (fun c d H' => Wx c d σ H') Rr (m s A) → t σ H Rr
structure SI (X : Cx) (Wx : WX) (tg iter : Expr) (t : TI) (m : Sl → AH → R IT) : Prop where
  pi : PI X tg iter t
  sim : SimI X.K X.mg Wx t m

/-! ### what is walked -/
def iAny (K : PySem.W.Frag) (te : TE) : TI := fun σ H Rr => te σ H fun x H1 => (∃ a, x = .ref a ∧ (∃ xs, SqL K H1 a xs) ∧ Rr (Itl K a) H1) ∨ (∃ a, x = .ref a ∧ (∃ xs, SqT K H1 a xs) ∧ Rr (Itt K a) H1) ∨ ∃ z, x = .str z ∧ Rr (Its z) H1
def signs (z : Str) : List D := z.cps.toList.map fun c => .str ⟨#[c]⟩
def itOf : D → AH → R IT
  | .str z, A => .ok (.data (signs z)) A
  | .tup ds, A => .ok (.data ds) A
  | .lst ds, A => .ok (.data ds) A
  | .scr ns, A => .ok (.data (ns.map .int)) A
  | .ref n, A => match A[n]? with
    | some (.lst _) => .ok (.ref n) A
    | _ => .bad
  | _, _ => .bad
def miAny (m : ME) : Sl → AH → R IT := fun s A => (m s A).bind itOf
section
variable {X : Cx} {Wx : WX} {e tg : Expr} {es : List Expr} {te : TE} {me : ME} {ta : TA} {ma : MA} {p pos : Pos}
theorem pi_any (he : PE X e te) : PI X tg e (iAny X.K te) := by
  refine ⟨fun pn st sg Hh RR II hh => thn (he.run pn st sg Hh _ II hh) fun v s1 ⟨y, H1, I1, r1, q1⟩ => ?_⟩
  rcases q1 with ⟨a, rfl, ⟨xs, hq⟩, q⟩ | ⟨a, rfl, ⟨xs, hq⟩, q⟩ | ⟨z, rfl, q⟩
  · cases r1
    obtain ⟨its, rv, pp, hz⟩ := I1.list hq
    exact wpAny_pyIter_list pp.isList (pi_one (tk := s1.toks) I1 _ (turn_list a _) ⟨_, Heap.get?_push_size _ rfl, rfl, rfl⟩ q)
  · cases r1
    obtain ⟨its, rv, pp, hz⟩ := I1.tuple hq
    exact wpAny_pyIter_tuple (show s1.heap.IsTuple a its.toArray from pp) (pi_one (tk := s1.toks) I1 _ (turn_tuple a _) ⟨_, Heap.get?_push_size _ rfl, rfl, rfl⟩ q)
  · obtain ⟨t, rfl⟩ := r1
    cases ha : z.cps.all (· < 128)
    · exact wpAny_pyIter_wide ha (pi_one (tk := s1.toks) I1 _ (turn_str _ z t "str_iterator" (.inr rfl)) ⟨_, Heap.get?_push_size _ rfl, rfl, rfl⟩ q)
    · exact wpAny_pyIter_ascii ha (pi_one (tk := s1.toks) I1 _ (turn_str _ z t "str_ascii_iterator" (.inl rfl)) ⟨_, Heap.get?_push_size _ rfl, rfl, rfl⟩ q)
theorem jr_list {K : PySem.W.Frag} {mg : Str → Option Value} {W : Wd} {a : Addr} {xs : List V} {ds : List D} (h : SqL K W.F a xs) (r : Reps K W ds xs) : JR K mg W (.data ds) (Itl K a) := fun W' A' H' i l k => by
  have q := k.sqL (sqL_le l h)
  have r' := r.le l
  show match some ds[i]? with
    | some (some d) => _
    | some none => _
    | none => True
  cases hd : ds[i]? with
  | none => exact ⟨xs, q, by rw [r.length]; exact List.getElem?_eq_none_iff.mp hd⟩
  | some d =>
    obtain ⟨v, h1, h2⟩ := r'.get hd
    refine ⟨⟨xs, v, q, h1⟩, fun x H2 y => ?_⟩
    obtain ⟨rfl, y⟩ := y
    have := y xs q
    rw [h1] at this
    cases this
    exact ⟨W', Ext.refl _ _, k, h2⟩
theorem jr_tup {K : PySem.W.Frag} {mg : Str → Option Value} {W : Wd} {a : Addr} {xs : List V} {ds : List D} (h : SqT K W.F a xs) (r : Reps K W ds xs) : JR K mg W (.data ds) (Itt K a) := fun W' A' H' i l k => by
  have q := k.sqT (sqT_le l h)
  have r' := r.le l
  show match some ds[i]? with
    | some (some d) => _
    | some none => _
    | none => True
  cases hd : ds[i]? with
  | none => exact ⟨xs, q, by rw [r.length]; exact List.getElem?_eq_none_iff.mp hd⟩
  | some d =>
    obtain ⟨v, h1, h2⟩ := r'.get hd
    refine ⟨⟨xs, v, q, h1⟩, fun x H2 y => ?_⟩
    obtain ⟨rfl, y⟩ := y
    have := y xs q
    rw [h1] at this
    cases this
    exact ⟨W', Ext.refl _ _, k, h2⟩
theorem jr_ref {K : PySem.W.Frag} {mg : Str → Option Value} {W : Wd} {a : Addr} {n : Nat} (h : W.m[n]? = some a) : JR K mg W (.ref n) (Itl K a) := fun W' A' H' i l k => by
  have ha := l.at h
  cases hq : A'[n]? with
  | none =>
    rw [show itNext (.ref n) i A' = none by simp only [itNext, hq]]
    trivial
  | some o =>
    cases o with
    | lst ds =>
      obtain ⟨xs, q, r⟩ := k.lookL ha hq
      rw [show itNext (.ref n) i A' = some ds[i]? by simp only [itNext, hq]]
      cases hd : ds[i]? with
      | none => exact ⟨xs, .of q, by rw [r.length]; exact List.getElem?_eq_none_iff.mp hd⟩
      | some d =>
        obtain ⟨v, h1, h2⟩ := r.get hd
        refine ⟨⟨xs, v, .of q, h1⟩, fun x H2 y => ?_⟩
        obtain ⟨rfl, y⟩ := y
        have := y xs (.of q)
        rw [h1] at this
        cases this
        exact ⟨W', Ext.refl _ _, k, h2⟩
    | dct _ =>
      rw [show itNext (.ref n) i A' = none by simp only [itNext, hq]]
      trivial
    | ins _ _ =>
      rw [show itNext (.ref n) i A' = none by simp only [itNext, hq]]
      trivial
theorem jr_str {K : PySem.W.Frag} {mg : Str → Option Value} {W : Wd} {z : Str} : JR K mg W (.data (signs z)) (Its z) := fun W' A' H' i l k => by
  show match some (signs z)[i]? with
    | some (some d) => _
    | some none => _
    | none => True
  unfold signs
  rw [List.getElem?_map, Array.getElem?_toList]
  cases hd : z.cps[i]? with
  | none => exact Array.getElem?_eq_none_iff.mp hd
  | some c =>
    refine ⟨(Array.getElem?_eq_some_iff.mp hd).1, fun x H2 y => ?_⟩
    obtain ⟨rfl, c', hc, rfl⟩ := y
    rw [hd] at hc
    cases hc
    exact ⟨W', Ext.refl _ _, k, rfl⟩
theorem iany (h : SE X Wx e te me) : SI X Wx tg e (iAny X.K te) (miAny me) :=
  ⟨pi_any h.pe, fun W σ s A H Rr k sr z => h.sim W σ s A H _ k sr (z.bind fun x A1 v W1 H1 e1 k1 r1 h1 => by
    unfold itOf at h1
    split at h1
    · exact .inr (.inr ⟨_, r1, h1.ok_at k1 jr_str⟩)
    · obtain ⟨a, xs, rfl, q1, q2⟩ := r1
      exact .inr (.inl ⟨a, rfl, ⟨xs, k1.sqT q1⟩, h1.ok_at k1 (jr_tup q1 q2)⟩)
    · obtain ⟨a, xs, rfl, q1, q2⟩ := r1
      exact .inl ⟨a, rfl, ⟨xs, .of (k1.frz _ _ q1)⟩, h1.ok_at k1 (jr_list (.of q1) q2)⟩
    · obtain ⟨a, rfl, q1⟩ := r1
      exact .inl ⟨a, rfl, ⟨_, k1.sqL q1⟩, h1.ok_at k1 (jr_list q1 (reps_ints _ _))⟩
    · obtain ⟨a, rfl, q1⟩ := r1
      split at h1
      · rename_i q2
        obtain ⟨xs, q3, _⟩ := k1.lookL q1 q2
        exact .inl ⟨a, rfl, ⟨xs, .of q3⟩, h1.ok_at k1 (jr_ref q1)⟩
      · exact h1.elim
    · exact h1.elim)⟩

/-- range(n), range(a, b), range(a, b, c) -/
def rngL (lo c : Int) (n : Nat) : List D := (List.range n).map fun i => .int (lo + (i : Nat) * c)
def mRng1 (m : MA) : Sl → AH → R IT := fun s A => (m s A).bind fun ds A1 => match ds with
  | [.int j] => if -(2 ^ 62) ≤ j ∧ j < 2 ^ 62 then .ok (.data (rngL 0 1 j.toNat)) A1 else .bad
  | _ => .bad
def mRng2 (m : MA) : Sl → AH → R IT := fun s A => (m s A).bind fun ds A1 => match ds with
  | [.int i, .int j] => if -(2 ^ 62) ≤ i ∧ i < 2 ^ 62 ∧ -(2 ^ 62) ≤ j ∧ j < 2 ^ 62 then .ok (.data (rngL i 1 (j - i).toNat)) A1 else .bad
  | _ => .bad
def mRng3 (m : MA) : Sl → AH → R IT := fun s A => (m s A).bind fun ds A1 => match ds with
  | [.int i, .int j, .int c] => if c ≠ 0 ∧ c.natAbs < 1073741824 ∧ Builtin.Range.small i j c = true then .ok (.data (rngL i c (Builtin.Range.rangeSize i j c).toNat)) A1 else .bad
  | _ => .bad
theorem jr_rng {K : PySem.W.Frag} {mg : Str → Option Value} {W : Wd} {lo c : Int} {n : Nat} : JR K mg W (.data (rngL lo c n)) (Itc lo c n) := fun W' A' H' i l k => by
  show match some (rngL lo c n)[i]? with
    | some (some d) => _
    | some none => _
    | none => True
  unfold rngL
  rw [List.getElem?_map]
  by_cases hi : i < n
  · rw [List.getElem?_range hi]
    refine ⟨hi, fun x H2 y => ?_⟩
    obtain ⟨rfl, rfl⟩ := y
    exact ⟨W', Ext.refl _ _, k, rfl⟩
  · rw [List.getElem?_eq_none_iff.mpr (by simpa using hi)]
    exact Nat.le_of_not_lt hi
theorem jr_rng1 {K : PySem.W.Frag} {mg : Str → Option Value} {W : Wd} {lo : Int} {n : Nat} : JR K mg W (.data (rngL lo 1 n)) (Itr lo n) := fun W' A' H' i l k => by
  show match some (rngL lo 1 n)[i]? with
    | some (some d) => _
    | some none => _
    | none => True
  unfold rngL
  rw [List.getElem?_map]
  by_cases hi : i < n
  · rw [List.getElem?_range hi]
    refine ⟨hi, fun x H2 y => ?_⟩
    obtain ⟨rfl, rfl⟩ := y
    refine ⟨W', Ext.refl _ _, k, ?_⟩
    show V.int _ = V.int _
    rw [Int.mul_one]
  · rw [List.getElem?_eq_none_iff.mpr (by simpa using hi)]
    exact Nat.le_of_not_lt hi
theorem irng1 {a : Expr} (hm : X.mg "range" = none) (ha : SA X Wx [a] ta ma) (hg : Gl X "range" := by rfl) (hs : starEach [a] X.env = [(false, eval a X.env)] := by rfl) : SI X Wx tg (.Call (.Name "range" p) [a] [] pos) (iRng1 ta) (mRng1 ma) :=
  ⟨pi_range1 hg hm ha.pa hs, fun W σ s A H Rr k sr z => ha.sim W σ s A H _ k sr (z.bind fun ds A1 vs W1 H1 e1 k1 r1 h1 => by
    split at h1
    · obtain ⟨v, rfl, q⟩ := reps1 r1
      cases (show v = _ from q)
      split at h1
      · rename_i b
        exact ⟨_, rfl, b.1, b.2, h1.ok_at k1 jr_rng1⟩
      · exact h1.elim
    · exact h1.elim)⟩
theorem irng2 {a b : Expr} (hm : X.mg "range" = none) (ha : SA X Wx [a, b] ta ma) (hg : Gl X "range" := by rfl) (hs : starEach [a, b] X.env = [(false, eval a X.env), (false, eval b X.env)] := by rfl) (hs2 : starEach [b] X.env = [(false, eval b X.env)] := by rfl) :
    SI X Wx tg (.Call (.Name "range" p) [a, b] [] pos) (iRng2 ta) (mRng2 ma) :=
  ⟨pi_range2 hg hm ha.pa hs hs2, fun W σ s A H Rr k sr z => ha.sim W σ s A H _ k sr (z.bind fun ds A1 vs W1 H1 e1 k1 r1 h1 => by
    split at h1
    · obtain ⟨v, u, rfl, q, q'⟩ := reps2 r1
      cases (show v = _ from q)
      cases (show u = _ from q')
      split at h1
      · rename_i b
        exact ⟨_, _, rfl, b, h1.ok_at k1 jr_rng1⟩
      · exact h1.elim
    · exact h1.elim)⟩
theorem irng3 {a b c : Expr} (hm : X.mg "range" = none) (ha : SA X Wx [a, b, c] ta ma) (hg : Gl X "range" := by rfl) (hs : starEach [a, b, c] X.env = (false, eval a X.env) :: starEach [b, c] X.env := by rfl) (hpl : (backTo pos (starEach [b, c] X.env)).any (·.1) = false := by rfl) :
    SI X Wx tg (.Call (.Name "range" p) [a, b, c] [] pos) (iRng3 ta) (mRng3 ma) :=
  ⟨pi_range3 hg hm ha.pa hs hpl, fun W σ s A H Rr k sr z => ha.sim W σ s A H _ k sr (z.bind fun ds A1 vs W1 H1 e1 k1 r1 h1 => by
    split at h1
    · obtain ⟨v, r', rfl, q, r2⟩ := r1
      obtain ⟨u, w, rfl, q', q2⟩ := reps2 r2
      cases (show v = _ from q)
      cases (show u = _ from q')
      cases (show w = _ from q2)
      split at h1
      · rename_i i j c' b
        refine ⟨i, j, c', (Builtin.Range.rangeSize i j c').toNat, rfl, ⟨b.1, b.2.1, b.2.2, ?_⟩, h1.ok_at k1 jr_rng⟩
        have : 0 ≤ Builtin.Range.rangeSize i j c' := by
          unfold Builtin.Range.rangeSize
          split
          · split
            · have := Int.ediv_nonneg (a := j - i - 1) (b := c') (by omega) (by omega)
              omega
            · exact Int.le_refl 0
          · split
            · have := Int.ediv_nonneg (a := i - j - 1) (b := -c') (by omega) (by omega)
              omega
            · exact Int.le_refl 0
        omega
      · exact h1.elim
    · exact h1.elim)⟩
end

/-! ### for -/
def forG (g : MG) (b : MS) (it : IT) : Nat → Nat → Sl → AH → RS
  | 0, _, _, _ => .bad
  | f + 1, i, s, A => match itNext it i A with
    | none => .bad
    | some none => .nx s A
    | some (some d) => match g d s with
      | none => .bad
      | some s1 => match b s1 A with
        | .nx s2 A2 => forG g b it f (i + 1) s2 A2
        | .ct s2 A2 => forG g b it f (i + 1) s2 A2
        | .bk s2 A2 => .nx s2 A2
        | r => r
def mFor (mi : Sl → AH → R IT) (g : MG) (b : MS) : MS := fun s A => (mi s A).thenS s fun it A1 => forG g b it (itLen it A1 + 1) 0 s A1
/-- over data -/
def forL (g : MG) (b : MS) : List D → Sl → AH → RS
  | [], s, A => .nx s A
  | d :: ds, s, A => match g d s with
    | none => .bad
    | some s1 => match b s1 A with
      | .nx s2 A2 => forL g b ds s2 A2
      | .ct s2 A2 => forL g b ds s2 A2
      | .bk s2 A2 => .nx s2 A2
      | r => r
theorem forG_data (g : MG) (b : MS) (ds : List D) : ∀ (f i : Nat) (s : Sl) (A : AH), i + f = ds.length + 1 → forG g b (.data ds) f i s A = if f = 0 then .bad else forL g b (ds.drop i) s A
  | 0, i, s, A, h => rfl
  | f + 1, i, s, A, h => by
    rw [if_neg (Nat.succ_ne_zero f)]
    show (match some ds[i]? with
      | none => RS.bad
      | some none => .nx s A
      | some (some d) => _) = _
    cases hd : ds[i]? with
    | none =>
      rw [List.drop_eq_nil_of_le (List.getElem?_eq_none_iff.mp hd)]
      rfl
    | some d =>
      have hi := (List.getElem?_eq_some_iff.mp hd).1
      rw [List.drop_eq_getElem_cons hi, (List.getElem?_eq_some_iff.mp hd).2]
      have hf : f ≠ 0 := by omega
      show (match g d s with
        | none => RS.bad
        | some s1 => _) = (match g d s with
        | none => RS.bad
        | some s1 => _)
      cases g d s with
      | none => rfl
      | some s1 =>
        dsimp only
        cases b s1 A with
        | nx s2 A2 =>
          dsimp only
          rw [forG_data g b ds f (i + 1) s2 A2 (by omega), if_neg hf]
        | ct s2 A2 =>
          dsimp only
          rw [forG_data g b ds f (i + 1) s2 A2 (by omega), if_neg hf]
        | _ => rfl
theorem mFor_data {mi : Sl → AH → R IT} {g : MG} {b : MS} {s : Sl} {A A1 : AH} {ds : List D} (h : mi s A = .ok (.data ds) A1) : mFor mi g b s A = forL g b ds s A1 := by
  unfold mFor
  rw [h]
  show forG g b (.data ds) (ds.length + 1) 0 s A1 = _
  rw [forG_data g b ds _ _ _ _ (Nat.zero_add _), if_neg (Nat.succ_ne_zero _), List.drop_zero]
section
variable {X : Cx} {Wx : WX} {tg iter c : Expr} {body : List Stmt} {wi : TI} {mi : Sl → AH → R IT} {g : TG} {mgt : MG} {is : List Nat} {tb : TS} {mb : MS} {tc : TT} {mc' : MT} {pos : Pos}
theorem sfor (hp : PassesOwn (model X.prog X.w) X.A X.env X.xe) (hc : X.calm = true) (hi : SI X Wx tg iter wi mi) (hg : SG X tg g mgt is) (hb : SSs X Wx body tb mb) (hs : ∀ x, foldedSetIterable iter X.env x = pure x := by intro _; rfl) :
    SS X Wx (.For tg iter body [] pos) (tFor wi g tb) (mFor mi mgt mb) :=
  ⟨ps_for hp hc hi.pi hg.pg hb.ps hs, fun W σ s A H De k sr z => hi.sim W σ s A H _ k sr (PostS.bind (rel := JR X.K X.mg) sr z fun it A1 J W1 H1 e1 k1 j1 h1 => by
    refine ⟨fun i m σ2 H2 => ∃ W2 s2 A2, Ext W1 H1 W2 H2 ∧ Ok X.K X.mg W2 A2 H2 ∧ SlR X.K W2 s2 σ2 ∧ PostS X.K X.mg W2 H2 De Wx (forG mgt mb it m i s2 A2), ⟨_, W1, s, A1, Ext.refl _ _, k1, sr.le e1.le, h1⟩, ?_⟩
    rintro i m σ2 H2 ⟨W2, s2, A2, e2, k2, sr2, h2⟩
    cases m with
    | zero => exact h2.elim
    | succ m =>
      have jj := j1 W2 A2 H2 i e2.le k2
      unfold forG at h2
      cases hn : itNext it i A2 with
      | none =>
        rw [hn] at h2
        exact h2.elim
      | some o =>
        rw [hn] at h2 jj
        cases o with
        | none => exact .inl ⟨jj, h2.nx_at k2 sr2⟩
        | some d =>
          refine .inr ⟨jj.1, fun σ3 H3 => ∃ W3 s3 A3, Ext W1 H1 W3 H3 ∧ Ok X.K X.mg W3 A3 H3 ∧ SlR X.K W3 s3 σ3 ∧ PostS X.K X.mg W3 H3 De Wx (forG mgt mb it m (i + 1) s3 A3), fun σ3 H3 q => ⟨m, Nat.lt_succ_self m, q⟩, fun x H3 y => ?_⟩
          obtain ⟨W3, e3, k3, r3⟩ := jj.2 x H3 y
          have h3 := PostS.ext e3 h2
          dsimp only at h3
          cases hg1 : mgt d s2 with
          | none =>
            rw [hg1] at h3
            exact h3.elim
          | some s3 =>
            rw [hg1] at h3
            dsimp only at h3
            refine hg.sim W3 σ2 s2 s3 A2 H3 d x _ k3 (sr2.le e3.le) r3 hg1 fun σ4 sr4 _ => ?_
            refine hb.sim W3 σ4 s3 A2 H3 _ k3 sr4 ?_
            cases hb1 : mb s3 A2 with
            | nx s4 A4 =>
              rw [hb1] at h3
              exact fun W5 σ5 H5 e5 k5 sr5 => ⟨W5, s4, A4, (e2.trans e3).trans e5, k5, sr5, PostS.ext e5 h3⟩
            | ct s4 A4 =>
              rw [hb1] at h3
              exact fun W5 σ5 H5 e5 k5 sr5 => ⟨W5, s4, A4, (e2.trans e3).trans e5, k5, sr5, PostS.ext e5 h3⟩
            | bk s4 A4 =>
              rw [hb1] at h3
              exact h3
            | rt d4 A4 =>
              rw [hb1] at h3
              exact h3
            | exc x4 s4 A4 =>
              rw [hb1] at h3
              exact h3
            | bad =>
              rw [hb1] at h3
              exact h3.elim)⟩

/-! ### while -/
def whG (c : MT) (b : MS) : Nat → Sl → AH → RS
  | 0, _, _ => .bad
  | f + 1, s, A => (c s A).thenS s fun k A1 => if k then match b s A1 with
      | .nx s2 A2 => whG c b f s2 A2
      | .ct s2 A2 => whG c b f s2 A2
      | .bk s2 A2 => .nx s2 A2
      | r => r
    else .nx s A1
theorem swh (N : Nat) (hp : PassesOwn (model X.prog X.w) X.A X.env X.xe) (hc : ST X Wx c tc mc') (hb : SSs X Wx body tb mb) : SS X Wx (.While c body [] pos) (tWhile tc tb) (whG mc' mb N) :=
  ⟨ps_while hp hc.pt hb.ps, fun W σ s A H De k sr z => by
    refine ⟨fun m σ2 H2 => ∃ W2 s2 A2, Ok X.K X.mg W2 A2 H2 ∧ SlR X.K W2 s2 σ2 ∧ PostS X.K X.mg W2 H2 De Wx (whG mc' mb m s2 A2), ⟨N, W, s, A, k, sr, z⟩, ?_⟩
    rintro m σ2 H2 ⟨W2, s2, A2, k2, sr2, h2⟩
    cases m with
    | zero => exact h2.elim
    | succ m =>
      unfold whG at h2
      refine hc.sim W2 σ2 s2 A2 H2 _ k2 sr2 (PostS.bind (rel := relB) sr2 h2 fun b A3 b' W3 H3 e3 k3 r3 h3 => ?_)
      cases r3
      have sr3 := sr2.le e3.le
      cases b with
      | false => exact h3.nx_at k3 sr3
      | true =>
        rw [if_pos rfl] at h3 ⊢
        refine ⟨fun σ4 H4 => ∃ W4 s4 A4, Ok X.K X.mg W4 A4 H4 ∧ SlR X.K W4 s4 σ4 ∧ PostS X.K X.mg W4 H4 De Wx (whG mc' mb m s4 A4), fun σ4 H4 q => ⟨m, Nat.lt_succ_self m, q⟩, ?_⟩
        refine hb.sim W3 σ2 s2 A3 H3 _ k3 sr3 ?_
        cases hb1 : mb s2 A3 with
        | nx s4 A4 =>
          rw [hb1] at h3
          exact fun W5 σ5 H5 e5 k5 sr5 => ⟨W5, s4, A4, k5, sr5, PostS.ext e5 h3⟩
        | ct s4 A4 =>
          rw [hb1] at h3
          exact fun W5 σ5 H5 e5 k5 sr5 => ⟨W5, s4, A4, k5, sr5, PostS.ext e5 h3⟩
        | bk s4 A4 =>
          rw [hb1] at h3
          exact h3
        | rt d4 A4 =>
          rw [hb1] at h3
          exact h3
        | exc x4 s4 A4 =>
          rw [hb1] at h3
          exact h3
        | bad =>
          rw [hb1] at h3
          exact h3.elim⟩
end

/-! ### comprehensions -/
/-- nothing raised -/
def R.bindN {α β : Type} (r : R α) (f : α → AH → R β) : R β := match r with
  | .ok a A => f a A
  | _ => .bad
@[simp] theorem R.bindN_ok {α β : Type} (a : α) (A : AH) (f : α → AH → R β) : (R.ok a A).bindN f = f a A := rfl
@[simp] theorem R.bindN_bad {α β : Type} (f : α → AH → R β) : (R.bad : R α).bindN f = .bad := rfl
def lcG (g : MG) (tt : MT) (te : ME) (it : IT) (s : Sl) : Nat → Nat → AH → R (List D)
  | 0, _, _ => .bad
  | f + 1, i, A => match itNext it i A with
    | none => .bad
    | some none => .ok [] A
    | some (some d) => match g d s with
      | none => .bad
      | some s1 => (tt s1 A).bindN fun k A1 => if k then (te s1 A1).bindN fun y A2 => (lcG g tt te it s f (i + 1) A2).bind fun ys A3 => .ok (y :: ys) A3
        else lcG g tt te it s f (i + 1) A1
def lcL (g : MG) (tt : MT) (te : ME) (s : Sl) : List D → AH → R (List D)
  | [], A => .ok [] A
  | d :: ds, A => match g d s with
    | none => .bad
    | some s1 => (tt s1 A).bindN fun k A1 => if k then (te s1 A1).bindN fun y A2 => (lcL g tt te s ds A2).bind fun ys A3 => .ok (y :: ys) A3
      else lcL g tt te s ds A1
def finF (ds : List D) (A : AH) : R D := .ok (.lst ds) A
def finN (ds : List D) (A : AH) : R D := .ok (.ref A.length) (A ++ [.lst ds])
def mLc (mi : Sl → AH → R IT) (g : MG) (tt : MT) (te : ME) (vs : List Nat) (fin : List D → AH → R D) : ME := fun s A => (mi s A).bind fun it A1 => if itLen it A1 < 16777216 then (lcG g tt te it (wpD s vs) (itLen it A1 + 1) 0 A1).bind fin else .bad
theorem lcG_data (g : MG) (tt : MT) (te : ME) (ds : List D) (s : Sl) : ∀ (f i : Nat) (A : AH), i + f = ds.length + 1 → lcG g tt te (.data ds) s f i A = if f = 0 then .bad else lcL g tt te s (ds.drop i) A
  | 0, i, A, h => rfl
  | f + 1, i, A, h => by
    rw [if_neg (Nat.succ_ne_zero f)]
    show (match some ds[i]? with
      | none => R.bad
      | some none => .ok [] A
      | some (some d) => _) = _
    cases hd : ds[i]? with
    | none =>
      rw [List.drop_eq_nil_of_le (List.getElem?_eq_none_iff.mp hd)]
      rfl
    | some d =>
      have hi := (List.getElem?_eq_some_iff.mp hd).1
      rw [List.drop_eq_getElem_cons hi, (List.getElem?_eq_some_iff.mp hd).2]
      have hf : f ≠ 0 := by omega
      show (match g d s with
        | none => R.bad
        | some s1 => _) = (match g d s with
        | none => R.bad
        | some s1 => _)
      cases g d s with
      | none => rfl
      | some s1 =>
        dsimp only
        cases tt s1 A with
        | ok k A1 =>
          simp only [R.bindN_ok]
          cases k with
          | true =>
            simp only [if_true]
            cases te s1 A1 with
            | ok y A2 =>
              simp only [R.bindN_ok]
              rw [lcG_data g tt te ds s f (i + 1) A2 (by omega), if_neg hf]
            | _ => rfl
          | false =>
            simp only [Bool.false_eq_true, if_false]
            rw [lcG_data g tt te ds s f (i + 1) A1 (by omega), if_neg hf]
        | _ => rfl
theorem mLc_data {mi : Sl → AH → R IT} {g : MG} {tt : MT} {te : ME} {vs : List Nat} {fin : List D → AH → R D} {s : Sl} {A A1 : AH} {ds : List D} (h : mi s A = .ok (.data ds) A1) (hl : ds.length < 16777216) : mLc mi g tt te vs fin s A = (lcL g tt te (wpD s vs) ds A1).bind fin := by
  unfold mLc
  rw [h]
  show (if ds.length < 16777216 then (lcG g tt te (.data ds) (wpD s vs) (ds.length + 1) 0 A1).bind fin else .bad) = _
  rw [if_pos hl, lcG_data g tt te ds _ _ _ _ (Nat.zero_add _), if_neg (Nat.succ_ne_zero _), List.drop_zero]
theorem wipe_none (σ : L2.St) {u : Nat} : ∀ {vs : List Nat}, u ∈ vs → (wipe σ vs).set u none = wipe σ vs
  | v :: vs, h => by
    show ((wipe σ vs).set v none).set u none = (wipe σ vs).set v none
    by_cases q : u = v
    · rw [q, List.set_set]
    · rcases List.mem_cons.mp h with z | z
      · exact absurd z q
      · rw [List.set_comm _ _ (Ne.symm q), wipe_none σ z]
theorem wipe_twice (σ : L2.St) {vs : List Nat} : ∀ {us : List Nat}, (∀ i ∈ us, i ∈ vs) → wipe (wipe σ vs) us = wipe σ vs
  | [], _ => rfl
  | u :: us, h => by
    show (wipe (wipe σ vs) us).set u none = wipe σ vs
    rw [wipe_twice σ fun i hi => h i (List.mem_cons_of_mem _ hi), wipe_none σ (h u (List.mem_cons_self ..))]
theorem upd_self {H : Hp} {p : Addr} {o : HO} (h : H p = some o) : upd (delH H p) p o = H := by
  funext b
  by_cases q : b = p
  · rw [q, upd_same, h]
  · rw [upd_ne q, delH_ne q]
theorem delH_upd {H : Hp} {p : Addr} {o : HO} : delH (upd H p o) p = delH H p := by
  funext b
  by_cases q : b = p
  · rw [q, delH_same, delH_same]
  · rw [delH_ne q, delH_ne q, upd_ne q]
/-- how the new list is told -/
def FinOk (K : PySem.W.Frag) (mg : Str → Option Value) (fin : List D → AH → R D) : Prop :=
  ∀ (W : Wd) (H : Hp) (W1 : Wd) (H1 : Hp) (A1 : AH) (p : Addr) (E : XK) (Q : VK) (ds : List D) (xs : List V), Ext W H W1 (delH H1 p) → Ok K mg W1 A1 (delH H1 p) → H1 p = some (.lst xs) → Reps K W1 ds xs → Post K mg (Rep K) W H E Q (fin ds A1) → Q (.ref p) H1
theorem fin_f {K : PySem.W.Frag} {mg : Str → Option Value} : FinOk K mg finF := fun W H W1 H1 A1 p E Q ds xs e k hp r h => by
  obtain ⟨k3, e3⟩ := k.frozen delH_same (.lst xs)
  rw [upd_self hp] at k3 e3
  refine h _ _ _ (e.trans e3) k3 ⟨p, xs, rfl, upd_same, r.le e3.le⟩
theorem fin_n {K : PySem.W.Frag} {mg : Str → Option Value} : FinOk K mg finN := fun W H W1 H1 A1 p E Q ds xs e k hp r h => by
  have l : Le W1 ⟨W1.F, W1.m ++ [p]⟩ := ⟨fun _ _ e => e, [p], rfl⟩
  obtain ⟨k3, e3⟩ := k.fresh delH_same (obl (r.le l))
  rw [upd_self hp] at k3 e3
  refine h _ _ _ (e.trans e3) k3 ⟨p, rfl, ?_⟩
  rw [← k.len]
  exact List.getElem?_concat_length
section
variable {X : Cx} {Wx : WX} {tg iter elt : Expr} {ifs : List Expr} {scope : Scope} {own : List (Str × Nat)} {wi : TI} {mi : Sl → AH → R IT} {g : TG} {mgt : MG} {is : List Nat} {tt : TT} {mt : MT} {te : TE} {me : ME} {pos spos : Pos} {fin : List D → AH → R D}
structure STs (X : Cx) (Wx : WX) (ifs : List Expr) (t : TT) (m : MT) : Prop where
  pts : PTs X ifs t
  sim : SimT X.K X.mg Wx t m
def mYes : MT := fun _ A => .ok true A
theorem stsnil : STs X Wx [] tYes mYes := ⟨pts_nil, fun W σ s A H Q k sr h => h.ok_at k rfl⟩
theorem stsone {c : Expr} (h : ST X Wx c tt mt) : STs X Wx [c] tt mt := ⟨pts_one h.pt, h.sim⟩
theorem sim_lc {K : PySem.W.Frag} {mg : Str → Option Value} {vs : List Nat} (hf : FinOk K mg fin) (hi : SimI K mg Wx wi mi)
    (hg : ∀ (W : Wd) (σ : L2.St) (s s1 : Sl) (A : AH) (H : Hp) (d : D) (x : V) (Q : L2.St → Hp → Prop), Ok K mg W A H → SlR K W s σ → Rep K W d x → mgt d s = some s1 → (∀ σ', SlR K W s1 σ' → (∀ vs, (∀ i ∈ is, i ∈ vs) → wipe σ' vs = wipe σ vs) → Q σ' H) → g x σ H Q)
    (hw : ∀ i ∈ is, i ∈ vs) (ht : SimT K mg WxF tt mt) (he : SimE K mg WxF te me) : SimE K mg Wx (tLc wi g tt te vs) (mLc mi mgt mt me vs fin) := fun W σ s A H Q k sr z => by
  refine hi W σ s A H _ k sr (z.bind fun it A1 J W1 H1 e1 k1 j1 h1 => ?_)
  intro Da hDa
  by_cases hl : itLen it A1 < 16777216
  · rw [if_pos hl] at h1
    have wsr := (sr.le e1.le).wipe vs
    refine ⟨fun i m H2 => ∃ W2 A2 acc accV, Ext W1 H1 W2 (delH H2 Da) ∧ Ok K mg W2 A2 (delH H2 Da) ∧ H2 Da = some (.lst accV) ∧ Reps K W2 acc accV ∧ acc.length ≤ i ∧ i + m = itLen it A1 + 1 ∧
      Post K mg (Rep K) W1 H1 (fun c d H' => Wx c d σ H') Q ((lcG mgt mt me it (wpD s vs) m i A2).bind fun ys A3 => fin (acc ++ ys) A3), ⟨itLen it A1 + 1, W1, A1, [], [], ?_, ?_, upd_same, rfl, Nat.le_refl _, Nat.zero_add _, h1⟩, ?_⟩
    · rw [delH_upd]
      have : delH H1 Da = H1 := by
        funext b
        by_cases q : b = Da
        · rw [q, delH_same, hDa]
        · rw [delH_ne q]
      rw [this]
      exact Ext.refl _ _
    · rw [delH_upd]
      have : delH H1 Da = H1 := by
        funext b
        by_cases q : b = Da
        · rw [q, delH_same, hDa]
        · rw [delH_ne q]
      rw [this]
      exact k1
    · rintro i m H2 ⟨W2, A2, acc, accV, e2, k2, hD2, r2, hal, him, h2⟩
      cases m with
      | zero => exact h2.elim
      | succ m =>
        obtain ⟨k2', e2'⟩ := k2.aside delH_same (.lst accV)
        rw [upd_self hD2] at k2' e2'
        have jj := j1 W2 A2 H2 i (e2.trans e2').le k2'
        unfold lcG at h2
        cases hn : itNext it i A2 with
        | none =>
          rw [hn] at h2
          exact h2.elim
        | some o =>
          rw [hn] at h2 jj
          cases o with
          | none =>
            refine .inl ⟨jj, ?_⟩
            have h2' : Post K mg (Rep K) W1 H1 (fun c d H' => Wx c d σ H') Q (fin (acc ++ []) A2) := h2
            rw [List.append_nil] at h2'
            exact hf W1 H1 W2 H2 A2 Da _ Q acc accV e2 k2 hD2 r2 h2'
          | some d =>
            refine .inr ⟨jj.1, fun H3 => ∃ W3 A3 acc accV, Ext W1 H1 W3 (delH H3 Da) ∧ Ok K mg W3 A3 (delH H3 Da) ∧ H3 Da = some (.lst accV) ∧ Reps K W3 acc accV ∧ acc.length ≤ i + 1 ∧ (i + 1) + m = itLen it A1 + 1 ∧
              Post K mg (Rep K) W1 H1 (fun c d H' => Wx c d σ H') Q ((lcG mgt mt me it (wpD s vs) m (i + 1) A3).bind fun ys A4 => fin (acc ++ ys) A4), fun H3 q => ⟨m, Nat.lt_succ_self m, q⟩, fun x H3 y => ?_⟩
            obtain ⟨W3, e3, k3, r3⟩ := jj.2 x H3 y
            dsimp only at h2
            cases hg1 : mgt d (wpD s vs) with
            | none =>
              rw [hg1] at h2
              exact h2.elim
            | some s3 =>
              rw [hg1] at h2
              dsimp only at h2
              refine hg W3 (wipe σ vs) (wpD s vs) s3 A2 H3 d x _ k3 (((wsr.le e2.le).le e2'.le).le e3.le) r3 hg1 fun σ4 sr4 w4 => ⟨(w4 vs hw).trans (wipe_twice σ fun _ h => h), ?_⟩
              cases hT : mt s3 A2 with
              | ok b A4 =>
                rw [hT] at h2
                simp only [R.bindN_ok] at h2
                refine ht W3 σ4 s3 A2 H3 _ k3 sr4 ?_
                rw [hT]
                intro W4 H4 b' e4 k4 rb
                cases rb
                cases b with
                | true =>
                  simp only [if_true] at h2 ⊢
                  cases hE : me s3 A4 with
                  | ok yd A5 =>
                    rw [hE] at h2
                    simp only [R.bindN_ok] at h2
                    refine he W4 σ4 s3 A4 H4 _ k4 (sr4.le e4.le) ?_
                    rw [hE]
                    intro W5 H5 yv e5 k5 ry
                    obtain ⟨q1, q2, q3, q4, q5⟩ := Ok.undo delH_same k2 (u := .lst accV) (by rw [upd_self hD2]; exact (e3.trans e4).trans e5) k5
                    refine ⟨accV, q5, ?_, W5, A5, acc ++ [yd], accV ++ [yv], ?_, ?_, upd_same, (r2.le (((e2'.trans e3).trans e4).trans e5).le).append (Reps.one ry), ?_, by omega, ?_⟩
                    · rw [sizeLine_eq, r2.length]
                      omega
                    · rw [delH_upd]
                      exact e2.trans q4
                    · rw [delH_upd]
                      exact q3
                    · rw [List.length_append]
                      simp
                      omega
                    · have e6 : ((lcG mgt mt me it (wpD s vs) m (i + 1) A5).bind fun ys A3 => R.ok (yd :: ys) A3).bind (fun ys A3 => fin (acc ++ ys) A3) = (lcG mgt mt me it (wpD s vs) m (i + 1) A5).bind fun ys A4 => fin (acc ++ [yd] ++ ys) A4 := by
                        cases lcG mgt mt me it (wpD s vs) m (i + 1) A5 with
                        | ok ys A6 =>
                          simp only [R.bind_ok, List.append_assoc, List.singleton_append]
                        | exc _ _ => rfl
                        | bad => rfl
                      rw [e6] at h2
                      exact h2
                  | exc _ _ =>
                    rw [hE] at h2
                    exact h2.elim
                  | bad =>
                    rw [hE] at h2
                    exact h2.elim
                | false =>
                  simp only [Bool.false_eq_true, if_false] at h2 ⊢
                  obtain ⟨q1, q2, q3, q4, q5⟩ := Ok.undo delH_same k2 (u := .lst accV) (by rw [upd_self hD2]; exact e3.trans e4) k4
                  exact ⟨W4, A4, acc, accV, e2.trans q4, q3, q5, r2.le ((e2'.trans e3).trans e4).le, by omega, by omega, h2⟩
              | exc _ _ =>
                rw [hT] at h2
                exact h2.elim
              | bad =>
                rw [hT] at h2
                exact h2.elim
  · rw [if_neg hl] at h1
    exact h1.elim
/-- [elt for tg in iter if ..] -/
theorem slc (hf : FinOk X.K X.mg fin) (hc : X.calm = true) (hN : X.N.Nodup) (hi : SI X Wx tg iter wi mi) (ok : BlkOk X.N X.env.scope scope own)
    (hg : ∀ (s : Shared) (H : Hp) (C : Addr) (cl : List (Str × Addr)) (fp : List Addr), SG (X.blk s H scope (compEnvC scope cl C X.env) fp) tg g mgt is)
    (ht : ∀ (s : Shared) (H : Hp) (C : Addr) (cl : List (Str × Addr)) (fp : List Addr), STs (X.blk s H scope (compEnvC scope cl C X.env) fp) WxF ifs tt mt)
    (he : ∀ (s : Shared) (H : Hp) (C : Addr) (cl : List (Str × Addr)) (fp : List Addr), SE (X.blk s H scope (compEnvC scope cl C X.env) fp) WxF elt te me)
    (hw : ∀ i ∈ is, i ∈ own.map (·.2)) (hs : ∀ x, foldedSetIterable iter X.env x = pure x := by intro _; rfl) :
    SE X Wx (.ListComp elt [⟨tg, iter, ifs, 0⟩] scope pos) (tLc wi g tt te (own.map (·.2))) (mLc mi mgt mt me (own.map (·.2)) fin) :=
  ⟨pe_lc hc hN hi.pi ok (fun s H C cl fp => (hg s H C cl fp).pg) (fun s H C cl fp => (ht s H C cl fp).pts) (fun s H C cl fp => (he s H C cl fp).pe) hs,
    sim_lc hf hi.sim (hg X.s_0 X.H_0 0 [] []).sim hw (ht X.s_0 X.H_0 0 [] []).sim (he X.s_0 X.H_0 0 [] []).sim⟩
/-- name = [..] on one line -/
theorem ssetLc (i : Nat) {y : Str} {py : Pos} (hf : FinOk X.K X.mg fin) (hc : X.calm = true) (hN : X.N.Nodup) (hi : SI X Wx tg iter wi mi) (ok : BlkOk X.N X.env.scope scope own)
    (hg : ∀ (s : Shared) (H : Hp) (C : Addr) (cl : List (Str × Addr)) (fp : List Addr), SG (X.blk s H scope (compEnvC scope cl C X.env) fp) tg g mgt is)
    (ht : ∀ (s : Shared) (H : Hp) (C : Addr) (cl : List (Str × Addr)) (fp : List Addr), STs (X.blk s H scope (compEnvC scope cl C X.env) fp) WxF ifs tt mt)
    (he : ∀ (s : Shared) (H : Hp) (C : Addr) (cl : List (Str × Addr)) (fp : List Addr), SE (X.blk s H scope (compEnvC scope cl C X.env) fp) WxF elt te me)
    (hw : ∀ i ∈ is, i ∈ own.map (·.2)) (hy : X.N[i]? = some y := by rfl) (hyl : X.env.scope.names.lookup y = some .local := by rfl)
    (hsw : swapsWith (.ListComp elt [⟨tg, iter, ifs, 0⟩] scope pos) (some (.Name y py)) spos.line X.env = pure true := by exact sw_true rfl rfl rfl (by decide +kernel)) (hs : ∀ x, foldedSetIterable iter X.env x = pure x := by intro _; rfl) :
    SS X Wx (.Assign [.Name y py] (.ListComp elt [⟨tg, iter, ifs, 0⟩] scope pos) spos) (tAsg (tLc wi g tt te (own.map (·.2))) (gName i)) (mAsg (mLc mi mgt mt me (own.map (·.2)) fin) (gmN i)) :=
  ⟨ps_setLc hc hN hy hyl hsw hi.pi ok (fun s H C cl fp => (hg s H C cl fp).pg) (fun s H C cl fp => (ht s H C cl fp).pts) (fun s H C cl fp => (he s H C cl fp).pe) hs,
    sim_asg (sim_lc hf hi.sim (hg X.s_0 X.H_0 0 [] []).sim hw (ht X.s_0 X.H_0 0 [] []).sim (he X.s_0 X.H_0 0 [] []).sim) fun W σ s s1 A H d x Q k sr r eq hq => by
      cases eq
      exact hq _ (sr.set i r)⟩
end
end Tg

set_option Elab.async false
set_option linter.all false
set_option maxRecDepth 100000
set_option maxHeartbeats 2000000
/-! TgFn: defs as plain functions; constants and written tables of the module. -/
namespace Tg
open PySem PySem.Spec PyProof.Rows L2

def startD (n : Nat) (ds : List D) : Sl := ds.map some ++ List.replicate (n - ds.length) none
def finS : RS → R D
  | .nx _ A => .ok .non A
  | .rt d A => .ok d A
  | .exc x _ A => .exc x A
  | _ => .bad
/-- a def of n parameters and m names whose body does as b -/
def mFun (n m : Nat) (b : MS) : List D → AH → R D := fun ds A => if ds.length = n then finS (b (startD m ds) A) else .bad
def mBad : List D → AH → R D := fun _ _ => .bad
section
variable {P : Program} {w : World} {K : PySem.W.Frag} {mg : Str → Option Value} {base : Heap} {x qual c : Str} {st : Stmt} {N ps : List Str} {k : Nat} {m : MS}
abbrev CxT (P : Program) (w : World) (K : PySem.W.Frag) (mg : Str → Option Value) (base : Heap) (N : List Str) (qual : Str) (st : Stmt) (f : Addr) (cd : Value) (A : Around) (outer : List Env) (s : Shared) (H : Hp) (E : XK) : Cx :=
  cxOf (L2.CX P w) P w K mg base N qual (defScope st) f cd A outer s H E
theorem tkF {f : Addr} {cd : Value} {A : Around} {outer : List Env} {s : Shared} {H : Hp} {E : XK} : Takes (CxT P w K mg base N qual st f cd A outer s H E) (fun c d _ H => E c d H) := takes_of rfl rfl rfl rfl
theorem psF {f : Addr} {cd : Value} {A : Around} {outer : List Env} {s : Shared} {H : Hp} {E : XK} : PassesOwn (model (CxT P w K mg base N qual st f cd A outer s H E).prog (CxT P w K mg base N qual st f cd A outer s H E).w) (CxT P w K mg base N qual st f cd A outer s H E).A (CxT P w K mg base N qual st f cd A outer s H E).env (CxT P w K mg base N qual st f cd A outer s H E).xe := passes_of rfl
/-- the body's term -/
def Body (P : Program) (w : World) (K : PySem.W.Frag) (mg : Str → Option Value) (base : Heap) (N : List Str) (qual : Str) (st : Stmt) (k : Nat) (m : MS) : Prop :=
  ∀ (f : Addr) (cd : Value) (A : Around) (outer : List Env) (s : Shared) (H : Hp) (E : XK), Room k (CxT P w K mg base N qual st f cd A outer s H E).A →
    ∃ t, SSs (CxT P w K mg base N qual st f cd A outer s H E) (fun c d _ H => E c d H) (defBody st) t m
theorem fnok_of {f : Addr} {fd : FuncData} (F : Fun K x qual st f fd) (S : FnScope N ps (defScope st)) (h : Body P w K mg base N qual st k m) : FnOk P w K mg base (L2.CX P w) (k + 1) f fd ps (spM K mg (mFun ps.length N.length m)) := by
  have hl : ∀ vs H Q E, spM K mg (mFun ps.length N.length m) vs H Q E → vs.length = ps.length := fun vs H Q E ⟨W, ds, A, k, r, z⟩ => by
    unfold mFun at z
    split at z
    · rename_i e
      rw [r.length, e]
    · exact z.elim
  refine F.okX S hl fun cdv A outer s H vs Q E hr hsp => ?_
  have hvl := hl _ _ _ _ hsp
  obtain ⟨W, ds, A', k, r, z⟩ := hsp
  obtain ⟨t, ss⟩ := h f cdv A outer s H E hr
  refine ⟨t, ss.ps, ?_⟩
  have hd : ds.length = ps.length := by rw [← r.length, hvl]
  unfold mFun at z
  rw [if_pos hd] at z
  have sr : SlR K W (startD N.length ds) (L2.start N vs) := by
    unfold startD L2.start
    rw [r.length]
    exact SlR.of r
  refine ss.sim W _ _ A' H _ k sr ?_
  generalize m (startD N.length ds) A' = q at z
  cases q with
  | nx s1 A1 => exact fun W' σ' H' e k' _ => z W' H' .non e k' rfl
  | rt d A1 => exact fun W' v H' e k' r' => z W' H' v e k' r'
  | exc y s1 A1 => exact fun W' σ' H' c d e k' _ x' => z W' H' c d e k' x'
  | bk _ _ => exact z.elim
  | ct _ _ => exact z.elim
  | bad => exact z.elim
theorem fnok_bad {f : Addr} {fd : FuncData} : FnOk P w K mg base (L2.CX P w) k f fd ps (spM K mg mBad) :=
  ⟨fun vs H Q E ⟨W, ds, A, k, r, z⟩ => z.elim, fun A outer s H args us vs Q E _ _ _ _ ⟨W, ds, A', k, r, z⟩ => z.elim⟩

/-- what stands behind the module's top: a def, a method, a class that can be made -/
def TF (K : PySem.W.Frag) (mg : Str → Option Value) (x qual : Str) (st : Stmt) (ps : List Str) : Prop := ∃ f fd, Fun K x qual st f fd ∧ mg x = some (.ref f) ∧ Binds K fd ps []
def TM (K : PySem.W.Frag) (mg : Str → Option Value) (c x qual : Str) (st : Stmt) (ps : List Str) : Prop := ∃ f fd, Fun K x qual st f fd ∧ Meth K (clA mg c) x f ∧ Binds K fd ps [] ∧ Cls K (clA mg c)
def TI (K : PySem.W.Frag) (mg : Str → Option Value) (c qual : Str) (st : Stmt) (ps : List Str) : Prop := ∃ C f fd, Fun K "__init__" qual st f fd ∧ mg c = some (.ref C) ∧ Mk K C f ∧ Binds K fd ps []
theorem dfn_of (T : TF K mg x qual st ps) (S : FnScope N ps (defScope st)) (h : Body P w K mg base N qual st k m) : Dfn P w K mg base x (k + 1) (mFun ps.length N.length m) := by
  obtain ⟨f, fd, F, hm, hb⟩ := T
  exact ⟨f, fd, ps, fnok_of F S h, hm, F.kp, hb⟩
theorem dfn_bad (T : TF K mg x qual st ps) : Dfn P w K mg base x k mBad := by
  obtain ⟨f, fd, F, hm, hb⟩ := T
  exact ⟨f, fd, ps, fnok_bad, hm, F.kp, hb⟩
theorem mtd_of (T : TM K mg c x qual st ps) (S : FnScope N ps (defScope st)) (h : Body P w K mg base N qual st k m) : Mtd P w K mg base c x (k + 1) (mFun ps.length N.length m) := by
  obtain ⟨f, fd, F, hm, hb, cl⟩ := T
  exact ⟨f, fd, ps, fnok_of F S h, hm, hb, cl⟩
theorem mtd_bad (T : TM K mg c x qual st ps) : Mtd P w K mg base c x k mBad := by
  obtain ⟨f, fd, F, hm, hb, cl⟩ := T
  exact ⟨f, fd, ps, fnok_bad, hm, hb, cl⟩
theorem mkr_of (T : TI K mg c qual st ps) (S : FnScope N ps (defScope st)) (h : Body P w K mg base N qual st k m) : Mkr P w K mg base c (k + 1) (mFun ps.length N.length m) := by
  obtain ⟨C, f, fd, F, hm, M, hb⟩ := T
  exact ⟨C, f, fd, ps, fnok_of F S h, hm, M, hb⟩
theorem Dfn.mono {g : List D → AH → R D} {j : Nat} (d : Dfn P w K mg base x k g) (h : k ≤ j) : Dfn P w K mg base x j g := by
  obtain ⟨f, fd, ps, F, a, b, c⟩ := d
  exact ⟨f, fd, ps, F.mono h, a, b, c⟩
end

/-! ### constants of the module -/
def GDat (K : PySem.W.Frag) (mg : Str → Option Value) (x : Str) (d : D) : Prop := ∃ u v, mg x = some u ∧ RelV v u ∧ ∀ W, Rep K W d v
noncomputable def gV {K : PySem.W.Frag} {mg : Str → Option Value} {x : Str} {d : D} (g : GDat K mg x d) : V := g.choose_spec.choose
theorem sglob {X : Cx} {Wx : WX} {x : Str} {d : D} {pos : Pos} (g : GDat X.K X.mg x d) (hg : Gl X x := by rfl) (hdb : (x == ("__debug__" : Str)) = false := by decide) : SE X Wx (.Name x pos) (tC (gV g)) (mc d) :=
  ⟨pe_glob hg g.choose_spec.choose_spec.1 g.choose_spec.choose_spec.2.1 hdb, fun W σ s A H Q k sr h => h.ok_at k (g.choose_spec.choose_spec.2.2 W)⟩
section
variable {K : PySem.W.Frag} {mg : Str → Option Value} {x : Str}
theorem gint {i : Int} {t : Tok} (h : mg x = some (.int i t)) : GDat K mg x (.int i) := ⟨_, .int i, h, ⟨t, rfl⟩, fun _ => rfl⟩
theorem gstr {i : Str} {t : Tok} (h : mg x = some (.str i t)) : GDat K mg x (.str i) := ⟨_, .str i, h, ⟨t, rfl⟩, fun _ => rfl⟩
/-- numbers and texts, as they are written -/
def fltOk : List D → List Value → Bool
  | [], [] => true
  | .int i :: ds, .int j _ :: us => decide (i = j) && fltOk ds us
  | .str i :: ds, .str j _ :: us => decide (i = j) && fltOk ds us
  | _, _ => false
theorem flt_at {W : Wd} : ∀ {ds : List D} {us : List Value}, fltOk ds us = true → ∃ vs, Reps K W ds vs ∧ Vals vs us
  | [], [], _ => ⟨[], rfl, .nil⟩
  | [], _ :: _, h => by cases h
  | .int i :: ds, [], h => by cases h
  | .int i :: ds, u :: us, h => by
    cases u with
    | int j t =>
      simp only [fltOk, Bool.and_eq_true, decide_eq_true_eq] at h
      obtain ⟨vs, r, v⟩ := flt_at h.2
      exact ⟨.int i :: vs, Reps.cons rfl r, .cons ⟨t, by rw [h.1]⟩ v⟩
    | _ => cases h
  | .str i :: ds, [], h => by cases h
  | .str i :: ds, u :: us, h => by
    cases u with
    | str j t =>
      simp only [fltOk, Bool.and_eq_true, decide_eq_true_eq] at h
      obtain ⟨vs, r, v⟩ := flt_at h.2
      exact ⟨.str i :: vs, Reps.cons rfl r, .cons ⟨t, by rw [h.1]⟩ v⟩
    | _ => cases h
  | .non :: ds, us, h => by cases us <;> cases h
  | .bl _ :: ds, us, h => by cases us <;> cases h
  | .tup _ :: ds, us, h => by cases us <;> cases h
  | .lst _ :: ds, us, h => by cases us <;> cases h
  | .dct _ _ :: ds, us, h => by cases us <;> cases h
  | .ref _ :: ds, us, h => by cases us <;> cases h
  | .scr _ :: ds, us, h => by cases us <;> cases h
/-- where a tuple of numbers and texts stands -/
def tupAt (K : PySem.W.Frag) (a : Addr) (ds : List D) : Bool := match K.lookup a with
  | some ⟨.type c, _, .seq its _, _⟩ => decide (c = "tuple") && (decide (its.size ≤ 1000) && fltOk ds its.toList)
  | _ => false
theorem gtupc {a : Addr} {ds : List D} (h : mg x = some (.ref a)) (h1 : tupAt K a ds = true) : GDat K mg x (.tup ds) := by
  unfold tupAt at h1
  split at h1
  · rename_i c od its n sl e
    simp only [Bool.and_eq_true, decide_eq_true_eq] at h1
    obtain ⟨rfl, h2, h3⟩ := h1
    refine ⟨_, .ref a, h, rfl, fun W => ?_⟩
    obtain ⟨vs, r, v⟩ := flt_at (K := K) (W := W) h3
    exact ⟨a, vs, rfl, .inr ⟨_, its, n, e, rfl, rfl, Nat.le_trans h2 (by decide), v⟩, r⟩
  · cases h1

/-- a written table of texts -/
structure KTab (K : PySem.W.Frag) (w : World) (d : Addr) (kvs : List (Str × Str)) : Prop where
  kd : ∃ es n, KDict K w d es n
  yes : ∀ z v, kvs.lookup z = some v → ∃ t, PySem.W.nsIn K d z = some (some (.str v t))
  no : ∀ z, kvs.lookup z = none → PySem.W.nsIn K d z = some none
def GTab (K : PySem.W.Frag) (w : World) (mg : Str → Option Value) (x : Str) (kvs : List (Str × Str)) : Prop := ∃ d, mg x = some (.ref d) ∧ KTab K w d kvs
def entOf (e : DictEntry) : Option (Str × Str) := match e.key, e.val with
  | .str x _, .str y _ => some (x, y)
  | _, _ => none
def dicT (K : PySem.W.Frag) (a : Addr) : List (Option (Str × Str)) := match K.lookup a with
  | some ⟨_, _, .dict es _, _⟩ => es.toList.map entOf
  | _ => []
theorem ents_at : ∀ {l : List DictEntry} {kvs : List (Str × Str)}, l.map entOf = kvs.map some → ∀ z, (match l.find? (·.key.isStr z) with
      | some e => some (some e.val)
      | none => if l.any (·.refKey) then none else some none) = (match kvs.lookup z with
      | some v => some (some ((l.find? (·.key.isStr z)).elim (.str v default) (·.val)))
      | none => some none) ∧ ∀ v, kvs.lookup z = some v → ∃ e t, l.find? (·.key.isStr z) = some e ∧ e.val = .str v t
  | [], [], _, z => ⟨rfl, fun v h => by cases h⟩
  | [], _ :: _, h, _ => by cases h
  | _ :: _, [], h, _ => by cases h
  | e :: l, (k, v) :: kvs, h, z => by
    simp only [List.map_cons, List.cons.injEq] at h
    obtain ⟨h1, h2⟩ := h
    obtain ⟨i1, i2⟩ := ents_at h2 z
    unfold entOf at h1
    split at h1
    · rename_i kx kt vx vt ek ev
      cases h1
      have hs : e.key.isStr z = (k == z) := by rw [ek]; rfl
      have hr : e.refKey = false := by
        unfold DictEntry.refKey
        rw [ek]
      simp only [List.find?, List.lookup, hs]
      cases q : k == z with
      | true =>
        have q' : (z == k) = true := by
          rw [beq_iff_eq] at q ⊢
          exact q.symm
        rw [q']
        exact ⟨rfl, fun v' h' => by cases h'; exact ⟨e, vt, rfl, ev⟩⟩
      | false =>
        have q' : (z == k) = false := by
          cases q2 : z == k with
          | false => rfl
          | true =>
            rw [beq_iff_eq] at q2
            rw [q2, beq_self_eq_true] at q
            cases q
        rw [q']
        refine ⟨?_, i2⟩
        rw [List.any_cons, hr, Bool.false_or]
        exact i1
    · cases h1
theorem ktab_of {w : World} {a : Addr} {ks : List Str} {kvs : List (Str × Str)} (h : He.dicW K a = some (He.keysIn w.params ks)) (h2 : dicT K a = kvs.map some) : KTab K w a kvs := by
  have kd := He.dicW_ok h
  obtain ⟨es, n, D⟩ := id kd
  unfold dicT at h2
  rw [D.at_] at h2
  have e0 : ∀ z, PySem.W.nsIn K a z = (match es.toList.find? (·.key.isStr z) with
      | some e => some (some e.val)
      | none => if es.toList.any (·.refKey) then none else some none) := fun z => by
    unfold PySem.W.nsIn
    rw [D.at_]
    rfl
  refine ⟨kd, fun z v e => ?_, fun z e => ?_⟩
  · obtain ⟨e', t, e1, e2⟩ := (ents_at h2 z).2 v e
    refine ⟨t, ?_⟩
    rw [e0, e1, ← e2]
  · rw [e0, (ents_at h2 z).1, e]
theorem gtab_of {w : World} {a : Addr} {ks : List Str} {kvs : List (Str × Str)} (hm : mg x = some (.ref a)) (h : He.dicW K a = some (He.keysIn w.params ks)) (h2 : dicT K a = kvs.map some) : GTab K w mg x kvs := ⟨a, hm, ktab_of h h2⟩
end
def kinD (kvs : List (Str × Str)) : D → AH → R D
  | .str z, A => .ok (.bl (kvs.lookup z).isSome) A
  | _, _ => .bad
def kninD (kvs : List (Str × Str)) : D → AH → R D
  | .str z, A => .ok (.bl (!(kvs.lookup z).isSome)) A
  | _, _ => .bad
def kixD (kvs : List (Str × Str)) : D → AH → R D
  | .str z, A => match kvs.lookup z with
    | some v => .ok (.str v) A
    | none => .bad
  | _, _ => .bad
section
variable {X : Cx} {Wx : WX} {a : Expr} {ta : TE} {ma : ME} {x : Str} {kvs : List (Str × Str)} {p pos : Pos}
def rKin (K : PySem.W.Frag) (w : World) (neg : Bool) : R2 := fun x y H Q => ∃ (d : Addr) (es : Array DictEntry) (n : Nat) (z : Str) (r : Option Value), KDict K w d es n ∧ x = .str z ∧ y = .ref d ∧ PySem.W.nsIn K d z = some r ∧ Q (.bl (if neg then !r.isSome else r.isSome)) H
theorem op_kin : OpR X (compareOp .In) (rKin X.K X.w false) := fun pins s σ H x y v u Q I rx ry ⟨d, es, n, z, r, D, h⟩ => op_in_kd D pins s σ H x y v u Q I rx ry ⟨z, r, h⟩
theorem op_knin : OpR X (compareOp .NotIn) (rKin X.K X.w true) := fun pins s σ H x y v u Q I rx ry ⟨d, es, n, z, r, D, h⟩ => op_notIn_kd D pins s σ H x y v u Q I rx ry ⟨z, r, h⟩
theorem sim_kin {neg : Bool} (T : GTab X.K X.w X.mg x kvs) (ha : SimE X.K X.mg Wx ta ma) : SimE X.K X.mg Wx (tOp (rKin X.K X.w neg) ta (tC (.ref (clA X.mg x)))) (mUn (if neg then kninD kvs else kinD kvs) ma) := by
  obtain ⟨d, hm, T⟩ := T
  obtain ⟨es, n, D⟩ := T.kd
  rw [clA_of hm]
  refine fun W σ s A H Q k sr h => ha W σ s A H _ k sr (h.bind fun x A1 v W1 H1 e1 k1 r1 h1 => ?_)
  cases x with
  | str z =>
    obtain rfl : v = V.str z := r1
    cases q : kvs.lookup z with
    | none =>
      refine ⟨d, es, n, z, none, D, rfl, rfl, T.no z q, ?_⟩
      cases neg with
      | true => exact h1.ok_at k1 (by rw [q]; rfl)
      | false => exact h1.ok_at k1 (by rw [q]; rfl)
    | some v =>
      obtain ⟨t, e⟩ := T.yes z v q
      refine ⟨d, es, n, z, _, D, rfl, rfl, e, ?_⟩
      cases neg with
      | true => exact h1.ok_at k1 (by rw [q]; rfl)
      | false => exact h1.ok_at k1 (by rw [q]; rfl)
  | _ => cases neg <;> exact h1.elim
theorem pe_tab (T : GTab X.K X.w X.mg x kvs) (hg : Gl X x := by rfl) (hdb : (x == ("__debug__" : Str)) = false := by decide) : PE X (.Name x p) (tC (.ref (clA X.mg x))) := by
  obtain ⟨d, hm, T⟩ := T
  rw [clA_of hm]
  exact pe_glob hg hm rfl hdb
theorem skin (T : GTab X.K X.w X.mg x kvs) (ha : SE X Wx a ta ma) (hg : Gl X x := by rfl) (hdb : (x == ("__debug__" : Str)) = false := by decide) (hm : behindInMarks .In (.Name x p) = false := by rfl) :
    SE X Wx (.Compare a [.In] [.Name x p] pos) (tOp (rKin X.K X.w false) ta (tC (.ref (clA X.mg x)))) (mUn (kinD kvs) ma) := ⟨pe_cmpR op_kin ha.pe (pe_tab T hg hdb) hm, sim_kin (neg := false) T ha.sim⟩
theorem sknin (T : GTab X.K X.w X.mg x kvs) (ha : SE X Wx a ta ma) (hg : Gl X x := by rfl) (hdb : (x == ("__debug__" : Str)) = false := by decide) (hm : behindInMarks .NotIn (.Name x p) = false := by rfl) :
    SE X Wx (.Compare a [.NotIn] [.Name x p] pos) (tOp (rKin X.K X.w true) ta (tC (.ref (clA X.mg x)))) (mUn (kninD kvs) ma) := ⟨pe_cmpR op_knin ha.pe (pe_tab T hg hdb) hm, sim_kin (neg := true) T ha.sim⟩
theorem tkin (T : GTab X.K X.w X.mg x kvs) (ha : SE X Wx a ta ma) (hg : Gl X x := by rfl) (hdb : (x == ("__debug__" : Str)) = false := by decide) (hm : behindInMarks .In (.Name x p) = false := by rfl) :
    ST X Wx (.Compare a [.In] [.Name x p] pos) (tTest (tOp (rKin X.K X.w false) ta (tC (.ref (clA X.mg x))))) (mTb (mUn (kinD kvs) ma)) := ⟨pt_cmpR op_kin ha.pe (pe_tab T hg hdb) hm, sim_test (sim_kin (neg := false) T ha.sim)⟩
theorem tknin (T : GTab X.K X.w X.mg x kvs) (ha : SE X Wx a ta ma) (hg : Gl X x := by rfl) (hdb : (x == ("__debug__" : Str)) = false := by decide) (hm : behindInMarks .NotIn (.Name x p) = false := by rfl) :
    ST X Wx (.Compare a [.NotIn] [.Name x p] pos) (tTest (tOp (rKin X.K X.w true) ta (tC (.ref (clA X.mg x))))) (mTb (mUn (kninD kvs) ma)) := ⟨pt_cmpR op_knin ha.pe (pe_tab T hg hdb) hm, sim_test (sim_kin (neg := true) T ha.sim)⟩
theorem skix (T : GTab X.K X.w X.mg x kvs) (ha : SE X Wx a ta ma) (hg : Gl X x := by rfl) (hdb : (x == ("__debug__" : Str)) = false := by decide) (hs : PlainIx a := by intro _ _; rfl) :
    SE X Wx (.Subscript (.Name x p) a pos) (tOp (rIxD X.K X.w) (tC (.ref (clA X.mg x))) ta) (mUn (kixD kvs) ma) := ⟨pe_ix ix_kdict (pe_tab T hg hdb) ha.pe hs, by
  obtain ⟨d, hm, T⟩ := T
  obtain ⟨es, n, D⟩ := T.kd
  rw [clA_of hm]
  refine fun W σ s A H Q k sr h => ha.sim W σ s A H _ k sr (h.bind fun x A1 v W1 H1 e1 k1 r1 h1 => ?_)
  cases x with
  | str z =>
    obtain rfl : v = V.str z := r1
    unfold kixD at h1
    dsimp only at h1
    cases q : kvs.lookup z with
    | none =>
      rw [q] at h1
      exact h1.elim
    | some v =>
      rw [q] at h1
      obtain ⟨t, e⟩ := T.yes z v q
      exact ⟨d, z, .str v, rfl, rfl, ⟨es, n, _, D.at_, D.lit, e, ⟨t, rfl⟩⟩, h1.ok_at k1 rfl⟩
  | _ => exact h1.elim⟩
end

/-! ### within a block: terms told by the names of the def's context -/
theorem se_fix {X : Cx} {Wx : WX} {e : Expr} {t t' : TE} {m : ME} (h : SE X Wx e t m) (ht : t = t') : SE X Wx e t' m := ht ▸ h
theorem sts_fix {X : Cx} {Wx : WX} {e : List Expr} {t t' : TT} {m : MT} (h : STs X Wx e t m) (ht : t = t') : STs X Wx e t' m := ht ▸ h
theorem sg_fix {X : Cx} {e : Expr} {t t' : TG} {m : MG} {is : List Nat} (h : SG X e t m is) (ht : t = t') : SG X e t' m is := ht ▸ h

/-! ### shorter rules -/
section
variable {X : Cx} {Wx : WX} {pos : Pos}
theorem spar2 {i j : Nat} {x y : Str} {a b : Expr} {ta : TA} {ma : MA} {px py pt pt2 : Pos} {kt k2 : Nat} (hc : X.calm = true) (hN : X.N.Nodup) (h : SA X Wx [a, b] ta ma) (hi : X.N[i]? = some x := by rfl) (hj : X.N[j]? = some y := by rfl) (hij : i ≠ j := by decide)
    (hx : X.env.scope.names.lookup x = some .local := by rfl) (hy : X.env.scope.names.lookup y = some .local := by rfl)
    (hw : swappedStores [.Tuple [.Name x px, .Name y py] kt pt] (.Tuple [a, b] k2 pt2) X.env = pure (some [x, y]) := by rfl)
    (hs : swapsWithSole [.Tuple [.Name x px, .Name y py] kt pt] (.Tuple [a, b] k2 pt2) pos.line X.env = pure false := by rfl) :
    SS X Wx (.Assign [.Tuple [.Name x px, .Name y py] kt pt] (.Tuple [a, b] k2 pt2) pos) (tPar i j ta) (mPar [i, j] ma) := spar hc hN h (ps_par hc hN hi hj hij hx hy h.pa hw hs)
theorem sparT {i j l : Nat} {x y z : Str} {a b c : Expr} {ta : TA} {ma : MA} {px py pz pt pt2 : Pos} {kt k2 : Nat} (hc : X.calm = true) (hN : X.N.Nodup) (h : SA X Wx [a, b, c] ta ma) (hi : X.N[i]? = some x := by rfl) (hj : X.N[j]? = some y := by rfl) (hl : X.N[l]? = some z := by rfl)
    (hij : i ≠ j := by decide) (hil : i ≠ l := by decide) (hjl : j ≠ l := by decide) (hx : X.env.scope.names.lookup x = some .local := by rfl) (hy : X.env.scope.names.lookup y = some .local := by rfl) (hz : X.env.scope.names.lookup z = some .local := by rfl)
    (hw : swappedStores [.Tuple [.Name x px, .Name y py, .Name z pz] kt pt] (.Tuple [a, b, c] k2 pt2) X.env = pure (some [x, y, z]) := by rfl)
    (hs : swapsWithSole [.Tuple [.Name x px, .Name y py, .Name z pz] kt pt] (.Tuple [a, b, c] k2 pt2) pos.line X.env = pure false := by rfl) :
    SS X Wx (.Assign [.Tuple [.Name x px, .Name y py, .Name z pz] kt pt] (.Tuple [a, b, c] k2 pt2) pos) (tPar3 i j l ta) (mPar [i, j, l] ma) := spar3 hc hN h (ps_par3 hc hN hi hj hl hij hil hjl hx hy hz h.pa hw hs)
end
end Tg

set_option Elab.async false
set_option linter.all false
set_option maxRecDepth 100000
set_option maxHeartbeats 2000000
/-! TgMore: d.update(pairs). -/
namespace Tg
open PySem PySem.Spec PyProof.Rows L2
theorem pairs_at {X : Cx} {pins : List (Addr × Obj)} {σ : L2.St} {H : Hp} {s : Shared} (I : Inv X pins σ H s) : ∀ {ps : List Addr} {kvs : List (Key × V)}, Paired (fun p kv => SqT X.K H p [kV kv.1, kv.2]) ps kvs →
    ∃ (prs : List (Key × Value)) (qs : List (Value × Value)), L2.KV kvs prs ∧ qs.length = ps.length ∧ prs.length = ps.length ∧ ∀ (j : Nat) (k v : Value), qs[j]? = some (k, v) → ∃ (b : Addr) (y : Key), ps[j]? = some b ∧ IsTup s.heap b #[k, v] ∧ prs[j]? = some (y, v) ∧ (mixKind X.prog X.w).is y k = true
  | _, _, .nil => ⟨[], [], .nil, rfl, rfl, fun j k v e => by simp at e⟩
  | _, _, .cons (a := p) (b := kv) h t => by
    obtain ⟨prs, qs, r, hl, hl2, hp⟩ := pairs_at I t
    obtain ⟨its, rv, ht, _⟩ := I.tuple h
    obtain ⟨u, y, ei, ru, ry⟩ := vals2 rv
    subst ei
    refine ⟨(kv.1, y) :: prs, (u, y) :: qs, .cons ⟨rfl, ry⟩ r, by rw [List.length_cons, List.length_cons, hl], by rw [List.length_cons, List.length_cons, hl2], fun j k v e => ?_⟩
    cases j with
    | zero =>
      have e' : (u, y) = (k, v) := Option.some.inj e
      cases e'
      exact ⟨p, kv.1, rfl, ht, rfl, kV_is (P := X.prog) (w := X.w) ru⟩
    | succ j =>
      obtain ⟨b, y', e1, e2, e3, e4⟩ := hp j k v (by simpa using e)
      exact ⟨b, y', by simpa using e1, e2, by simpa using e3, e4⟩
def rUpd (K : PySem.W.Frag) : V → List V → Hp → VK → Prop := fun x xs H Q => ∃ (d a : Addr) (ps : List Addr) (kvs acc : List (Key × V)), x = .ref d ∧ xs = [.ref a] ∧ H d = some (.dK acc) ∧ SqL K H a (ps.map V.ref) ∧ Paired (fun p kv => SqT K H p [kV kv.1, kv.2]) ps kvs ∧
    acc.length + kvs.length ≤ 16777216 ∧ Q .non (upd H d (.dK (mergeK acc kvs)))
theorem mt_upd {X : Cx} (hcalm : X.calm = true) : MtR X "dict.update" (rUpd X.K) := by
  intro pins s σ H x xs v us Q I rx r q
  obtain ⟨d, a, ps, kvs, acc, rfl, rfl, hd, hq, hp, hsz, q⟩ := q
  obtain ⟨u, rfl, ru⟩ := vals1 r
  cases rx
  cases ru
  obtain ⟨its, rv, pl, hz⟩ := I.list hq
  have ei := refs_at rv
  subst ei
  obtain ⟨prs, qs, rel, hl, hl2, hpr⟩ := pairs_at I hp
  obtain ⟨z, hdl, vs, rel2, dd⟩ := dk_of I.hok hd
  obtain ⟨o, n, ho, hc, hdd, hdat⟩ := pl
  have od := dd
  obtain ⟨obd, _, _, hod, ex, _⟩ := od
  have kl : kvs.length = prs.length := rel.length
  have tup_ne : ∀ b its, IsTup s.heap b its → d ≠ b := fun b its ⟨ob, e1, e2, _⟩ q => by
    rw [← q, hod] at e1
    cases e1
    rw [ex.1] at e2
    exact absurd (Value.type.inj e2) (by decide)
  refine call_update_pairs (knd := mixKind X.prog X.w) (acc := vs) (kvs := prs) (PairArg.list (prog := X.prog) (w := X.w) a (ps.map Value.ref).toArray (fun j => ps.getD j 0) qs) (I.ok.hd hcalm) ⟨⟨o, n, ho, hc, hdd, hdat⟩, ⟨by simp [hl], fun j k v e => ?_⟩⟩ (fun hm => ?_) ⟨by rw [hl2, hl], fun j k v e => ?_⟩ dd ?_ fun h' tk hd' kk => ?_
  · obtain ⟨b, y, e1, e2, e3, e4⟩ := hpr j k v e
    refine ⟨by simp [e1], .inl ?_⟩
    show s.heap.IsTuple (ps.getD j 0) #[k, v]
    rw [List.getD_eq_getElem?_getD, e1]
    exact e2
  · rcases List.mem_cons.mp hm with hm | hm
    · rw [hm, ho] at hod
      cases hod
      rw [ex.1] at hc
      exact absurd (Value.type.inj hc) (by decide)
    · obtain ⟨j, hj, e⟩ := List.mem_map.mp hm
      have hj2 := List.mem_range.mp hj
      obtain ⟨b, y, e1, e2, e3, e4⟩ := hpr j qs[j].1 qs[j].2 (List.getElem?_eq_getElem hj2)
      rw [List.getD_eq_getElem?_getD, e1] at e
      exact tup_ne b _ e2 e.symm
  · obtain ⟨b, y, e1, e2, e3, e4⟩ := hpr j k v e
    exact ⟨y, e3, e4⟩
  · rw [sizeLine_eq, ← rel2.length, hl, ← hl2, ← kl]
    exact hsz
  · have he : ∃ q, h'.get? d = some q := let ⟨q, _, _, hq, _⟩ := hd'; ⟨q, hq⟩
    have hlen : (mergeK acc kvs).length ≤ sizeLine := Nat.le_trans (length_mergeK kvs acc) (by rw [sizeLine_eq]; exact hsz)
    exact ⟨.non, _, I.write (x := d) (e := d) (t' := tk) (by rw [hd]; exact True.intro) (.inl rfl) (fun b q hb z => kk b q hb (fun z => nomatch z) z) he (dk_new hlen hdl (KV.merge rel rel2) hd'), rfl, q⟩

/-- the pairs of a list -/
def pairsD : List D → Option (List (Key × D))
  | [] => some []
  | .tup [k, v] :: ds => match keyD k, pairsD ds with
    | some k, some kvs => some ((k, v) :: kvs)
    | _, _ => none
  | _ => none
def updD : D → List D → AH → R D := fun x ds A => match x, ds with
  | .ref n, [.lst ps] => match A[n]?, pairsD ps with
    | some (.dct acc), some kvs => if acc.length + kvs.length ≤ 16777216 then .ok .non (A.set n (.dct (mergeD acc kvs))) else .bad
    | _, _ => .bad
  | _, _ => .bad
section
variable {K : PySem.W.Frag} {mg : Str → Option Value} {W : Wd}
theorem pairsD_at {A : AH} {H : Hp} (k : Ok K mg W A H) : ∀ {ds : List D} {xs : List V} {more : List (Key × D)}, Reps K W ds xs → pairsD ds = some more →
    ∃ (ps : List Addr) (kvs : List (Key × V)), xs = ps.map V.ref ∧ Paired (fun p kv => SqT K H p [kV kv.1, kv.2]) ps kvs ∧ KVR K W more kvs
  | [], xs, more, r, e => by
    cases (show some [] = some more from e)
    cases (show xs = [] from r)
    exact ⟨[], [], rfl, .nil, rfl, rfl⟩
  | d :: ds, xs, more, r, e => by
    obtain ⟨v, r', rfl, h1, h2⟩ := r
    unfold pairsD at e
    split at e
    · cases ‹_ = []›
    · rename_i kd vd ds' q
      simp only [List.cons.injEq] at q
      obtain ⟨rfl, rfl⟩ := q
      split at e
      · rename_i kx kvs' e1 e2
        cases e
        obtain ⟨ps, kvs, rfl, e4, e5⟩ := pairsD_at k h2 e2
        obtain ⟨a, ys, rfl, q1, q2⟩ := h1
        obtain ⟨y1, y2, rfl, q3, q4⟩ := reps2 q2
        refine ⟨a :: ps, (kx, y2) :: kvs, rfl, .cons ?_ e4, KVR.mk_cons q4 e5⟩
        rw [← keyD_at q3 e1]
        exact k.sqT q1
      · cases e
    · cases e
theorem oUpdS : MtS K mg (rUpd K) updD := fun W A H E Q d x ds xs k rx r h => by
  unfold updD at h
  split at h
  · rename_i n ps
    obtain ⟨a, rfl, ha⟩ := rx
    obtain ⟨v, rfl, h1⟩ := reps1 r
    split at h
    · rename_i acc kvs q1 q2
      split at h
      · rename_i z
        obtain ⟨vs, hx, hk, rr⟩ := k.obj n a _ ha q1
        have kr : KVR K W acc vs := ⟨hk, rr⟩
        obtain ⟨b, ys, rfl, h3, h4⟩ := h1
        obtain ⟨qs, kvs', rfl, e1, e2⟩ := pairsD_at k h4 q2
        refine ⟨a, b, qs, kvs', vs, rfl, rfl, hx, .of (k.frz _ _ h3), e1, by rw [kr.len, e2.len]; exact z, post_write (d := .non) k ha (obd (KVR.merge e2 kr)) rfl h⟩
      · exact h.elim
    · exact h.elim
  · exact h.elim
end
end Tg

set_option Elab.async false
set_option linter.all false
set_option maxRecDepth 100000
set_option maxHeartbeats 2000000
/-! TgEnd: what the head's facts give; the law's own end. -/
namespace Tg
open PySem PySem.Spec PyProof.Rows L2
section
variable {K : PySem.W.Frag} {h : Heap} {mg : Str → Option Value} {x qual c : Str} {st : Stmt} {ps : List Str} {f C : Addr} {oc kV doc pm cdv ct : Value} {od an : Option Addr} {osl : Array (Option Value)}
abbrev HB (x qual : Str) (st : Stmt) (ps : List Str) : Prop := ∀ (kV doc pm : Value) (an : Option Addr) (cdv ct : Value) (us : List Value), us.length = ps.length → bindArgs (PySem.W.fnOf x qual (defArgs st) (defBody st) (defScope st) .none kV doc pm an cdv ct) ⟨us, []⟩ = pure (ps.zip us)
theorem tf_of (X : K.In h) (G : h.Ns mainGlobals mg) (a : PySem.W.nsIn K mainGlobals x = some (some (.ref f))) (l : K.lookup f = some ⟨oc, od, .func (PySem.W.fnOf x qual (defArgs st) (defBody st) (defScope st) .none kV doc pm an cdv ct), osl⟩)
    (cc : PySem.W.codeIn K cdv qual = true) (k : PySem.W.keepIn K (.ref f) = true) (b : HB x qual st ps) : TF K mg x qual st ps :=
  ⟨f, _, fun_mk l cc k, PySem.W.mg_of X G a, (fun_mk l cc k).binds b⟩
def TL (K : PySem.W.Frag) (mg : Str → Option Value) (x : Str) (st : Stmt) (p : Str) : Prop := ∃ f fd, Fun K x x st f fd ∧ mg x = some (.ref f) ∧ ∀ (s : Shared) (v : Value), BindsTo s fd ⟨[v], []⟩ [(p, v)]
theorem tl_of {p : Str} (X : K.In h) (G : h.Ns mainGlobals mg) (a : PySem.W.nsIn K mainGlobals x = some (some (.ref f))) (l : K.lookup f = some ⟨oc, od, .func (PySem.W.fnOf x x (defArgs st) (defBody st) (defScope st) .none kV doc pm an cdv ct), osl⟩)
    (cc : PySem.W.codeIn K cdv x = true) (k : PySem.W.keepIn K (.ref f) = true) (b : HB x x st [p]) : TL K mg x st p :=
  ⟨f, _, fun_mk l cc k, PySem.W.mg_of X G a, fun s v => .of_eq (b kV doc pm an cdv ct [v] rfl)⟩
theorem tm_of (X : K.In h) (G : h.Ns mainGlobals mg) (a : PySem.W.nsIn K mainGlobals c = some (some (.ref C))) (m : PySem.W.findIn K (.ref C) x = some (some (.ref f))) (i : PySem.W.isFn K (.ref f) = true)
    (l : K.lookup f = some ⟨oc, od, .func (PySem.W.fnOf x qual (defArgs st) (defBody st) (defScope st) .none kV doc pm an cdv ct), osl⟩) (cc : PySem.W.codeIn K cdv qual = true) (k : PySem.W.keepIn K (.ref f) = true) (b : HB x qual st ps)
    (pg : PySem.W.plainGet K C Str.empty = true) (hd : PySem.W.hasDictIn K C = true) (po : PySem.W.plainOver K C = true) (sa : PySem.W.findIn K (.ref C) "__setattr__" = some (some (.builtin "object.__setattr__"))) : TM K mg c x qual st ps := by
  have e : clA mg c = C := clA_of (PySem.W.mg_of X G a)
  exact ⟨f, _, fun_mk l cc k, by rw [e]; exact ⟨m, i, k⟩, (fun_mk l cc k).binds b, by rw [e]; exact ⟨pg, hd, po, sa⟩⟩
theorem ti_of (X : K.In h) (G : h.Ns mainGlobals mg) (a : PySem.W.nsIn K mainGlobals c = some (some (.ref C))) (m : PySem.W.findIn K (.ref C) "__init__" = some (some (.ref f))) (i : PySem.W.isFn K (.ref f) = true)
    (l : K.lookup f = some ⟨oc, od, .func (PySem.W.fnOf "__init__" qual (defArgs st) (defBody st) (defScope st) .none kV doc pm an cdv ct), osl⟩) (cc : PySem.W.codeIn K cdv qual = true) (k : PySem.W.keepIn K (.ref f) = true) (b : HB "__init__" qual st ps)
    (mk : PySem.W.makesIn K C = true) (kc : PySem.W.keepIn K (.ref C) = true) : TI K mg c qual st ps :=
  ⟨C, f, _, fun_mk l cc k, PySem.W.mg_of X G a, ⟨mk, m, i, kc⟩, (fun_mk l cc k).binds b⟩
theorem fds_nil {f : Str} : Fds K mg [] f := fun _ h => nomatch h
theorem fds_cons {f : Str} {cs : List Str} (X : K.In h) (G : h.Ns mainGlobals mg) (a : PySem.W.nsIn K mainGlobals c = some (some (.ref C)))
    (pg : PySem.W.plainGet K C Str.empty = true) (hd : PySem.W.hasDictIn K C = true) (po : PySem.W.plainOver K C = true) (sa : PySem.W.findIn K (.ref C) "__setattr__" = some (some (.builtin "object.__setattr__")))
    (nf : PySem.W.findIn K (.ref C) f = some none) (r : Fds K mg cs f) : Fds K mg (c :: cs) f := fun y hy => by
  rcases List.mem_cons.mp hy with rfl | hy
  · have e : clA mg y = C := clA_of (PySem.W.mg_of X G a)
    rw [e]
    exact ⟨⟨pg, hd, po, sa⟩, nf⟩
  · exact r y hy
end
/-- constants, by what stands there -/
theorem gtup_at {x : Str} {K : PySem.W.Frag} {mg : Str → Option Value} {a : Addr} {ds : List D} {od : Option Addr} {its : Array Value} {n : Nat} {sl : Array (Option Value)} (h : mg x = some (.ref a)) (l : K.lookup a = some ⟨.type "tuple", od, .seq its n, sl⟩)
    (h2 : (decide (its.size ≤ 1000) && fltOk ds its.toList) = true) : GDat K mg x (.tup ds) := gtupc h (by
  unfold tupAt
  rw [l]
  simp only [decide_true, Bool.true_and]
  exact h2)
theorem gtab_at {x : Str} {K : PySem.W.Frag} {mg : Str → Option Value} {w : World} {a : Addr} {kvs : List (Str × Str)} {es : Array DictEntry} {n : Nat} (hm : mg x = some (.ref a)) (l : K.lookup a = some ⟨.type "dict", none, .dict es n, #[]⟩) (k : PySem.W.KeysLit w.params es.toList)
    (o : (a == sysModules) = false) (h2 : es.toList.map entOf = kvs.map some) : GTab K w mg x kvs := by
  refine ⟨a, hm, ?_⟩
  have e0 : ∀ z, PySem.W.nsIn K a z = (match es.toList.find? (·.key.isStr z) with
      | some e => some (some e.val)
      | none => if es.toList.any (·.refKey) then none else some none) := fun z => by
    unfold PySem.W.nsIn
    rw [l]
    rfl
  refine ⟨⟨es, n, l, k, o⟩, fun z v e => ?_, fun z e => ?_⟩
  · obtain ⟨e', t, e1, e2⟩ := (ents_at h2 z).2 v e
    refine ⟨t, ?_⟩
    rw [e0, e1, ← e2]
  · exact ((e0 z).trans (ents_at h2 z).1).trans (by rw [e])
def spLaw (K : PySem.W.Frag) : Sp := fun vs H Q _ => ∃ (a : Addr) (ns : List Int), vs = [.ref a] ∧ SqL K H a (ns.map V.int) ∧ ns.length ≤ 63 ∧ ∀ H', Q (.bl true) H'
theorem cx_none {P : Program} {w : World} {H : Hp} {s s' : Shared} {e : Value} (z : L2.CX P w [] H s (fun _ _ _ => False) e s') : False := by
  obtain ⟨_, _, _, _, _, _, _, _, _, _, _, _, q⟩ := z
  exact q
theorem lawEnd {l : PySem.W.OpenLaw} {w : World} {K : PySem.W.Frag} {mg : Str → Option Value} {fa : Addr} {N : List Str} {st : Stmt} {p : Str} {k : Nat} {m : MS} (hfa : mg "law" = some (.ref fa)) (T : TL K mg "law" st p) (S : FnScope N [p] (defScope st))
    (h : ∀ base : Heap, Body l.prog w K mg base N "law" st k m) (hl : ∀ ns : List Int, ns.length ≤ 63 → ∃ A, mFun 1 N.length m [.scr ns] [] = .ok (.bl true) A) :
    ∃ fd : FuncData, (∀ (s : Shared) (v : Value), BindsTo s fd ⟨[v], []⟩ [(p, v)]) ∧ ∀ base : Heap, K.In base → base.Ns mainGlobals mg → FnOk l.prog w K mg base (L2.CX l.prog w) (k + 1) fa fd [p] (spLaw K) := by
  obtain ⟨f, fd, F, hm, hb⟩ := T
  rw [hfa] at hm
  cases hm
  refine ⟨fd, hb, fun base _ _ => (fnok_of F S (h base)).imp fun vs H Q E ⟨a, ns, e, hq, hn, q⟩ => ?_⟩
  obtain ⟨A, eA⟩ := hl ns hn
  subst e
  refine ⟨⟨H, []⟩, [.scr ns], [], ⟨fun _ _ h => h, fun _ h => (nomatch h), .nil, rfl, fun n a o h => by simp at h⟩, Reps.one ⟨a, rfl, hq⟩, ?_⟩
  show Post K mg (Rep K) _ H E Q (mFun 1 N.length m [.scr ns] [])
  rw [eA]
  exact fun W' H' b _ _ r => by
    rw [show b = V.bl true from r]
    exact q H'
end Tg

set_option Elab.async false
set_option linter.all false
set_option maxRecDepth 100000
set_option maxHeartbeats 2000000
/-! TgEval: simp rules that run mirrors. -/
namespace Tg
open PySem L2
theorem ofString_inj {a b : String} : Str.ofString a = Str.ofString b ↔ a = b := by
  constructor
  · intro h
    rw [Str.ofString_eq_toList, Str.ofString_eq_toList] at h
    have h2 : (a.toList.map Char.toNat) = (b.toList.map Char.toNat) := by
      have := congrArg (fun s => s.cps.toList) h
      simpa using this
    have h3 : a.toList = b.toList := List.map_inj_right (fun x y e => Char.ext (UInt32.toNat_inj.mp e)) |>.mp h2
    exact String.toList_inj.mp h3
  · intro h
    rw [h]

def RS.nxt (r : RS) (n : MS) : RS := match r with
  | .nx s1 A1 => n s1 A1
  | r => r
@[simp] theorem RS.nxt_nx (s : Sl) (A : AH) (n : MS) : (RS.nx s A).nxt n = n s A := rfl
@[simp] theorem RS.nxt_rt (d : D) (A : AH) (n : MS) : (RS.rt d A).nxt n = .rt d A := rfl
@[simp] theorem RS.nxt_exc (x : XV) (s : Sl) (A : AH) (n : MS) : (RS.exc x s A).nxt n = .exc x s A := rfl
@[simp] theorem RS.nxt_bk (s : Sl) (A : AH) (n : MS) : (RS.bk s A).nxt n = .bk s A := rfl
@[simp] theorem RS.nxt_ct (s : Sl) (A : AH) (n : MS) : (RS.ct s A).nxt n = .ct s A := rfl
@[simp] theorem RS.nxt_bad (n : MS) : RS.bad.nxt n = .bad := rfl
theorem RS.nxt_ite (c : Prop) [Decidable c] (a b : RS) (n : MS) : (if c then a else b).nxt n = if c then a.nxt n else b.nxt n := by split <;> rfl
def kB2 (f : D → D → AH → R D) (x : D) (r : R D) : R D := r.bind fun y A => f x y A
@[simp] theorem kB2_0 (f : D → D → AH → R D) (x : D) (y : D) (A : AH) : kB2 f x (.ok y A) = f x y A := rfl
def kB1 (f : D → D → AH → R D) (b : ME) (s : Sl) (r : R D) : R D := r.bind fun x A => kB2 f x (b s A)
@[simp] theorem kB1_0 (f : D → D → AH → R D) (b : ME) (s : Sl) (x : D) (A : AH) : kB1 f b s (.ok x A) = kB2 f x (b s A) := rfl
@[simp] theorem e_bin {f : D → D → AH → R D} {a b : ME} {s : Sl} {A : AH} : mBin f a b s A = kB1 f b s (a s A) := rfl
def kU (f : D → AH → R D) (r : R D) : R D := r.bind fun x A => f x A
@[simp] theorem kU_0 (f : D → AH → R D) (x : D) (A : AH) : kU f (.ok x A) = f x A := rfl
@[simp] theorem e_un {f : D → AH → R D} {a : ME} {s : Sl} {A : AH} : mUn f a s A = kU f (a s A) := rfl
def kC2 (x : D) (r : R (List D)) : R (List D) := r.bind fun xs A => .ok (x :: xs) A
@[simp] theorem kC2_0 (x : D) (xs : List D) (A : AH) : kC2 x (.ok xs A) = .ok (x :: xs) A := rfl
def kC1 (ma : MA) (s : Sl) (r : R D) : R (List D) := r.bind fun x A => kC2 x (ma s A)
@[simp] theorem kC1_0 (ma : MA) (s : Sl) (x : D) (A : AH) : kC1 ma s (.ok x A) = kC2 x (ma s A) := rfl
@[simp] theorem e_nil  {s : Sl} {A : AH} : mNil s A = .ok [] A := rfl
@[simp] theorem e_cons {a : ME} {ma : MA} {s : Sl} {A : AH} : mCons a ma s A = kC1 ma s (a s A) := rfl
def kT  (r : R D) : R Bool := r.bind toB
@[simp] theorem kT_0  (b : Bool) (A : AH) : kT (.ok (.bl b) A) = .ok b A := rfl
@[simp] theorem e_tb {a : ME} {s : Sl} {A : AH} : mTb a s A = kT (a s A) := rfl
def kI (a b : ME) (s : Sl) (r : R Bool) : R D := r.bind fun k A => if k then a s A else b s A
@[simp] theorem kI_0 (a b : ME) (s : Sl) (A : AH) : kI a b s (.ok true A) = a s A := rfl
@[simp] theorem kI_1 (a b : ME) (s : Sl) (A : AH) : kI a b s (.ok false A) = b s A := rfl
@[simp] theorem e_if {t : MT} {a b : ME} {s : Sl} {A : AH} : mIf t a b s A = kI a b s (t s A) := rfl
def kAnd (u : MT) (s : Sl) (r : R Bool) : R Bool := r.bind fun k A => if k then u s A else .ok false A
@[simp] theorem kAnd_0 (u : MT) (s : Sl) (A : AH) : kAnd u s (.ok true A) = u s A := rfl
@[simp] theorem kAnd_1 (u : MT) (s : Sl) (A : AH) : kAnd u s (.ok false A) = .ok false A := rfl
@[simp] theorem e_and {t u : MT} {s : Sl} {A : AH} : mAnd t u s A = kAnd u s (t s A) := rfl
def kOr (u : MT) (s : Sl) (r : R Bool) : R Bool := r.bind fun k A => if k then .ok true A else u s A
@[simp] theorem kOr_0 (u : MT) (s : Sl) (A : AH) : kOr u s (.ok true A) = .ok true A := rfl
@[simp] theorem kOr_1 (u : MT) (s : Sl) (A : AH) : kOr u s (.ok false A) = u s A := rfl
@[simp] theorem e_or {t u : MT} {s : Sl} {A : AH} : mOr t u s A = kOr u s (t s A) := rfl
def kN  (r : R Bool) : R Bool := r.bind fun k A => .ok (!k) A
@[simp] theorem kN_0  (b : Bool) (A : AH) : kN (.ok b A) = .ok (!b) A := rfl
@[simp] theorem e_not {t : MT} {s : Sl} {A : AH} : mNot t s A = kN (t s A) := rfl
def kCh3 (g : D → D → AH → R D) (y : D) (c : ME) (s : Sl) (r : R D) : R D := r.bind fun z A => (toB z A).bind fun k A4 => if k then (c s A4).bind fun w A5 => g y w A5 else .ok (.bl false) A4
@[simp] theorem kCh3_0 (g : D → D → AH → R D) (y : D) (c : ME) (s : Sl) (A : AH) : kCh3 g y c s (.ok (.bl true) A) = kB2 g y (c s A) := rfl
@[simp] theorem kCh3_1 (g : D → D → AH → R D) (y : D) (c : ME) (s : Sl) (A : AH) : kCh3 g y c s (.ok (.bl false) A) = .ok (.bl false) A := rfl
def kCh2 (f g : D → D → AH → R D) (x : D) (c : ME) (s : Sl) (r : R D) : R D := r.bind fun y A => kCh3 g y c s (f x y A)
@[simp] theorem kCh2_0 (f g : D → D → AH → R D) (x : D) (c : ME) (s : Sl) (y : D) (A : AH) : kCh2 f g x c s (.ok y A) = kCh3 g y c s (f x y A) := rfl
def kCh1 (f g : D → D → AH → R D) (b c : ME) (s : Sl) (r : R D) : R D := r.bind fun x A => kCh2 f g x c s (b s A)
@[simp] theorem kCh1_0 (f g : D → D → AH → R D) (b c : ME) (s : Sl) (x : D) (A : AH) : kCh1 f g b c s (.ok x A) = kCh2 f g x c s (b s A) := rfl
@[simp] theorem e_chain {f g : D → D → AH → R D} {a b c : ME} {s : Sl} {A : AH} : mChain f g a b c s A = kCh1 f g b c s (a s A) := rfl
def kAV (b : ME) (s : Sl) (r : R D) : R D := r.bind fun x A => (toB x A).bind fun k A2 => if k then b s A2 else .ok (.bl false) A2
@[simp] theorem kAV_0 (b : ME) (s : Sl) (A : AH) : kAV b s (.ok (.bl true) A) = b s A := rfl
@[simp] theorem kAV_1 (b : ME) (s : Sl) (A : AH) : kAV b s (.ok (.bl false) A) = .ok (.bl false) A := rfl
@[simp] theorem e_andV {a b : ME} {s : Sl} {A : AH} : mAndV a b s A = kAV b s (a s A) := rfl
def kOV (b : ME) (s : Sl) (r : R D) : R D := r.bind fun x A => (toB x A).bind fun k A2 => if k then .ok (.bl true) A2 else b s A2
@[simp] theorem kOV_0 (b : ME) (s : Sl) (A : AH) : kOV b s (.ok (.bl true) A) = .ok (.bl true) A := rfl
@[simp] theorem kOV_1 (b : ME) (s : Sl) (A : AH) : kOV b s (.ok (.bl false) A) = b s A := rfl
@[simp] theorem e_orV {a b : ME} {s : Sl} {A : AH} : mOrV a b s A = kOV b s (a s A) := rfl
def kNV  (r : R D) : R D := r.bind fun x A => (toB x A).bind fun k A2 => .ok (.bl (!k)) A2
@[simp] theorem kNV_0  (b : Bool) (A : AH) : kNV (.ok (.bl b) A) = .ok (.bl (!b)) A := rfl
@[simp] theorem e_notV {a : ME} {s : Sl} {A : AH} : mNotV a s A = kNV (a s A) := rfl
def kTup  (r : R (List D)) : R D := r.bind fun ds A1 => if ds.length ≤ 16777216 then .ok (.tup ds) A1 else .bad
@[simp] theorem kTup_0  (ds : List D) (A : AH) : kTup (.ok ds A) = if ds.length ≤ 16777216 then .ok (.tup ds) A else .bad := rfl
@[simp] theorem e_tup {ma : MA} {s : Sl} {A : AH} : mTup ma s A = kTup (ma s A) := rfl
def kLst  (r : R (List D)) : R D := r.bind fun ds A1 => if ds.length ≤ 16777216 then .ok (.lst ds) A1 else .bad
@[simp] theorem kLst_0  (ds : List D) (A : AH) : kLst (.ok ds A) = if ds.length ≤ 16777216 then .ok (.lst ds) A else .bad := rfl
@[simp] theorem e_lst {ma : MA} {s : Sl} {A : AH} : mLst ma s A = kLst (ma s A) := rfl
def kLstN  (r : R (List D)) : R D := r.bind fun ds A1 => if ds.length ≤ 16777216 then .ok (.ref A1.length) (A1 ++ [.lst ds]) else .bad
@[simp] theorem kLstN_0  (ds : List D) (A : AH) : kLstN (.ok ds A) = if ds.length ≤ 16777216 then .ok (.ref A.length) (A ++ [.lst ds]) else .bad := rfl
@[simp] theorem e_lstN {ma : MA} {s : Sl} {A : AH} : mLstN ma s A = kLstN (ma s A) := rfl
def kP  (r : R D) : R (Option Int) := r.bind fun x A1 => match x with
  | .int i => .ok (some i) A1
  | _ => .bad
@[simp] theorem kP_0  (i : Int) (A : AH) : kP (.ok (.int i) A) = .ok (some i) A := rfl
@[simp] theorem e_part {a : ME} {s : Sl} {A : AH} : mPart a s A = kP (a s A) := rfl
@[simp] theorem e_nopart  {s : Sl} {A : AH} : mNoPart s A = .ok none A := rfl
def kS3 (x : D) (l : Option Int) (r : R (Option Int)) : R D := r.bind fun u A => slD x l u A
@[simp] theorem kS3_0 (x : D) (l : Option Int) (u : Option Int) (A : AH) : kS3 x l (.ok u A) = slD x l u A := rfl
def kS2 (x : D) (hi : Sl → AH → R (Option Int)) (s : Sl) (r : R (Option Int)) : R D := r.bind fun l A => kS3 x l (hi s A)
@[simp] theorem kS2_0 (x : D) (hi : Sl → AH → R (Option Int)) (s : Sl) (l : Option Int) (A : AH) : kS2 x hi s (.ok l A) = kS3 x l (hi s A) := rfl
def kS1 (lo hi : Sl → AH → R (Option Int)) (s : Sl) (r : R D) : R D := r.bind fun x A => kS2 x hi s (lo s A)
@[simp] theorem kS1_0 (lo hi : Sl → AH → R (Option Int)) (s : Sl) (x : D) (A : AH) : kS1 lo hi s (.ok x A) = kS2 x hi s (lo s A) := rfl
@[simp] theorem e_sl {a : ME} {lo hi : Sl → AH → R (Option Int)} {s : Sl} {A : AH} : mSl a lo hi s A = kS1 lo hi s (a s A) := rfl
def kF (cs : List Str) (f : Str) (r : R D) : R D := r.bind fun x A => fldD cs f x A
@[simp] theorem kF_0 (cs : List Str) (f : Str) (x : D) (A : AH) : kF cs f (.ok x A) = fldD cs f x A := rfl
@[simp] theorem e_fld {cs : List Str} {f : Str} {a : ME} {s : Sl} {A : AH} : mFld cs f a s A = kF cs f (a s A) := rfl
def kCall (g : List D → AH → R D) (r : R (List D)) : R D := r.bind fun ds A => g ds A
@[simp] theorem kCall_0 (g : List D → AH → R D) (ds : List D) (A : AH) : kCall g (.ok ds A) = g ds A := rfl
@[simp] theorem e_call {g : List D → AH → R D} {ma : MA} {s : Sl} {A : AH} : mCall g ma s A = kCall g (ma s A) := rfl
def kM2 (f : D → List D → AH → R D) (x : D) (r : R (List D)) : R D := r.bind fun ds A => f x ds A
@[simp] theorem kM2_0 (f : D → List D → AH → R D) (x : D) (ds : List D) (A : AH) : kM2 f x (.ok ds A) = f x ds A := rfl
def kM1 (T : String) (f : D → List D → AH → R D) (ma : MA) (s : Sl) (r : R D) : R D := r.bind fun x A1 => if tyMD A1 T x then kM2 f x (ma s A1) else .bad
@[simp] theorem kM1_0 (T : String) (f : D → List D → AH → R D) (ma : MA) (s : Sl) (x : D) (A : AH) : kM1 T f ma s (.ok x A) = if tyMD A T x then kM2 f x (ma s A) else .bad := rfl
@[simp] theorem e_mt {T : String} {f : D → List D → AH → R D} {a : ME} {ma : MA} {s : Sl} {A : AH} : mMt T f a ma s A = kM1 T f ma s (a s A) := rfl
def kMe3 (g : List D → AH → R D) (n : Nat) (r : R (List D)) : R D := r.bind fun ds A => g (.ref n :: ds) A
@[simp] theorem kMe3_0 (g : List D → AH → R D) (n : Nat) (ds : List D) (A : AH) : kMe3 g n (.ok ds A) = g (.ref n :: ds) A := rfl
def kMe2 (c m : Str) (g : List D → AH → R D) (ma : MA) (s : Sl) (n : Nat) (A : AH) (o : Option AO) : R D := match o with
  | some (.ins c' fs) => if c' = c ∧ fs.lookup m = none then kMe3 g n (ma s A) else .bad
  | _ => .bad
@[simp] theorem kMe2_0 (c m : Str) (g : List D → AH → R D) (ma : MA) (s : Sl) (n : Nat) (A : AH) (c' : Str) (fs : List (Str × D)) : kMe2 c m g ma s n A (some (.ins c' fs)) = if c' = c ∧ fs.lookup m = none then kMe3 g n (ma s A) else .bad := rfl
def kMe1 (c m : Str) (g : List D → AH → R D) (ma : MA) (s : Sl) (r : R D) : R D := r.bind fun x A => match x with
  | .ref n => kMe2 c m g ma s n A A[n]?
  | _ => .bad
@[simp] theorem kMe1_0 (c m : Str) (g : List D → AH → R D) (ma : MA) (s : Sl) (n : Nat) (A : AH) : kMe1 c m g ma s (.ok (.ref n) A) = kMe2 c m g ma s n A A[n]? := rfl
@[simp] theorem e_meth {c m : Str} {g : List D → AH → R D} {mo : ME} {ma : MA} {s : Sl} {A : AH} : mMeth c m g mo ma s A = kMe1 c m g ma s (mo s A) := rfl
def kMk2 (n : Nat) (r : R D) : R D := r.bind fun r A2 => match r with
  | .non => .ok (.ref n) A2
  | _ => .bad
@[simp] theorem kMk2_0 (n : Nat) (A : AH) : kMk2 n (.ok .non A) = .ok (.ref n) A := rfl
def kMk1 (c : Str) (g : List D → AH → R D) (r : R (List D)) : R D := r.bind fun ds A1 => kMk2 A1.length (g (.ref A1.length :: ds) (A1 ++ [.ins c []]))
@[simp] theorem kMk1_0 (c : Str) (g : List D → AH → R D) (ds : List D) (A : AH) : kMk1 c g (.ok ds A) = kMk2 A.length (g (.ref A.length :: ds) (A ++ [.ins c []])) := rfl
@[simp] theorem e_make {c : Str} {g : List D → AH → R D} {ma : MA} {s : Sl} {A : AH} : mMake c g ma s A = kMk1 c g (ma s A) := rfl
def kPC3 (x y : D) (r : R (List (D × D))) : R (List (D × D)) := r.bind fun ps A => .ok ((x, y) :: ps) A
@[simp] theorem kPC3_0 (x y : D) (ps : List (D × D)) (A : AH) : kPC3 x y (.ok ps A) = .ok ((x, y) :: ps) A := rfl
def kPC2 (x : D) (p : MP) (s : Sl) (r : R D) : R (List (D × D)) := r.bind fun y A => kPC3 x y (p s A)
@[simp] theorem kPC2_0 (x : D) (p : MP) (s : Sl) (y : D) (A : AH) : kPC2 x p s (.ok y A) = kPC3 x y (p s A) := rfl
def kPC1 (b : ME) (p : MP) (s : Sl) (r : R D) : R (List (D × D)) := r.bind fun x A => kPC2 x p s (b s A)
@[simp] theorem kPC1_0 (b : ME) (p : MP) (s : Sl) (x : D) (A : AH) : kPC1 b p s (.ok x A) = kPC2 x p s (b s A) := rfl
@[simp] theorem e_pnil  {s : Sl} {A : AH} : mPNil s A = .ok [] A := rfl
@[simp] theorem e_pcons {a b : ME} {p : MP} {s : Sl} {A : AH} : mPCons a b p s A = kPC1 b p s (a s A) := rfl
def kD  (r : R (List (D × D))) : R D := r.bind fun ps A1 => match keysD ps with
  | some kvs => if kvs.length ≤ 15 then .ok (.dct ((mergeD [] kvs).map (·.1)) ((mergeD [] kvs).map (·.2))) A1 else .bad
  | none => .bad
@[simp] theorem kD_0  (ps : List (D × D)) (A : AH) : kD (.ok ps A) = match keysD ps with
  | some kvs => if kvs.length ≤ 15 then .ok (.dct ((mergeD [] kvs).map (·.1)) ((mergeD [] kvs).map (·.2))) A else .bad
  | none => .bad := rfl
def kDN  (r : R (List (D × D))) : R D := r.bind fun ps A1 => match keysD ps with
  | some kvs => if kvs.length ≤ 15 then .ok (.ref A1.length) (A1 ++ [.dct (mergeD [] kvs)]) else .bad
  | none => .bad
@[simp] theorem kDN_0  (ps : List (D × D)) (A : AH) : kDN (.ok ps A) = match keysD ps with
  | some kvs => if kvs.length ≤ 15 then .ok (.ref A.length) (A ++ [.dct (mergeD [] kvs)]) else .bad
  | none => .bad := rfl
@[simp] theorem e_dct {p : MP} {s : Sl} {A : AH} : mDct p s A = kD (p s A) := rfl
@[simp] theorem e_dctN {p : MP} {s : Sl} {A : AH} : mDctN p s A = kDN (p s A) := rfl
def kG12 (x : D) (r : R D) : R D := r.bind fun d A => getD1 x d A
@[simp] theorem kG12_0 (x : D) (d : D) (A : AH) : kG12 x (.ok d A) = getD1 x d A := rfl
def kG11 (y : ME) (s : Sl) (r : R D) : R D := r.bind fun x A => if (dctD A x).isSome then kG12 x (y s A) else .bad
@[simp] theorem kG11_0 (y : ME) (s : Sl) (x : D) (A : AH) : kG11 y s (.ok x A) = if (dctD A x).isSome then kG12 x (y s A) else .bad := rfl
@[simp] theorem e_get1 {o y : ME} {s : Sl} {A : AH} : mGet1 o y s A = kG11 y s (o s A) := rfl
def kG23 (x d : D) (r : R D) : R D := r.bind fun e A => getD2 x d e A
@[simp] theorem kG23_0 (x d : D) (e : D) (A : AH) : kG23 x d (.ok e A) = getD2 x d e A := rfl
def kG22 (x : D) (z : ME) (s : Sl) (r : R D) : R D := r.bind fun d A => kG23 x d (z s A)
@[simp] theorem kG22_0 (x : D) (z : ME) (s : Sl) (d : D) (A : AH) : kG22 x z s (.ok d A) = kG23 x d (z s A) := rfl
def kG21 (y z : ME) (s : Sl) (r : R D) : R D := r.bind fun x A => if (dctD A x).isSome then kG22 x z s (y s A) else .bad
@[simp] theorem kG21_0 (y z : ME) (s : Sl) (x : D) (A : AH) : kG21 y z s (.ok x A) = if (dctD A x).isSome then kG22 x z s (y s A) else .bad := rfl
@[simp] theorem e_get2 {o y z : ME} {s : Sl} {A : AH} : mGet2 o y z s A = kG21 y z s (o s A) := rfl
@[simp] theorem e_nx  {s : Sl} {A : AH} : mNx s A = .nx s A := rfl
@[simp] theorem e_seq {m n : MS} {s : Sl} {A : AH} : mSeq m n s A = (m s A).nxt n := rfl
def kDrop (s : Sl) (r : R D) : RS := r.thenS s fun _ A1 => .nx s A1
@[simp] theorem kDrop_0 (s : Sl) (x : D) (A : AH) : kDrop s (.ok x A) = .nx s A := rfl
@[simp] theorem e_drop {a : ME} {s : Sl} {A : AH} : mDrop a s A = kDrop s (a s A) := rfl
def kRet (s : Sl) (r : R D) : RS := r.thenS s fun d A1 => .rt d A1
@[simp] theorem kRet_0 (s : Sl) (x : D) (A : AH) : kRet s (.ok x A) = .rt x A := rfl
@[simp] theorem e_ret {a : ME} {s : Sl} {A : AH} : mRet a s A = kRet s (a s A) := rfl
@[simp] theorem e_retN  {s : Sl} {A : AH} : mRetN s A = .rt .non A := rfl
def kIf (m n : MS) (s : Sl) (r : R Bool) : RS := r.thenS s fun k A1 => if k then m s A1 else n s A1
@[simp] theorem kIf_0 (m n : MS) (s : Sl) (A : AH) : kIf m n s (.ok true A) = m s A := rfl
@[simp] theorem kIf_1 (m n : MS) (s : Sl) (A : AH) : kIf m n s (.ok false A) = n s A := rfl
@[simp] theorem e_ifS {t : MT} {m n : MS} {s : Sl} {A : AH} : mIfS t m n s A = kIf m n s (t s A) := rfl
def kAsg (i : Nat) (s : Sl) (r : R D) : RS := r.thenS s fun d A1 => .nx (s.set i (some d)) A1
@[simp] theorem kAsg_0 (i : Nat) (s : Sl) (x : D) (A : AH) : kAsg i s (.ok x A) = .nx (s.set i (some x)) A := rfl
@[simp] theorem e_asgN {a : ME} {i : Nat} {s : Sl} {A : AH} : mAsg a (gmN i) s A = kAsg i s (a s A) := rfl
def kPar (is : List Nat) (s : Sl) (r : R (List D)) : RS := r.thenS s fun ds A1 => match is, ds with
  | [i, j], [d, e] => .nx ((s.set i (some d)).set j (some e)) A1
  | [i, j, l], [d, e, f] => .nx (((s.set i (some d)).set j (some e)).set l (some f)) A1
  | _, _ => .bad
@[simp] theorem kPar_2 (i j : Nat) (s : Sl) (d e : D) (A : AH) : kPar [i, j] s (.ok [d, e] A) = .nx ((s.set i (some d)).set j (some e)) A := rfl
@[simp] theorem kPar_3 (i j l : Nat) (s : Sl) (d e f : D) (A : AH) : kPar [i, j, l] s (.ok [d, e, f] A) = .nx (((s.set i (some d)).set j (some e)).set l (some f)) A := rfl
@[simp] theorem e_par {is : List Nat} {ma : MA} {s : Sl} {A : AH} : mPar is ma s A = kPar is s (ma s A) := rfl
def kSub4 (s : Sl) (o : Option AH) : RS := match o with
  | some A => .nx s A
  | none => .bad
@[simp] theorem kSub4_0 (s : Sl) (A : AH) : kSub4 s (some A) = .nx s A := rfl
def kSub3 (x d : D) (s : Sl) (r : R D) : RS := r.thenS s fun y A => kSub4 s (stSub x y d A)
@[simp] theorem kSub3_0 (x d : D) (s : Sl) (y : D) (A : AH) : kSub3 x d s (.ok y A) = kSub4 s (stSub x y d A) := rfl
def kSub2 (b : ME) (d : D) (s : Sl) (r : R D) : RS := r.thenS s fun x A => kSub3 x d s (b s A)
@[simp] theorem kSub2_0 (b : ME) (d : D) (s : Sl) (x : D) (A : AH) : kSub2 b d s (.ok x A) = kSub3 x d s (b s A) := rfl
def kSub1 (a b : ME) (s : Sl) (r : R D) : RS := r.thenS s fun d A => kSub2 b d s (a s A)
@[simp] theorem kSub1_0 (a b : ME) (s : Sl) (d : D) (A : AH) : kSub1 a b s (.ok d A) = kSub2 b d s (a s A) := rfl
@[simp] theorem e_sub {a b c : ME} {s : Sl} {A : AH} : mSubS a b c s A = kSub1 a b s (c s A) := rfl
def kFS2 (cs : List Str) (f : Str) (d : D) (s : Sl) (r : R D) : RS := r.thenS s fun x A => kSub4 s (stFld cs f x d A)
@[simp] theorem kFS2_0 (cs : List Str) (f : Str) (d : D) (s : Sl) (x : D) (A : AH) : kFS2 cs f d s (.ok x A) = kSub4 s (stFld cs f x d A) := rfl
def kFS1 (cs : List Str) (f : Str) (a : ME) (s : Sl) (r : R D) : RS := r.thenS s fun d A => kFS2 cs f d s (a s A)
@[simp] theorem kFS1_0 (cs : List Str) (f : Str) (a : ME) (s : Sl) (d : D) (A : AH) : kFS1 cs f a s (.ok d A) = kFS2 cs f d s (a s A) := rfl
@[simp] theorem e_fldS {cs : List Str} {f : Str} {a b : ME} {s : Sl} {A : AH} : mFldS cs f a b s A = kFS1 cs f a s (b s A) := rfl
@[simp] theorem e_ct  {s : Sl} {A : AH} : mCt s A = .ct s A := rfl
@[simp] theorem e_bk  {s : Sl} {A : AH} : mBk s A = .bk s A := rfl
section
variable {s : Sl} {A A1 : AH} {d x y : D} {ds : List D} {i : Nat}
theorem e_mv (h : s[i]? = some (some d)) : mv i s A = .ok d A := by unfold mv; rw [h]
@[simp] theorem e_mv0 {r : Sl} : mv 0 (some d :: r) A = .ok d A := rfl
@[simp] theorem e_mvS {o : Option D} {r : Sl} : mv (i + 1) (o :: r) A = mv i r A := rfl
@[simp] theorem e_mc : mc d s A = .ok d A := rfl
@[simp] theorem e_yes : mYes s A = .ok true A := rfl
@[simp] theorem e_toB {b : Bool} : toB (.bl b) A = .ok b A := rfl
theorem e_fun {n m : Nat} {b : MS} (h : ds.length = n) : mFun n m b ds A = finS (b (startD m ds) A) := if_pos h
@[simp] theorem finS_rt : finS (.rt d A) = .ok d A := rfl
@[simp] theorem finS_nx : finS (.nx s A) = .ok .non A := rfl
/-! operations -/
@[simp] theorem o_add {i j : Int} : addD (.int i) (.int j) A = .ok (.int (i + j)) A := rfl
@[simp] theorem o_sub {i j : Int} : subD (.int i) (.int j) A = .ok (.int (i - j)) A := rfl
@[simp] theorem o_neg {i : Int} : negD (.int i) A = .ok (.int (-i)) A := rfl
@[simp] theorem o_lt {i j : Int} : ltD (.int i) (.int j) A = .ok (.bl (decide (i < j))) A := rfl
@[simp] theorem o_le {i j : Int} : leD (.int i) (.int j) A = .ok (.bl (decide (i ≤ j))) A := rfl
@[simp] theorem o_gt {i j : Int} : gtD (.int i) (.int j) A = .ok (.bl (decide (j < i))) A := rfl
@[simp] theorem o_ge {i j : Int} : geD (.int i) (.int j) A = .ok (.bl (decide (j ≤ i))) A := rfl
theorem o_mod {i j : Int} (h : 0 < j) : modD (.int i) (.int j) A = .ok (.int (i % j)) A := if_pos h
theorem o_fdiv {i j : Int} (h : 0 < j) (h2 : j < 1073741824) : fdivD (.int i) (.int j) A = .ok (.int (i / j)) A := if_pos ⟨h, h2⟩
theorem o_mulR {i j : Int} (h : -(2 ^ 64) < j) (h2 : j < 2 ^ 64) : mulD (.int i) (.int j) A = .ok (.int (i * j)) A := if_pos (.inr ⟨h, h2⟩)
@[simp] theorem o_eqI {i j : Int} : eqD (.int i) (.int j) A = .ok (.bl (i == j)) A := rfl
@[simp] theorem o_eqS {i j : Str} : eqD (.str i) (.str j) A = .ok (.bl (i == j)) A := rfl
@[simp] theorem o_neI {i j : Int} : neD (.int i) (.int j) A = .ok (.bl (!(i == j))) A := rfl
@[simp] theorem o_neS {i j : Str} : neD (.str i) (.str j) A = .ok (.bl (!(i == j))) A := rfl
@[simp] theorem o_is : isD d .non A = .ok (.bl (isNon d)) A := rfl
@[simp] theorem o_isnt : isntD d .non A = .ok (.bl (!isNon d)) A := rfl
/-- subscripts by kind -/
theorem ix_tup {i : Int} (h : atI ds i = some d) : ixD (.tup ds) (.int i) A = .ok d A := by
  unfold ixD
  simp only [dctD, itemsD, h]
theorem ix_lst {i : Int} (h : atI ds i = some d) : ixD (.lst ds) (.int i) A = .ok d A := by
  unfold ixD
  simp only [dctD, itemsD, seqL, h]
theorem ix_scr {ns : List Int} {i : Int} (h : atI (ns.map .int) i = some d) : ixD (.scr ns) (.int i) A = .ok d A := by
  unfold ixD
  simp only [dctD, itemsD, seqL, h]
theorem ix_ref {n : Nat} {i : Int} (hA : A[n]? = some (.lst ds)) (h : atI ds i = some d) : ixD (.ref n) (.int i) A = .ok d A := by
  unfold ixD
  simp only [dctD, itemsD, seqL, hA, h]
theorem ix_dctS {n : Nat} {z : Str} {kvs : List (Key × D)} (hA : A[n]? = some (.dct kvs)) (h : lkK kvs (.inr z) = some d) : ixD (.ref n) (.str z) A = .ok d A := by
  unfold ixD
  simp only [dctD, hA, keyD, Option.bind, h]
theorem atI_ok {α : Type} {xs : List α} {i : Nat} {v : α} (h : xs[i]? = some v) : atI xs (i : Int) = some v := by
  have hi := (List.getElem?_eq_some_iff.mp h).1
  unfold atI ixN
  rw [if_pos (by omega), if_pos (by omega)]
  simpa using h
theorem len_lst {n : Nat} (hA : A[n]? = some (.lst ds)) : lenD [.ref n] A = .ok (.int ds.length) A := by
  simp only [lenD, dctD, itemsD, seqL, hA]
@[simp] theorem len_scr {ns : List Int} : lenD [.scr ns] A = .ok (.int ns.length) A := by
  simp only [lenD, dctD, itemsD, seqL, List.length_map]
@[simp] theorem len_tup : lenD [.tup ds] A = .ok (.int ds.length) A := rfl
@[simp] theorem len_frz : lenD [.lst ds] A = .ok (.int ds.length) A := rfl
theorem st_lst {n : Nat} {i j : Nat} (hA : A[n]? = some (.lst ds)) (h : i < ds.length) : stSub (.ref n) (.int i) d A = some (A.set n (.lst (ds.set i d))) := by
  unfold stSub
  simp only [hA]
  have : ixN ds.length (i : Int) = some i := by
    unfold ixN
    rw [if_pos (by omega), if_pos (by omega)]
    simp
  rw [this]
theorem st_dct {n : Nat} {z : Str} {kvs : List (Key × D)} (hA : A[n]? = some (.dct kvs)) (h : kvs.length < 16777216) : stSub (.ref n) (.str z) d A = some (A.set n (.dct (ptK kvs (.inr z) d))) := by
  unfold stSub
  simp only [hA, keyD, if_pos h]
end
end Tg

set_option Elab.async false
set_option linter.all false
set_option maxRecDepth 100000
set_option maxHeartbeats 2000000
/-! TgTaken: the laws' own drawing. -/
namespace Tg
open PySem L2
section
variable {A : AH} {n : Nat} {d x : D} {i : Int} {ds : List D} {α : Type} {xs : List α} {p q r s : α}
theorem ix_int : ixD (.ref n) (.int i) A = match A[n]? with
  | some (.lst ds) => (match atI ds i with
    | some d => .ok d A
    | none => .bad)
  | some (.dct kvs) => (match lkK kvs (.inl i) with
    | some d => .ok d A
    | none => .bad)
  | _ => .bad := by
  unfold ixD
  simp only [dctD, itemsD, seqL, keyD, Option.bind]
  cases A[n]? with
  | none => rfl
  | some o => cases o <;> rfl
theorem ix_strU {z : Str} : ixD (.ref n) (.str z) A = match A[n]? with
  | some (.dct kvs) => (match lkK kvs (.inr z) with
    | some d => .ok d A
    | none => .bad)
  | _ => .bad := by
  unfold ixD
  simp only [dctD, itemsD, seqL, keyD, Option.bind]
  cases A[n]? with
  | none => rfl
  | some o => cases o <;> rfl
@[simp] theorem ix_frz : ixD (.lst ds) (.int i) A = match atI ds i with
  | some d => .ok d A
  | none => .bad := rfl
@[simp] theorem ix_tupU : ixD (.tup ds) (.int i) A = match atI ds i with
  | some d => .ok d A
  | none => .bad := rfl
@[simp] theorem ix_scrU {ns : List Int} : ixD (.scr ns) (.int i) A = match atI (ns.map D.int) i with
  | some d => .ok d A
  | none => .bad := rfl
theorem st_int : stSub (.ref n) (.int i) d A = match A[n]? with
  | some (.lst ds) => (match ixN ds.length i with
    | some j => some (A.set n (.lst (ds.set j d)))
    | none => none)
  | some (.dct kvs) => if kvs.length < 16777216 then some (A.set n (.dct (ptK kvs (.inl i) d))) else none
  | _ => none := by
  unfold stSub
  dsimp only [keyD]
  all_goals
    generalize A[n]? = w
    cases w with
    | none => rfl
    | some o => cases o <;> rfl
theorem st_str {z : Str} : stSub (.ref n) (.str z) d A = match A[n]? with
  | some (.dct kvs) => if kvs.length < 16777216 then some (A.set n (.dct (ptK kvs (.inr z) d))) else none
  | _ => none := by
  unfold stSub
  dsimp only [keyD]
  all_goals
    generalize A[n]? = w
    cases w with
    | none => rfl
    | some o => cases o <;> rfl
theorem len_ref : lenD [.ref n] A = match A[n]? with
  | some (.lst ds) => .ok (.int ds.length) A
  | some (.dct kvs) => .ok (.int kvs.length) A
  | _ => .bad := by
  simp only [lenD, dctD, itemsD, seqL]
  cases A[n]? with
  | none => rfl
  | some o => cases o <;> rfl
@[simp] theorem at0 : atI (p :: xs) 0 = some p := by
  unfold atI ixN
  simp
theorem atI_nat (j : Nat) : atI xs (j : Int) = xs[j]? := by
  unfold atI ixN
  rw [if_pos (by omega)]
  by_cases h : j < xs.length
  · rw [if_pos (by omega)]
    simp
  · rw [if_neg (by omega), List.getElem?_eq_none_iff.mpr (by omega)]
    rfl
@[simp] theorem at1 : atI (p :: q :: xs) 1 = some q := atI_nat 1
@[simp] theorem at2 : atI (p :: q :: r :: xs) 2 = some r := atI_nat 2
@[simp] theorem at3 : atI (p :: q :: r :: s :: xs) 3 = some s := atI_nat 3
theorem atI_pos (h : 0 ≤ i) : atI xs i = xs[i.toNat]? := by
  have := atI_nat (xs := xs) i.toNat
  rwa [Int.toNat_of_nonneg h] at this
end
def b_taken : MS :=
  (mSeq (mIfS (mTb (mBin gtD (mBin ixD (mv 0) (mc (.int (3)))) (mc (.int (0))))) (mSeq (mAsg (mBin modD (mBin ixD (mv 0) (mc (.int (3)))) (mv 1)) (gmN 2))
  (mSeq (mSubS (mv 0) (mc (.int (3))) (mBin fdivD (mBin ixD (mv 0) (mc (.int (3)))) (mv 1)))
  (mRet (mv 2)))) mNx)
  (mSeq (mSubS (mv 0) (mc (.int (1))) (mBin addD (mBin ixD (mv 0) (mc (.int (1)))) (mc (.int (1)))))
  (mSeq (mIfS (mTb (mBin gtD (mBin ixD (mv 0) (mc (.int (1)))) (mCall lenD (mCons (mBin ixD (mv 0) (mc (.int (0)))) mNil)))) (mSeq (mSubS (mv 0) (mc (.int (2))) (mBin modD (mBin addD (mBin mulD (mBin ixD (mv 0) (mc (.int (2)))) (mc (.int (48271)))) (mc (.int (11)))) (mc (.int (2147483647)))))
  (mRet (mBin modD (mBin fdivD (mBin ixD (mv 0) (mc (.int (2)))) (mc (.int (7)))) (mv 1)))) mNx)
  (mSeq (mAsg (mBin ixD (mBin ixD (mv 0) (mc (.int (0)))) (mBin subD (mBin ixD (mv 0) (mc (.int (1)))) (mc (.int (1))))) (gmN 3))
  (mSeq (mSubS (mv 0) (mc (.int (2))) (mBin modD (mBin addD (mBin addD (mBin mulD (mBin ixD (mv 0) (mc (.int (2)))) (mc (.int (48271)))) (mv 3)) (mc (.int (11)))) (mc (.int (2147483647)))))
  (mSeq (mIfS (mTb (mBin geD (mv 3) (mBin powD (mc (.int (10))) (mc (.int (18)))))) (mSubS (mv 0) (mc (.int (3))) (mBin fdivD (mv 3) (mv 1))) mNx)
  (mRet (mBin modD (mv 3) (mv 1)))))))))
def m_taken : List D → AH → R D := mFun 2 4 b_taken
def rowO (ns : List Int) (a b c : Int) : AO := .lst [.scr ns, .int a, .int b, .int c]
theorem taken_ok {A : AH} {r : Nat} {ns : List Int} {a b c many : Int} (hA : A[r]? = some (rowO ns a b c)) (ha : 0 ≤ a) (hm : 0 < many) (hm2 : many < 1073741824) :
    ∃ v a' b' c', m_taken [.ref r, .int many] A = .ok (.int v) (A.set r (rowO ns a' b' c')) ∧ 0 ≤ v ∧ v < many ∧ 0 ≤ a' := by
  have hr : r < A.length := (List.getElem?_eq_some_iff.mp hA).1
  have hA' : A[r]? = some (.lst [.scr ns, .int a, .int b, .int c]) := hA
  have vm : ∀ z : Int, 0 ≤ z % many ∧ z % many < many := fun z => ⟨Int.emod_nonneg _ (by omega), Int.emod_lt_of_pos _ hm⟩
  have p18 : powD (.int 10) (.int 18) = fun A => .ok (.int 1000000000000000000) A := by
    funext A
    unfold powD
    simp
  have e0 : m_taken [.ref r, .int many] A = finS (b_taken [some (.ref r), some (.int many), none, none] A) := rfl
  rw [e0]
  have hs : ∀ x, (A.set r x)[r]? = some x := fun x => List.getElem?_set_self hr
  by_cases h3 : 0 < c
  · refine ⟨c % many, a, b, c / many, ?_, (vm c).1, (vm c).2, ha⟩
    simp [b_taken, len_ref, ix_int, st_int, hA', h3, o_mod hm, o_fdiv hm hm2, ixN, rowO]
  · by_cases h1 : (ns.length : Int) < a + 1
    · refine ⟨(b * 48271 + 11) % 2147483647 / 7 % many, a + 1, (b * 48271 + 11) % 2147483647, c, ?_, (vm _).1, (vm _).2, by omega⟩
      simp [b_taken, len_ref, ix_int, st_int, hA', h3, o_mod hm, o_fdiv, o_mod, o_mulR, ixN, rowO, hs, h1]
    · have hx : ∃ z, ns[a.toNat]? = some z := ⟨_, List.getElem?_eq_getElem (by omega)⟩
      obtain ⟨z, hz⟩ := hx
      have hz2 : atI (ns.map D.int) a = some (.int z) := by
        rw [atI_pos ha, List.getElem?_map, hz]
        rfl
      by_cases h18 : 1000000000000000000 ≤ z
      · refine ⟨z % many, a + 1, (b * 48271 + z + 11) % 2147483647, z / many, ?_, (vm _).1, (vm _).2, by omega⟩
        simp [b_taken, len_ref, ix_int, st_int, hA', h3, o_mod hm, o_fdiv hm hm2, o_mod, o_mulR, ixN, rowO, hs, h1, hz2, p18, h18]
      · refine ⟨z % many, a + 1, (b * 48271 + z + 11) % 2147483647, c, ?_, (vm _).1, (vm _).2, by omega⟩
        simp [b_taken, len_ref, ix_int, st_int, hA', h3, o_mod hm, o_fdiv hm hm2, o_mod, o_mulR, ixN, rowO, hs, h1, hz2, p18, h18]
end Tg

set_option Elab.async false
set_option linter.all false
set_option maxRecDepth 100000
set_option maxHeartbeats 2000000
/-! TgRun: more simp rules that run mirrors: heaps told at their end, fields, methods, texts. -/
namespace Tg
open PySem L2
theorem ofS_ne {a b : String} (h : a ≠ b) : Str.ofString a ≠ Str.ofString b := fun e => h (ofString_inj.mp e)
@[simp] theorem ofS_eq {a b : String} : (Str.ofString a = Str.ofString b) = (a = b) := propext ofString_inj
@[simp] theorem ofS_beq {a b : String} : (Str.ofString a == Str.ofString b) = decide (a = b) := by
  by_cases h : a = b
  · subst h
    simp
  · rw [decide_eq_false h]
    exact beq_eq_false_iff_ne.mpr (ofS_ne h)
section
variable {A0 A l : AH} {k n : Nat} {x d : D} {o : AO} {ds es : List D} {s : Sl} {ma : MA} {a : ME} {c m f : Str} {g : List D → AH → R D}
@[simp] theorem h_get : (A0 ++ l)[A0.length + k]? = l[k]? := by
  rw [List.getElem?_append_right (Nat.le_add_right _ _), Nat.add_sub_cancel_left]
@[simp] theorem h_get0 : (A0 ++ l)[A0.length]? = l[0]? := by
  rw [List.getElem?_append_right (Nat.le_refl _), Nat.sub_self]
@[simp] theorem h_set : (A0 ++ l).set (A0.length + k) o = A0 ++ l.set k o := by
  rw [List.set_append_right _ _ (Nat.le_add_right _ _), Nat.add_sub_cancel_left]
@[simp] theorem h_set0 : (A0 ++ l).set A0.length o = A0 ++ l.set 0 o := by
  rw [List.set_append_right _ _ (Nat.le_refl _), Nat.sub_self]
theorem fld_ref {cs : List Str} : fldD cs f (.ref n) A = match A[n]? with
  | some (.ins c fs) => (if c ∈ cs then (match fs.lookup f with
    | some d => .ok d A
    | none => .bad) else .bad)
  | _ => .bad := rfl
theorem sfld_ref {cs : List Str} : stFld cs f (.ref n) d A = match A[n]? with
  | some (.ins c fs) => if c ∈ cs ∧ fs.length < 1000 then some (A.set n (.ins c (putFD f d fs))) else none
  | _ => none := rfl
theorem app_ref : appD (.ref n) [d] A = match A[n]? with
  | some (.lst es) => if es.length < 16777216 then .ok .non (A.set n (.lst (es ++ [d]))) else .bad
  | _ => .bad := rfl
@[simp] theorem ty_list : tyMD A "list" d = (seqL A d).isSome := rfl
@[simp] theorem ty_dict : tyMD A "dict" d = (dctD A d).isSome := rfl
theorem seq_ref : seqL A (.ref n) = match A[n]? with
  | some (.lst ds) => some ds
  | _ => none := rfl
theorem dct_ref : dctD A (.ref n) = match A[n]? with
  | some (.dct kvs) => some kvs
  | _ => none := rfl
theorem in_flat {z : D} (h1 : flatD z = true) (h2 : ds.all flatD = true) : inD z (.tup ds) A = .ok (.bl (ds.any fun y => feq y z)) A := by
  have : inB z (.tup ds) A = some (ds.any fun y => feq y z) := by
    cases z <;> first
      | (cases (show false = true from h1))
      | (simp only [inB, dctD, itemsD, h2, flatD, Bool.and_true, if_true])
  unfold inD
  rw [this]
theorem nin_flat {z : D} (h1 : flatD z = true) (h2 : ds.all flatD = true) : ninD z (.tup ds) A = .ok (.bl (!(ds.any fun y => feq y z))) A := by
  have : inB z (.tup ds) A = some (ds.any fun y => feq y z) := by
    cases z <;> first
      | (cases (show false = true from h1))
      | (simp only [inB, dctD, itemsD, h2, flatD, Bool.and_true, if_true])
  unfold ninD
  rw [this]
@[simp] theorem flat_str {z : Str} : flatD (.str z) = true := rfl
@[simp] theorem flat_int {i : Int} : flatD (.int i) = true := rfl
@[simp] theorem feq_str {y z : Str} : feq (.str y) (.str z) = (y == z) := rfl
@[simp] theorem feq_int {y z : Int} : feq (.int y) (.int z) = (y == z) := rfl
theorem in_str {z : Str} (h2 : ds.all flatD = true) : inD (.str z) (.tup ds) A = .ok (.bl (ds.any fun y => feq y (.str z))) A := in_flat rfl h2
theorem nin_str {z : Str} (h2 : ds.all flatD = true) : ninD (.str z) (.tup ds) A = .ok (.bl (!(ds.any fun y => feq y (.str z)))) A := nin_flat rfl h2
end
/-! ### loops -/
section
variable {c : MT} {b : MS} {g : MG} {tt : MT} {te : ME} {mi : Sl → AH → R IT} {vs : List Nat} {f : Nat} {s s2 : Sl} {A A1 A2 : AH} {ds : List D}
theorem wh_true (h : c s A = .ok true A1) (h2 : b s A1 = .nx s2 A2) : whG c b (f + 1) s A = whG c b f s2 A2 := by
  conv => lhs; unfold whG
  rw [h]
  simp only [R.thenS_ok, if_true, h2]
theorem wh_false (h : c s A = .ok false A1) : whG c b (f + 1) s A = .nx s A1 := by
  conv => lhs; unfold whG
  rw [h]
  simp
theorem mLc_of {fin : List D → AH → R D} {it : List D} (h0 : mi s A = .ok (.data it) A1) (hl : it.length < 16777216) : mLc mi g tt te vs fin s A = (lcL g tt te (wpD s vs) it A1).bind fin := by
  unfold mLc
  rw [h0]
  show (if it.length < 16777216 then (lcG g tt te (.data it) (wpD s vs) (it.length + 1) 0 A1).bind fin else .bad) = _
  rw [if_pos hl, lcG_data g tt te it (wpD s vs) _ _ _ (Nat.zero_add _), if_neg (Nat.succ_ne_zero _), List.drop_zero]
theorem lcL_pure {w : Sl} (p : D → Bool) (q : D → D) : ∀ {ds : List D}, (∀ d ∈ ds, ∃ s1, g d w = some s1 ∧ tt s1 A = .ok (p d) A ∧ (p d = true → te s1 A = .ok (q d) A)) → lcL g tt te w ds A = .ok ((ds.filter p).map q) A
  | [], _ => rfl
  | d :: ds, h => by
    obtain ⟨s1, h1, h2, h3⟩ := h d List.mem_cons_self
    have ih := lcL_pure (ds := ds) p q fun e he => h e (List.mem_cons_of_mem _ he)
    unfold lcL
    simp only [h1, h2, R.bindN_ok]
    cases hp : p d with
    | true =>
      simp only [if_true, h3 hp, R.bindN_ok, ih, R.bind_ok, List.filter_cons, hp, List.map_cons]
    | false =>
      simp [ih, List.filter_cons, hp]
theorem lc_pure (p : D → Bool) (q : D → D) (h0 : mi s A = .ok (.data ds) A) (hl : ds.length < 16777216) (h : ∀ d ∈ ds, ∃ s1, g d (wpD s vs) = some s1 ∧ tt s1 A = .ok (p d) A ∧ (p d = true → te s1 A = .ok (q d) A)) :
    mLc mi g tt te vs finF s A = .ok (.lst ((ds.filter p).map q)) A := by
  rw [mLc_of h0 hl, lcL_pure p q h]
  rfl
theorem lcL_gen {w : Sl} (I : AH → Prop) (P : D → Prop) : ∀ {ds : List D} {A : AH}, I A → (∀ d ∈ ds, ∀ A, I A → ∃ s1 v A2, g d w = some s1 ∧ tt s1 A = .ok true A ∧ te s1 A = .ok v A2 ∧ I A2 ∧ P v) →
    ∃ ys A', lcL g tt te w ds A = .ok ys A' ∧ I A' ∧ ys.length = ds.length ∧ ∀ y ∈ ys, P y
  | [], A, hI, _ => ⟨[], A, rfl, hI, rfl, fun _ h => nomatch h⟩
  | d :: ds, A, hI, h => by
    obtain ⟨s1, v, A2, h1, h2, h3, h4, h5⟩ := h d List.mem_cons_self A hI
    obtain ⟨ys, A', e1, e2, e3, e4⟩ := lcL_gen (ds := ds) I P h4 fun e he => h e (List.mem_cons_of_mem _ he)
    refine ⟨v :: ys, A', ?_, e2, by rw [List.length_cons, List.length_cons, e3], fun y hy => ?_⟩
    · unfold lcL
      simp only [h1, h2, R.bindN_ok, if_true, h3, e1, R.bind_ok]
    · rcases List.mem_cons.mp hy with rfl | hy
      · exact h5
      · exact e4 y hy
theorem lc_gen (I : AH → Prop) (P : D → Prop) (h0 : mi s A = .ok (.data ds) A1) (hl : ds.length < 16777216) (hI : I A1) (h : ∀ d ∈ ds, ∀ A, I A → ∃ s1 v A2, g d (wpD s vs) = some s1 ∧ tt s1 A = .ok true A ∧ te s1 A = .ok v A2 ∧ I A2 ∧ P v) :
    ∃ ys A', mLc mi g tt te vs finF s A = .ok (.lst ys) A' ∧ I A' ∧ ys.length = ds.length ∧ ∀ y ∈ ys, P y := by
  obtain ⟨ys, A', e1, e2⟩ := lcL_gen (w := wpD s vs) I P hI h
  refine ⟨ys, A', ?_, e2⟩
  rw [mLc_of h0 hl, e1]
  rfl
theorem forL_inv (I : Sl → AH → Prop) : ∀ {ds : List D} {s : Sl} {A : AH}, I s A → (∀ d ∈ ds, ∀ s A, I s A → ∃ s1 s2 A2, g d s = some s1 ∧ b s1 A = .nx s2 A2 ∧ I s2 A2) → ∃ s' A', forL g b ds s A = .nx s' A' ∧ I s' A'
  | [], s, A, hI, _ => ⟨s, A, rfl, hI⟩
  | d :: ds, s, A, hI, h => by
    obtain ⟨s1, s2, A2, h1, h2, h3⟩ := h d List.mem_cons_self s A hI
    obtain ⟨s', A', e1, e2⟩ := forL_inv (ds := ds) I h3 fun e he => h e (List.mem_cons_of_mem _ he)
    refine ⟨s', A', ?_, e2⟩
    unfold forL
    simp only [h1, h2, e1]
end
theorem rngX {ma : MA} {j : Int} {s : Sl} {A A1 : AH} (h : ma s A = .ok [.int j] A1) (h1 : -(2 ^ 62) ≤ j ∧ j < 2 ^ 62) : mRng1 ma s A = .ok (.data (rngL 0 1 j.toNat)) A1 := by
  unfold mRng1
  rw [h]
  simp only [R.bind_ok]
  rw [if_pos h1]
theorem rngY {j : Nat} : rngL 0 1 (j : Int).toNat = (List.range j).map fun i : Nat => D.int (i : Int) := by
  unfold rngL
  rw [Int.toNat_natCast]
  simp only [Int.mul_one, Int.zero_add]
theorem rngZ {j : Nat} (h : j < 16777216) : -(2 ^ 62) ≤ (j : Int) ∧ (j : Int) < 2 ^ 62 := ⟨by omega, by omega⟩
theorem rng1 {ma : MA} {j : Nat} {s : Sl} {A A1 : AH} (h : ma s A = .ok [.int (j : Int)] A1) (hj : j < 16777216) : mRng1 ma s A = .ok (.data ((List.range j).map fun i : Nat => D.int (i : Int))) A1 := by
  rw [← rngY]
  exact rngX h (rngZ hj)
/-! ### comprehensions by frames -/
def kFin (fin : List D → AH → R D) (r : R (List D)) : R D := r.bind fin
@[simp] theorem kFin_0 (fin : List D → AH → R D) (ds : List D) (A : AH) : kFin fin (.ok ds A) = fin ds A := rfl
def kL3 (y : D) (r : R (List D)) : R (List D) := r.bind fun ys A3 => .ok (y :: ys) A3
@[simp] theorem kL3_0 (y : D) (ys : List D) (A : AH) : kL3 y (.ok ys A) = .ok (y :: ys) A := rfl
def kL2 (g : MG) (tt : MT) (te : ME) (w : Sl) (ds : List D) (r : R D) : R (List D) := r.bindN fun y A2 => kL3 y (lcL g tt te w ds A2)
@[simp] theorem kL2_0 (g : MG) (tt : MT) (te : ME) (w : Sl) (ds : List D) (y : D) (A : AH) : kL2 g tt te w ds (.ok y A) = kL3 y (lcL g tt te w ds A) := rfl
def kL1 (g : MG) (tt : MT) (te : ME) (w : Sl) (ds : List D) (s1 : Sl) (r : R Bool) : R (List D) := r.bindN fun k A1 => if k then kL2 g tt te w ds (te s1 A1) else lcL g tt te w ds A1
@[simp] theorem kL1_0 (g : MG) (tt : MT) (te : ME) (w : Sl) (ds : List D) (s1 : Sl) (A : AH) : kL1 g tt te w ds s1 (.ok true A) = kL2 g tt te w ds (te s1 A) := rfl
@[simp] theorem kL1_1 (g : MG) (tt : MT) (te : ME) (w : Sl) (ds : List D) (s1 : Sl) (A : AH) : kL1 g tt te w ds s1 (.ok false A) = lcL g tt te w ds A := rfl
@[simp] theorem lcL_nil (g : MG) (tt : MT) (te : ME) (w : Sl) (A : AH) : lcL g tt te w [] A = .ok [] A := rfl
@[simp] theorem lcL_cons (i : Nat) (tt : MT) (te : ME) (w : Sl) (d : D) (ds : List D) (A : AH) : lcL (gmN i) tt te w (d :: ds) A = kL1 (gmN i) tt te w ds (w.set i (some d)) (tt (w.set i (some d)) A) := rfl
def kLc (g : MG) (tt : MT) (te : ME) (vs : List Nat) (fin : List D → AH → R D) (s : Sl) (r : R IT) : R D := r.bind fun it A1 => if itLen it A1 < 16777216 then (lcG g tt te it (wpD s vs) (itLen it A1 + 1) 0 A1).bind fin else .bad
@[simp] theorem e_lc {mi : Sl → AH → R IT} {g : MG} {tt : MT} {te : ME} {vs : List Nat} {fin : List D → AH → R D} {s : Sl} {A : AH} : mLc mi g tt te vs fin s A = kLc g tt te vs fin s (mi s A) := rfl
@[simp] theorem kLc_0 (g : MG) (tt : MT) (te : ME) (vs : List Nat) (fin : List D → AH → R D) (s : Sl) (it : List D) (A : AH) : kLc g tt te vs fin s (.ok (.data it) A) = if it.length < 16777216 then kFin fin (lcL g tt te (wpD s vs) it A) else .bad := by
  show (if it.length < 16777216 then (lcG g tt te (.data it) (wpD s vs) (it.length + 1) 0 A).bind fin else .bad) = _
  rw [lcG_data g tt te it (wpD s vs) _ _ _ (Nat.zero_add _), if_neg (Nat.succ_ne_zero _), List.drop_zero]
  rfl
@[simp] theorem finF_0 (ds : List D) (A : AH) : finF ds A = .ok (.lst ds) A := rfl
@[simp] theorem wp_nil (s : Sl) : wpD s [] = s := rfl
@[simp] theorem wp_cons (s : Sl) (v : Nat) (vs : List Nat) : wpD s (v :: vs) = (wpD s vs).set v none := rfl
def kR1 (r : R (List D)) : R IT := r.bind fun ds A1 => match ds with
  | [.int j] => if -(2 ^ 62) ≤ j ∧ j < 2 ^ 62 then .ok (.data (rngL 0 1 j.toNat)) A1 else .bad
  | _ => .bad
@[simp] theorem e_rng1 {ma : MA} {s : Sl} {A : AH} : mRng1 ma s A = kR1 (ma s A) := rfl
theorem kR1_nat (j : Nat) (A : AH) (h : j < 16777216) : kR1 (.ok [.int (j : Int)] A) = .ok (.data ((List.range j).map fun i : Nat => D.int (i : Int))) A := by
  have := rng1 (ma := fun _ A => .ok [.int (j : Int)] A) (s := []) (A := A) (A1 := A) rfl h
  exact this
theorem kR1_0 (A : AH) : kR1 (.ok [.int 0] A) = .ok (.data []) A := kR1_nat 0 A (by decide)
theorem kR1_1 (A : AH) : kR1 (.ok [.int 1] A) = .ok (.data [.int 0]) A := kR1_nat 1 A (by decide)
theorem kR1_2 (A : AH) : kR1 (.ok [.int 2] A) = .ok (.data [.int 0, .int 1]) A := kR1_nat 2 A (by decide)
theorem kR1_3 (A : AH) : kR1 (.ok [.int 3] A) = .ok (.data [.int 0, .int 1, .int 2]) A := kR1_nat 3 A (by decide)
def kIt (r : R D) : R IT := r.bind itOf
@[simp] theorem e_any {m : ME} {s : Sl} {A : AH} : miAny m s A = kIt (m s A) := rfl
@[simp] theorem kIt_tup (ds : List D) (A : AH) : kIt (.ok (.tup ds) A) = .ok (.data ds) A := rfl
@[simp] theorem kIt_lst (ds : List D) (A : AH) : kIt (.ok (.lst ds) A) = .ok (.data ds) A := rfl
theorem ix_ofS {z : Str} {i : Int} {c : Nat} {A : AH} (h : z.length ≤ 16777216) (h2 : atI z.cps.toList i = some c) : ixD (.str z) (.int i) A = .ok (.str ⟨#[c]⟩) A := by
  show (match (if z.length ≤ 16777216 then atI z.cps.toList i else none) with
    | some c => R.ok (D.str ⟨#[c]⟩) A
    | none => .bad) = _
  rw [if_pos h, h2]
/-! ### == of flat tuples and lists -/
def okF : D → Bool
  | .int _ => true
  | .str z => PyData.strOk z
  | _ => false
def pyF : D → PyData
  | .int i => .int i
  | .str z => .str z
  | _ => .none
def feqs : List D → List D → Bool
  | [], [] => true
  | x :: xs, y :: ys => feq x y && feqs xs ys
  | _, _ => false
theorem pys_flat {n : Nat} {A : AH} : ∀ {ds : List D}, ds.all okF = true → pysOf (pyOf (n + 1) A) ds = some (ds.map pyF) ∧ PyData.canLayAll0 (ds.map pyF) = true ∧ PyData.depthAll (ds.map pyF) = 0
  | [], _ => ⟨rfl, by simp [PyData.canLayAll0], by simp [PyData.depthAll]⟩
  | d :: ds, h => by
    simp only [List.all_cons, Bool.and_eq_true] at h
    obtain ⟨i1, i2, i3⟩ := pys_flat (n := n) (A := A) h.2
    unfold pysOf
    cases d with
    | int i => exact ⟨by rw [i1]; rfl, by simp [PyData.canLayAll0, PyData.canLay0, pyF, i2], by simp [PyData.depthAll, PyData.depth, pyF, i3]⟩
    | str z =>
      have hz : PyData.strOk z = true := h.1
      exact ⟨by rw [i1]; rfl, by simp [PyData.canLayAll0, PyData.canLay0, pyF, i2, hz], by simp [PyData.depthAll, PyData.depth, pyF, i3]⟩
    | _ => cases (show false = true from h.1)
theorem eqv_flat : ∀ {ds es : List D}, ds.all okF = true → es.all okF = true → PyData.eqvAll (ds.map pyF) (es.map pyF) = feqs ds es
  | [], [], _, _ => by simp [PyData.eqvAll, feqs]
  | [], _ :: _, _, _ => by simp [PyData.eqvAll, feqs]
  | _ :: _, [], _, _ => by simp [PyData.eqvAll, feqs]
  | d :: ds, e :: es, h1, h2 => by
    simp only [List.all_cons, Bool.and_eq_true] at h1 h2
    have ih := eqv_flat h1.2 h2.2
    simp only [List.map_cons, PyData.eqvAll, feqs, ih]
    cases d <;> first
      | (cases (show false = true from h1.1))
      | (cases e <;> first
          | (cases (show false = true from h2.1))
          | (simp [PyData.eqv, pyF, feq]))
theorem shaped_tup {ds : List D} (h : PyData.canLayAll0 (ds.map pyF) = true) (h2 : PyData.depthAll (ds.map pyF) = 0) : SeqAt.shaped (.tuple (ds.map pyF)) = true := by
  simp [SeqAt.shaped, PyData.canLay0, PyData.depth, h, h2]
theorem shaped_lst {ds : List D} (h : PyData.canLayAll0 (ds.map pyF) = true) (h2 : PyData.depthAll (ds.map pyF) = 0) : SeqAt.shaped (.list (ds.map pyF)) = true := by
  simp [SeqAt.shaped, PyData.canLay0, PyData.depth, h, h2]
theorem eq_tupF {ds es : List D} {A : AH} (h : (ds.all okF && es.all okF) = true) : eqD (.tup ds) (.tup es) A = .ok (.bl (feqs ds es)) A := by
  obtain ⟨h1, h2⟩ := Bool.and_eq_true_iff.mp h
  obtain ⟨a1, a2, a3⟩ := pys_flat (n := 10) (A := A) h1
  obtain ⟨b1, b2, b3⟩ := pys_flat (n := 10) (A := A) h2
  have e1 : pyOf 12 A (.tup ds) = some (.tuple (ds.map pyF)) := by
    show (pysOf (pyOf 11 A) ds).map PyData.tuple = _
    rw [a1]
    rfl
  have e2 : pyOf 12 A (.tup es) = some (.tuple (es.map pyF)) := by
    show (pysOf (pyOf 11 A) es).map PyData.tuple = _
    rw [b1]
    rfl
  unfold eqD
  rw [e1, e2, show scEq (.tup ds) (.tup es) = none from rfl]
  simp only [shaped_tup a2 a3, shaped_tup b2 b3, Bool.and_self, if_true, PyData.eqv, eqv_flat h1 h2]
theorem eq_lstF {ds es : List D} {A : AH} (h : (ds.all okF && es.all okF) = true) : eqD (.lst ds) (.lst es) A = .ok (.bl (feqs ds es)) A := by
  obtain ⟨h1, h2⟩ := Bool.and_eq_true_iff.mp h
  obtain ⟨a1, a2, a3⟩ := pys_flat (n := 10) (A := A) h1
  obtain ⟨b1, b2, b3⟩ := pys_flat (n := 10) (A := A) h2
  have e1 : pyOf 12 A (.lst ds) = some (.list (ds.map pyF)) := by
    show (pysOf (pyOf 11 A) ds).map PyData.list = _
    rw [a1]
    rfl
  have e2 : pyOf 12 A (.lst es) = some (.list (es.map pyF)) := by
    show (pysOf (pyOf 11 A) es).map PyData.list = _
    rw [b1]
    rfl
  unfold eqD
  rw [e1, e2, show scEq (.lst ds) (.lst es) = none from rfl]
  simp only [shaped_lst a2 a3, shaped_lst b2 b3, Bool.and_self, if_true, PyData.eqv, eqv_flat h1 h2]
theorem ne_lstF {ds es : List D} {A : AH} (h : (ds.all okF && es.all okF) = true) : neD (.lst ds) (.lst es) A = .ok (.bl (!(feqs ds es))) A := by
  obtain ⟨h1, h2⟩ := Bool.and_eq_true_iff.mp h
  obtain ⟨a1, a2, a3⟩ := pys_flat (n := 10) (A := A) h1
  obtain ⟨b1, b2, b3⟩ := pys_flat (n := 10) (A := A) h2
  have e1 : pyOf 12 A (.lst ds) = some (.list (ds.map pyF)) := by
    show (pysOf (pyOf 11 A) ds).map PyData.list = _
    rw [a1]
    rfl
  have e2 : pyOf 12 A (.lst es) = some (.list (es.map pyF)) := by
    show (pysOf (pyOf 11 A) es).map PyData.list = _
    rw [b1]
    rfl
  unfold neD
  rw [e1, e2, show scEq (.lst ds) (.lst es) = none from rfl]
  simp only [shaped_lst a2 a3, shaped_lst b2 b3, Bool.and_self, if_true, PyData.eqv, eqv_flat h1 h2]
theorem feqs_ints (ns : List Int) : feqs (ns.map .int) (ns.map .int) = true := by
  induction ns with
  | nil => rfl
  | cons n ns ih => simp [feqs, ih]
theorem ok_ints (ns : List Int) : (ns.map D.int).all okF = true := by
  induction ns with
  | nil => rfl
  | cons n ns ih => simp [okF] at ih ⊢
theorem pys_tups {A : AH} : ∀ {dss : List (List D)}, (∀ ds ∈ dss, ds.all okF = true) → ∃ ps, pysOf (pyOf 11 A) (dss.map D.tup) = some ps ∧ PyData.canLayAll0 ps = true ∧ PyData.depthAll ps ≤ 1 ∧ ps.length = dss.length
  | [], _ => ⟨[], rfl, by simp [PyData.canLayAll0], by simp [PyData.depthAll], rfl⟩
  | ds :: dss, h => by
    obtain ⟨a1, a2, a3⟩ := pys_flat (n := 9) (A := A) (h ds List.mem_cons_self)
    obtain ⟨ps, b1, b2, b3, b4⟩ := pys_tups (A := A) (dss := dss) fun e he => h e (List.mem_cons_of_mem _ he)
    have e : pyOf 11 A (.tup ds) = some (.tuple (ds.map pyF)) := by
      show (pysOf (pyOf 10 A) ds).map PyData.tuple = _
      rw [a1]
      rfl
    refine ⟨.tuple (ds.map pyF) :: ps, ?_, by simp [PyData.canLayAll0, PyData.canLay0, a2, b2], ?_, by simp [b4]⟩
    · rw [List.map_cons]
      unfold pysOf
      rw [e, b1]
    · simp only [PyData.depthAll, PyData.depth, a3]
      omega
theorem eq_tups_nil {A : AH} {dss : List (List D)} (h : ∀ ds ∈ dss, ds.all okF = true) (h0 : dss ≠ []) : eqD (.tup (dss.map D.tup)) (.tup []) A = .ok (.bl false) A := by
  obtain ⟨ps, b1, b2, b3, b4⟩ := pys_tups (A := A) h
  have e1 : pyOf 12 A (.tup (dss.map D.tup)) = some (.tuple ps) := by
    show (pysOf (pyOf 11 A) (dss.map D.tup)).map PyData.tuple = _
    rw [b1]
    rfl
  have e2 : pyOf 12 A (.tup []) = some (.tuple []) := rfl
  unfold eqD
  rw [e1, e2, show scEq (.tup (dss.map D.tup)) (.tup []) = none from rfl]
  have s1 : SeqAt.shaped (.tuple ps) = true := by
    have hd : PyData.depth (.tuple ps) ≤ 64 := by
      simp only [PyData.depth]
      omega
    unfold SeqAt.shaped
    rw [decide_eq_true hd]
    simp [PyData.canLay0, b2]
  have s2 : SeqAt.shaped (.tuple []) = true := by simp [SeqAt.shaped, PyData.canLay0, PyData.depth, PyData.canLayAll0, PyData.depthAll]
  have s3 : PyData.eqv (.tuple ps) (.tuple []) = false := by
    cases ps with
    | nil =>
      cases dss with
      | nil => exact absurd rfl h0
      | cons _ _ => cases b4
    | cons p ps => simp [PyData.eqv, PyData.eqvAll]
  simp only [s1, s2, s3, Bool.and_self, if_true]
end Tg

set_option Elab.async false
set_option linter.all false
set_option maxRecDepth 100000
set_option maxHeartbeats 2000000
/-! TgLaw: what the laws share: drawing, likeness. -/
namespace Tg
open PySem L2
@[simp] theorem isi_int {T : String} {i : Int} {A : AH} : isiD T (.int i) A = .ok (.bl (subTy "int" T)) A := rfl
@[simp] theorem isi_str {T : String} {i : Str} {A : AH} : isiD T (.str i) A = .ok (.bl (subTy "str" T)) A := rfl
@[simp] theorem isi_tup {T : String} {i : List D} {A : AH} : isiD T (.tup i) A = .ok (.bl (subTy "tuple" T)) A := rfl
@[simp] theorem isi_lst {T : String} {i : List D} {A : AH} : isiD T (.lst i) A = .ok (.bl (subTy "list" T)) A := rfl
@[simp] theorem isi_non {T : String} {A : AH} : isiD T .non A = .ok (.bl (subTy "NoneType" T)) A := rfl
@[simp] theorem isi_bl {T : String} {b : Bool} {A : AH} : isiD T (.bl b) A = .ok (.bl (subTy "bool" T)) A := rfl
@[simp] theorem o_neB {a b : Bool} {A : AH} : neD (.bl a) (.bl b) A = .ok (.bl (!(a == b))) A := by cases a <;> cases b <;> rfl
@[simp] theorem o_eqB {a b : Bool} {A : AH} : eqD (.bl a) (.bl b) A = .ok (.bl (a == b)) A := by cases a <;> cases b <;> rfl
@[simp] theorem int_bl {b : Bool} {A : AH} : intD [.bl b] A = .ok (.int (if b then 1 else 0)) A := rfl
def RowAt (r : Nat) (ns : List Int) (A : AH) : Prop := ∃ a b c, A[r]? = some (rowO ns a b c) ∧ 0 ≤ a
theorem takenR {r : Nat} {ns : List Int} {A : AH} (many : Int) (h : RowAt r ns A) (hm : 0 < many ∧ many < 1073741824) : ∃ v A', m_taken [.ref r, .int many] A = .ok (.int v) A' ∧ RowAt r ns A' ∧ 0 ≤ v ∧ v < many := by
  obtain ⟨a, b, c, hA, ha⟩ := h
  obtain ⟨v, a', b', c', e, h1, h2, h3⟩ := taken_ok hA ha hm.1 hm.2
  have hr := (List.getElem?_eq_some_iff.mp hA).1
  exact ⟨v, _, e, ⟨a', b', c', List.getElem?_set_self hr, h3⟩, h1, h2⟩
/-- .. with things laid behind -/
theorem takenApp {r : Nat} {ns : List Int} {A : AH} (many : Int) (l : AH) (h : RowAt r ns A) (hm : 0 < many ∧ many < 1073741824) : ∃ (v : Nat) (A' : AH), m_taken [.ref r, .int many] (A ++ l) = .ok (.int (v : Int)) (A' ++ l) ∧ RowAt r ns A' ∧ A'.length = A.length ∧ (v : Int) < many := by
  obtain ⟨a, b, c, hA, ha⟩ := h
  have hr := (List.getElem?_eq_some_iff.mp hA).1
  obtain ⟨v, a', b', c', e, h1, h2, h3⟩ := taken_ok (A := A ++ l) (by rw [List.getElem?_append_left hr]; exact hA) ha hm.1 hm.2
  rw [List.set_append_left _ _ hr] at e
  obtain ⟨n, rfl⟩ := Int.eq_ofNat_of_zero_le h1
  exact ⟨n, _, e, ⟨a', b', c', List.getElem?_set_self hr, h3⟩, List.length_set, h2⟩
theorem RowAt.app {r : Nat} {ns : List Int} {A : AH} (h : RowAt r ns A) (l : AH) : RowAt r ns (A ++ l) := by
  obtain ⟨a, b, c, hA, ha⟩ := h
  exact ⟨a, b, c, by rw [List.getElem?_append_left (List.getElem?_eq_some_iff.mp hA).1]; exact hA, ha⟩
theorem RowAt.set {r n : Nat} {ns : List Int} {A : AH} {o : AO} (h : RowAt r ns A) (hn : n ≠ r) : RowAt r ns (A.set n o) := by
  obtain ⟨a, b, c, hA, ha⟩ := h
  exact ⟨a, b, c, by rw [List.getElem?_set_ne hn]; exact hA, ha⟩
theorem RowAt.lt {r : Nat} {ns : List Int} {A : AH} (h : RowAt r ns A) : r < A.length := by
  obtain ⟨a, b, c, hA, ha⟩ := h
  exact (List.getElem?_eq_some_iff.mp hA).1
theorem ints_of {P : Int → Prop} : ∀ {ys : List D}, (∀ y ∈ ys, ∃ v, y = .int v ∧ P v) → ∃ vs : List Int, ys = vs.map .int ∧ ∀ v ∈ vs, P v
  | [], _ => ⟨[], rfl, fun _ h => nomatch h⟩
  | y :: ys, h => by
    obtain ⟨v, rfl, hv⟩ := h y List.mem_cons_self
    obtain ⟨vs, rfl, h2⟩ := ints_of (ys := ys) fun z hz => h z (List.mem_cons_of_mem _ hz)
    refine ⟨v :: vs, rfl, fun z hz => ?_⟩
    rcases List.mem_cons.mp hz with rfl | hz
    · exact hv
    · exact h2 z hz
theorem maps_of {α : Type} {f : α → D} {P : α → Prop} : ∀ {ys : List D}, (∀ y ∈ ys, ∃ v, y = f v ∧ P v) → ∃ vs : List α, ys = vs.map f ∧ ∀ v ∈ vs, P v
  | [], _ => ⟨[], rfl, fun _ h => nomatch h⟩
  | y :: ys, h => by
    obtain ⟨v, rfl, hv⟩ := h y List.mem_cons_self
    obtain ⟨vs, rfl, h2⟩ := maps_of (ys := ys) fun z hz => h z (List.mem_cons_of_mem _ hz)
    refine ⟨v :: vs, rfl, fun z hz => ?_⟩
    rcases List.mem_cons.mp hz with rfl | hz
    · exact hv
    · exact h2 z hz
/-! ### alike -/
def aC : MT := mOr (mTb (mUn (isiD "tuple") (mv 1))) (mTb (mUn (isiD "list") (mv 1)))
def a1 : MS := mIfS (mOr (mTb (mBin neD (mUn (isiD "tuple") (mv 0)) (mUn (isiD "tuple") (mv 1)))) (mNot (mTb (mUn (isiD2 "tuple" "list") (mv 0))))) (mRet (mc (.bl false))) mNx
def a2 : MS := mIfS (mTb (mBin neD (mCall lenD (mCons (mv 0) mNil)) (mCall lenD (mCons (mv 1) mNil)))) (mRet (mc (.bl false))) mNx
def aL (g : List D → AH → R D) : ME := mLc (mRng1 (mCons (mCall lenD (mCons (mv 1) mNil)) mNil)) (gmN 2) (mNot (mTb (mCall g (mCons (mBin ixD (mv 0) (mv 2)) (mCons (mBin ixD (mv 1) (mv 2)) mNil))))) (mv 2) [2] finF
def a3 : MS := mIfS (mOr (mTb (mBin isD (mv 1) (mc .non))) (mTb (mBin isD (mv 0) (mc .non)))) (mRet (mAndV (mBin isD (mv 1) (mc .non)) (mBin isD (mv 0) (mc .non)))) mNx
def a4 : MS := mIfS (mOr (mTb (mUn (isiD "bool") (mv 1))) (mTb (mUn (isiD "bool") (mv 0)))) (mRet (mAndV (mUn (isiD "bool") (mv 1)) (mAndV (mUn (isiD "bool") (mv 0)) (mBin eqD (mv 0) (mv 1))))) mNx
def a5 : MS := mIfS (mTb (mUn (isiD "str") (mv 1))) (mRet (mAndV (mUn (isiD "str") (mv 0)) (mBin eqD (mv 0) (mv 1)))) mNx
def a6 : MS := mRet (mAndV (mUn (isiD "int") (mv 0)) (mBin eqD (mv 0) (mv 1)))
def b_alike (g : List D → AH → R D) : MS := mSeq (mIfS aC (mSeq a1 (mSeq a2 (mRet (mBin eqD (aL g) (mLst mNil))))) mNx) (mSeq a3 (mSeq a4 (mSeq a5 a6)))
def m_alike : Nat → List D → AH → R D
  | 0 => mBad
  | n + 1 => mFun 2 3 (b_alike (m_alike n))
section
variable {n : Nat} {A : AH} {x y : D} {ds es : List D} {T : String}
theorem alike_int {i : Int} : m_alike (n + 1) [.int i, .int i] A = .ok (.bl true) A := by
  have e0 : m_alike (n + 1) [.int i, .int i] A = finS (b_alike (m_alike n) [some (.int i), some (.int i), none] A) := rfl
  rw [e0]
  simp [b_alike, aC, a3, a4, a5, a6, subTy, Tg.isNon]
theorem alike_str {i : Str} : m_alike (n + 1) [.str i, .str i] A = .ok (.bl true) A := by
  have e0 : m_alike (n + 1) [.str i, .str i] A = finS (b_alike (m_alike n) [some (.str i), some (.str i), none] A) := rfl
  rw [e0]
  simp [b_alike, aC, a3, a4, a5, a6, subTy, Tg.isNon]
theorem alike_non : m_alike (n + 1) [.non, .non] A = .ok (.bl true) A := by
  have e0 : m_alike (n + 1) [.non, .non] A = finS (b_alike (m_alike n) [some .non, some .non, none] A) := rfl
  rw [e0]
  simp [b_alike, aC, a3, a4, a5, a6, subTy, Tg.isNon]
theorem alike_bl {b : Bool} : m_alike (n + 1) [.bl b, .bl b] A = .ok (.bl true) A := by
  have e0 : m_alike (n + 1) [.bl b, .bl b] A = finS (b_alike (m_alike n) [some (.bl b), some (.bl b), none] A) := rfl
  rw [e0]
  simp [b_alike, aC, a3, a4, a5, a6, subTy, Tg.isNon]
theorem alike_seq (hx : tyD A x = some T) (hy : tyD A y = some T) (hT : T = "tuple" ∨ T = "list") {k : Nat} (lx : lenD [x] A = .ok (.int k) A) (ly : lenD [y] A = .ok (.int k) A) (hk : k < 16777216)
    (hi : ∀ i : Nat, i < k → ∃ d e, ixD x (.int i) A = .ok d A ∧ ixD y (.int i) A = .ok e A ∧ m_alike n [d, e] A = .ok (.bl true) A) : m_alike (n + 1) [x, y] A = .ok (.bl true) A := by
  have e0 : m_alike (n + 1) [x, y] A = finS (b_alike (m_alike n) [some x, some y, none] A) := rfl
  have c0 : aC [some x, some y, none] A = .ok true A := by
    rcases hT with rfl | rfl <;> simp [aC, isiD, hy, subTy]
  have c1 : a1 [some x, some y, none] A = .nx [some x, some y, none] A := by
    rcases hT with rfl | rfl <;> simp [a1, isiD, isiD2, hx, hy, subTy]
  have c2 : a2 [some x, some y, none] A = .nx [some x, some y, none] A := by
    simp [a2, lx, ly]
  have c3 : aL (m_alike n) [some x, some y, none] A = .ok (.lst []) A := by
    have e : (mCons (mCall lenD (mCons (mv 1) mNil)) mNil) [some x, some y, none] A = .ok [.int (k : Int)] A := by simp [ly]
    have := lc_pure (g := gmN 2) (tt := mNot (mTb (mCall (m_alike n) (mCons (mBin ixD (mv 0) (mv 2)) (mCons (mBin ixD (mv 1) (mv 2)) mNil))))) (te := mv 2) (vs := [2]) (fun _ => false) (fun d => d) (rng1 e hk) (by rw [List.length_map, List.length_range]; exact hk) (fun d hd => by
      obtain ⟨i, hi', rfl⟩ := List.mem_map.mp hd
      obtain ⟨d, e, h1, h2, h3⟩ := hi i (List.mem_range.mp hi')
      exact ⟨_, rfl, by simp [wpD, h1, h2, h3], fun q => nomatch q⟩)
    rw [show ∀ l : List D, l.filter (fun _ => false) = [] from fun l => by simp] at this
    exact this
  have c4 : eqD (.lst []) (.lst []) A = .ok (.bl true) A := eq_lstF rfl
  have c5 : (mRet (mBin eqD (aL (m_alike n)) (mLst mNil))) [some x, some y, none] A = .rt (.bl true) A := by
    rw [e_ret, e_bin, c3, kB1_0, e_lst, e_nil]
    simp [c4]
  rw [e0]
  unfold b_alike
  rw [e_seq, e_ifS, c0, kIf_0, e_seq, c1, RS.nxt_nx, e_seq, c2, RS.nxt_nx, c5, RS.nxt_rt, finS_rt]
theorem alike_tup (hl : es.length = ds.length) (hk : ds.length < 16777216) (hi : ∀ (i : Nat) (h : i < ds.length), m_alike n [ds[i], es[i]] A = .ok (.bl true) A) : m_alike (n + 1) [.tup ds, .tup es] A = .ok (.bl true) A :=
  alike_seq (T := "tuple") rfl rfl (.inl rfl) (k := ds.length) rfl (by rw [← hl]; rfl) hk fun i h => ⟨ds[i], es[i], ix_tup (atI_ok (List.getElem?_eq_getElem h)), ix_tup (atI_ok (List.getElem?_eq_getElem (by omega))), hi i h⟩
theorem alike_ints {p q : Nat} {vs : List Int} (hp : A[p]? = some (.lst (vs.map .int))) (hq : A[q]? = some (.lst (vs.map .int))) (hk : vs.length < 16777216) : m_alike (n + 2) [.ref p, .ref q] A = .ok (.bl true) A := by
  refine alike_seq (T := "list") (by simp [tyD, hp]) (by simp [tyD, hq]) (.inr rfl) (k := vs.length) (by simp [len_ref, hp]) (by simp [len_ref, hq]) hk fun i h => ?_
  have e : (vs.map D.int)[i]? = some (.int vs[i]) := by rw [List.getElem?_map, List.getElem?_eq_getElem h]; rfl
  exact ⟨.int vs[i], .int vs[i], ix_ref hp (atI_ok e), ix_ref hq (atI_ok e), alike_int⟩
end
end Tg

set_option Elab.async false
set_option linter.all false
set_option maxRecDepth 100000
set_option maxHeartbeats 2000000
/-! TgZip: zip of a list and a text; get of a written dict. -/
namespace Tg
open PySem PySem.Spec PyProof.Rows L2
/-- a list and a text, walked side by side, the pairs new -/
def ItzS (K : PySem.W.Frag) (a : Addr) (z : Str) : It :=
  ⟨fun i H => ∃ (xs : List V) (x : V), SqL K H a xs ∧ xs[i]? = some x ∧ i < z.cps.size,
    fun i H v H' => ∃ T x c, v = .ref T ∧ H T = none ∧ H' = upd H T (.tup [x, .str ⟨#[c]⟩]) ∧ (∀ xs, SqL K H a xs → xs[i]? = some x) ∧ z.cps[i]? = some c,
    fun i H => ∃ xs : List V, SqL K H a xs ∧ (xs.length ≤ i ∨ z.cps.size ≤ i)⟩
/-- what a list's iterator draws, seen from its i-th turn on -/
theorem drawsL {P : Program} {w : World} {A : Around} (hh : A.handled = none) (it l : Addr) (hne : l ≠ it) (items : Array Value) (i : Nat) :
    ∃ (n : Nat) (Pn : Nat → Value → Prop) (St : Nat → Heap → Prop), Draws P w A it [it, l] n Pn St ∧ i ≤ n ∧ (items.size ≤ i → n = i) ∧ ∀ h : Heap, h.IsListIter it l i → h.IsList l items → St i h := by
  by_cases hi : i ≤ items.size
  · exact ⟨items.size, _, _, Draws.list hh it l hne items, hi, fun q => Nat.le_antisymm q hi, fun h a b => ⟨a, b⟩⟩
  · refine ⟨i, fun _ _ => True, fun j h => j = i ∧ h.IsListIter it l i ∧ h.IsList l items, ⟨fun j h st => ?_, fun j h h' st hk => ?_, fun j s Q E hj st _ => ?_, fun s Q E st hE => ?_⟩, Nat.le_refl _, fun _ => rfl, fun h a b => ⟨rfl, a, b⟩⟩
    · obtain ⟨_, ⟨o, ho, _⟩, _⟩ := st
      exact ⟨o, ho⟩
    · exact ⟨st.1, st.2.1.at fun o e => hk it (by simp) o e, st.2.2.at fun o e => hk l (by simp) o e⟩
    · exact absurd st.1 (Nat.ne_of_lt hj)
    · exact wpAny_nextOf_list_end hh st.2.1 st.2.2 (by simp; omega) hE
theorem drawsS {P : Program} {w : World} {A : Around} (hh : A.handled = none) (it : Addr) (z : Str) (t : Tok) (i : Nat) :
    ∃ (n : Nat) (Pn : Nat → Value → Prop) (St : Nat → Heap → Prop), Draws P w A it [it] n Pn St ∧ i ≤ n ∧ (z.cps.size ≤ i → n = i) ∧ ∀ h : Heap, h.IsStrIter it (strIterType z) z t i → St i h := by
  by_cases hi : i ≤ z.cps.size
  · exact ⟨z.cps.size, _, _, Draws.text hh it z t, hi, fun q => Nat.le_antisymm q hi, fun h a => a⟩
  · have hx : z.cps[i]? = none := Array.getElem?_eq_none (by omega)
    refine ⟨i, fun _ _ => True, fun j h => j = i ∧ h.IsStrIter it (strIterType z) z t i, ⟨fun j h st => ?_, fun j h h' st hk => ?_, fun j s Q E hj st _ => ?_, fun s Q E st hE => ?_⟩, Nat.le_refl _, fun _ => rfl, fun h a => ⟨rfl, a⟩⟩
    · obtain ⟨_, o, ho, _⟩ := st
      exact ⟨o, ho⟩
    · obtain ⟨e, o, ho, r⟩ := st
      exact ⟨e, o, hk it (by simp) o ho, r⟩
    · exact absurd st.1 (Nat.ne_of_lt hj)
    · have st2 := st.2
      unfold strIterType at st2
      split at st2
      · exact wpAny_nextOf_ascii_end hh st2 hx hE
      · exact wpAny_nextOf_wide_end hh st2 hx hE
theorem zs_five {z TI TO i1 i2 b : Addr} (h : b ∈ [z, TI, TO, i1, i2]) : b = z ∨ b = TI ∨ b = TO ∨ b = i1 ∨ b = i2 := by simpa using h
/-- the state of such a walk -/
def ZsAt (z TI TO i1 i2 a : Addr) (x : Str) (t : Tok) (i : Nat) (h : Heap) : Prop :=
  IsZip h z TI TO .none ∧ IsTupOf2 h TI (.ref i1) (.ref i2) ∧ (∃ u v, IsTupOf2 h TO u v) ∧ h.IsListIter i1 a i ∧ h.IsStrIter i2 (strIterType x) x t i
theorem zs_there {z TI TO i1 i2 a b : Addr} {x : Str} {t : Tok} {i : Nat} {h : Heap} (st : ZsAt z TI TO i1 i2 a x t i h) (hb : b ∈ [z, TI, TO, i1, i2]) : ∃ o, h.get? b = some o ∧ ∀ v, o.data ≠ .cell v := by
  obtain ⟨hz, hI, ⟨u, v, hO⟩, ⟨o1, e1, _, d1⟩, ⟨o2, e2, _, d2⟩⟩ := st
  rcases zs_five hb with rfl | rfl | rfl | rfl | rfl
  · exact ⟨_, hz, fun v q => (nomatch q)⟩
  · exact ⟨_, hI, fun v q => (nomatch q)⟩
  · exact ⟨_, hO, fun v q => (nomatch q)⟩
  · exact ⟨o1, e1, fun v q => by rw [d1] at q; cases q⟩
  · exact ⟨o2, e2, fun v q => by rw [d2] at q; cases q⟩
theorem zs_keep {z TI TO i1 i2 a : Addr} {x : Str} {t : Tok} {i : Nat} {h h' : Heap} (st : ZsAt z TI TO i1 i2 a x t i h) (k : ∀ b ∈ [z, TI, TO, i1, i2], ∀ o, h.get? b = some o → h'.get? b = some o) : ZsAt z TI TO i1 i2 a x t i h' := by
  obtain ⟨hz, hI, ⟨u, v, hO⟩, h1, ⟨o2, e2, r2⟩⟩ := st
  exact ⟨k z (by simp) _ hz, k TI (by simp) _ hI, ⟨u, v, k TO (by simp) _ hO⟩, h1.at fun o q => k i1 (by simp) o q, ⟨o2, k i2 (by simp) o2 e2, r2⟩⟩
theorem turn_zs {P : Program} {w : World} {K : PySem.W.Frag} {elts : List Expr} {kk : Nat} {tpos : Pos} {a z TI TO i1 i2 : Addr} {x : Str} {t : Tok} (S : ZipSep2 z TI TO i1 i2 [i1, a] [i2]) :
    Turn P w K (.Tuple elts kk tpos) (ItzS K a x) [z, TI, TO, i1, i2] z (ZsAt z TI TO i1 i2 a x t) where
  mem := by simp
  obj := fun i h st b hb => zs_there st hb
  keep := fun i h h' st k => zs_keep st k
  self := fun A i s Q E st h => wpAny_pyIter_zip st.1 h
  item := by
    intro X hP hw hK hc i pins s σ H E I hf st hg
    subst hP hw hK
    have hai : a ≠ i1 := fun q => by
      obtain ⟨xs, y, hq, _⟩ := hg
      obtain ⟨its, rv, p, _⟩ := I.list hq
      obtain ⟨o1, e1, c1, d1⟩ := st.2.2.2.1
      obtain ⟨o2, e2, c2, _⟩ := p.isList
      rw [q, e1] at e2
      cases e2
      rw [c1] at c2
      exact absurd c2 (by simp)
    have hz := st
    obtain ⟨hz1, hz2, hz3, hz4, hz5⟩ := hz
    obtain ⟨xs, y, hq, hy, hi⟩ := hg
    obtain ⟨its, rv, p, _⟩ := I.list hq
    obtain ⟨u, hu, ru⟩ := rv.get hy
    have hu' : its.toArray[i]? = some u := by simpa using hu
    have W := WalksT.zipD2 (prog := X.prog) (w := X.w) (A := X.A) S (Draws.list (show X.A.in1.handled = none from I.ok.hd hc) i1 a hai its.toArray) (Draws.text (show X.A.in1.handled = none from I.ok.hd hc) i2 x t)
    have hlt : i < min its.toArray.size x.cps.size := by
      have := (Array.getElem?_eq_some_iff.mp hu').1
      omega
    refine W.item i s _ _ hlt ⟨hz1, hz2, hz3, ⟨hz4, p.isList⟩, hz5⟩ fun T vals h1 tk hv hT hTup hMid hk1 => ?_
    have hTw := W.apart i T h1 hMid
    refine ⟨_, rfl, W.go elts kk tpos i T { s with heap := h1, toks := tk } _ _ hMid fun h2 st2 hk2 => ?_⟩
    obtain ⟨v1, v2, p1, ⟨c, u2, hc2, rfl⟩, rfl⟩ := hv
    have ev : v1 = u := by
      have p1' : its.toArray[i]? = some v1 := p1
      rw [hu'] at p1'
      cases p1'
      rfl
    subst ev
    have hTup2 : h2.IsTuple T #[v1, .str ⟨#[c]⟩ u2] := hTup.at fun o e => hk2 T o hTw e
    have new : ObjOk X.prog X.w (upd H T (.tup [y, .str ⟨#[c]⟩])) h2 T (.tup [y, .str ⟨#[c]⟩]) :=
      ⟨by show 2 ≤ sizeLine; decide, [v1, .str ⟨#[c]⟩ u2], .cons ru (.cons ⟨u2, rfl⟩ .nil), hTup2⟩
    have I1 : Inv X pins σ (upd H T (.tup [y, .str ⟨#[c]⟩])) { s with heap := h2, toks := tk } :=
      I.turnedNew (t' := tk) (ch := [z, TI, TO, i1, i2]) (fun b o hb q => by
        have hb' : b ∉ [z, TO, i1, i2] := fun q' => hb (by
          simp only [List.mem_cons, List.not_mem_nil, or_false] at q' ⊢
          rcases q' with q' | q' | q' | q'
          · exact .inl q'
          · exact .inr (.inr (.inl q'))
          · exact .inr (.inr (.inr (.inl q')))
          · exact .inr (.inr (.inr (.inr q'))))
        exact hk2 b o hb' (hk1 b o hb' q)) hf hT new
    refine ⟨.ref T, _, I1, rfl, ⟨T, y, c, rfl, I.hok.fresh hT, rfl, fun l hl => by rw [I.list_inj hl hq]; exact hy, hc2⟩, ⟨st2.1, st2.2.1, st2.2.2.1, st2.2.2.2.1.1, st2.2.2.2.2⟩, fun b hb => ?_⟩
    have hlt2 : b < s.heap.objs.size := by
      obtain ⟨o, ho, _⟩ := zs_there st hb
      exact Heap.lt_size ho
    rw [upd_ne (Nat.ne_of_lt (Nat.lt_of_lt_of_le hlt2 hT))]
    exact (hf b hb).1
  done := by
    intro X hP hw hK hc i pins s σ H E I hf st hg
    subst hP hw hK
    obtain ⟨xs, hq, hend⟩ := hg
    obtain ⟨its, rv, p, _⟩ := I.list hq
    have hlen := rv.length
    have hai : a ≠ i1 := fun q => by
      obtain ⟨o1, e1, c1, d1⟩ := st.2.2.2.1
      obtain ⟨o2, e2, c2, _⟩ := p.isList
      rw [q, e1] at e2
      cases e2
      rw [c1] at c2
      exact absurd c2 (by simp)
    obtain ⟨hz1, hz2, hz3, hz4, hz5⟩ := st
    obtain ⟨n1, P1, S1, D1, l1, m1, s1⟩ := drawsL (P := X.prog) (w := X.w) (A := X.A.in1) (I.ok.hd hc) i1 a hai its.toArray i
    obtain ⟨n2, P2, S2, D2, l2, m2, s2⟩ := drawsS (P := X.prog) (w := X.w) (A := X.A.in1) (I.ok.hd hc) i2 x t i
    have hm : min n1 n2 = i := by
      rcases hend with q | q
      · rw [m1 (by simp; omega)]
        omega
      · rw [m2 q]
        omega
    have W := WalksT.zipD2 (prog := X.prog) (w := X.w) (A := X.A) S D1 D2
    rw [hm] at W
    refine W.done s _ _ ⟨hz1, hz2, hz3, s1 _ hz4 p.isList, s2 _ hz5⟩ fun h' tk hk => ⟨rfl, I.turnedL (t' := tk) (ch := [z, TI, TO, i1, i2]) (fun b o hb q => hk b o (fun q' => hb (by
      simp only [List.mem_cons, List.not_mem_nil, or_false] at q' ⊢
      rcases q' with q' | q' | q' | q'
      · exact .inl q'
      · exact .inr (.inr (.inl q'))
      · exact .inr (.inr (.inr (.inl q')))
      · exact .inr (.inr (.inr (.inr q'))))) q) hf⟩
def iZs (K : PySem.W.Frag) (ta : TA) : L2.TI := fun σ H Rr => ta σ H fun vs H1 => ∃ (a : Addr) (z : Str) (xs : List V), vs = [.ref a, .str z] ∧ SqL K H1 a xs ∧ Rr (ItzS K a z) H1
theorem pi_zs {X : Cx} {e e2 : Expr} {ta : TA} {p pos tpos : Pos} {elts : List Expr} {kk : Nat} (hg : Gl X "zip") (hm : X.mg "zip" = none) (ha : PA X [e, e2] ta)
    (hs : starEach [e, e2] X.env = (false, eval e X.env) :: starEach [e2] X.env := by rfl) (hpl : (backTo pos (starEach [e2] X.env)).any (·.1) = false := by rfl) :
    PI X (.Tuple elts kk tpos) (.Call (.Name "zip" p) [e, e2] [] pos) (iZs X.K ta) := ⟨fun pins s σ H Rr I h => by
  refine Call_ (ld_blt I hg hm PyProof.Rows.boot_zip (PyProof.Rows.callWith_type1 (thn (ha.run pos pins s σ H _ I h) fun us s1 q0 => ?_) hs hpl))
  obtain ⟨vs, H1, I1, r1, a, z, xs, ex, hq, q⟩ := q0
  subst ex
  cases r1 with
  | cons ra rr =>
    cases rr with
    | cons rz rr2 =>
      cases rr2
      cases ra
      obtain ⟨t, rfl⟩ := rz
      obtain ⟨its, rv, p1, _⟩ := I1.list hq
      have hal : a < s1.heap.objs.size := p1.lt
      refine zip_begins2 (begins_list a its.toArray) (begins_text z t) p1.isList trivial fun h' hz hTI hTO g1 g2 hsz hk => wpAny_pyIter_zip hz ?_
      refine ⟨s1.heap.objs.size + 4, [s1.heap.objs.size + 4, s1.heap.objs.size + 2, s1.heap.objs.size + 3, s1.heap.objs.size, s1.heap.objs.size + 1], ZsAt _ _ _ _ _ a z t, _, H1, rfl, I1.kept (t' := s1.toks) hk,
        turn_zs (zip_sep2 (fp1 := [a]) (fp2 := []) (fun b hb => by rw [List.mem_singleton.mp hb]; exact hal) (fun b hb => nomatch hb)), ⟨hz, hTI, ⟨_, _, hTO⟩, ⟨_, g1, rfl, rfl⟩, ⟨_, g2, rfl, rfl⟩⟩, fun b hb => ?_, q⟩
      have hle : s1.heap.objs.size ≤ b := by
        rcases zs_five hb with rfl | rfl | rfl | rfl | rfl
        · exact Nat.le_add_right _ _
        · exact Nat.le_add_right _ _
        · exact Nat.le_add_right _ _
        · exact Nat.le_refl _
        · exact Nat.le_add_right _ _
      exact I1.fpOk hle (I1.hok.fresh hle)⟩
/-- the pairs -/
def zipD (ds : List D) (z : Str) : List D := (ds.zip z.cps.toList).map fun p => .tup [p.1, .str ⟨#[p.2]⟩]
def miZs (m : MA) : Sl → AH → R IT := fun s A => (m s A).bind fun ds A1 => match ds with
  | [.lst es, .str z] => .ok (.data (zipD es z)) A1
  | _ => .bad
theorem jr_zs {K : PySem.W.Frag} {mg : Str → Option Value} {W : Wd} {a : Addr} {xs : List V} {ds : List D} {z : Str} (h : W.F a = some (.lst xs)) (r : Reps K W ds xs) : JR K mg W (.data (zipD ds z)) (ItzS K a z) := fun W' A' H' i l k => by
  have q : SqL K H' a xs := .inl (.inl (k.frz _ _ (l.f _ _ h)))
  have r' := r.le l
  have hl := r'.length
  show match some (zipD ds z)[i]? with
    | some (some d) => _
    | some none => _
    | none => True
  unfold zipD
  rw [List.getElem?_map]
  cases hd : (ds.zip z.cps.toList)[i]? with
  | none =>
    refine ⟨xs, q, ?_⟩
    have := List.getElem?_eq_none_iff.mp hd
    rw [List.length_zip] at this
    have h2 : z.cps.toList.length = z.cps.size := by simp
    omega
  | some p =>
    obtain ⟨d, c⟩ := p
    obtain ⟨e1, e2⟩ := List.getElem?_zip_eq_some.mp hd
    obtain ⟨v, h1, h2⟩ := r'.get e1
    have e3 : z.cps[i]? = some c := by simpa using e2
    refine ⟨⟨xs, v, q, h1, (Array.getElem?_eq_some_iff.mp e3).1⟩, fun x H2 y => ?_⟩
    obtain ⟨T, x', c', rfl, hT, rfl, f1, f2⟩ := y
    have ex := f1 xs q
    rw [h1] at ex
    cases ex
    rw [e3] at f2
    cases f2
    obtain ⟨k2, x2⟩ := k.frozen hT (.tup [v, .str ⟨#[c]⟩])
    exact ⟨_, x2, k2, T, _, rfl, .inl (.inl upd_same), ⟨v, _, rfl, h2.le x2.le, _, _, rfl, rfl, rfl⟩⟩
section
variable {X : Cx} {Wx : WX} {e e2 : Expr} {ta : TA} {ma : MA} {te : TE} {me : ME} {p pos tpos apos cpos : Pos} {elts : List Expr} {kk : Nat} {x : Str} {kvs : List (Str × Str)}
theorem izs (hm : X.mg "zip" = none) (ha : SA X Wx [e, e2] ta ma) (hg : Gl X "zip" := by rfl) (hs : starEach [e, e2] X.env = (false, eval e X.env) :: starEach [e2] X.env := by rfl) (hpl : (backTo pos (starEach [e2] X.env)).any (·.1) = false := by rfl) :
    SI X Wx (.Tuple elts kk tpos) (.Call (.Name "zip" p) [e, e2] [] pos) (iZs X.K ta) (miZs ma) :=
  ⟨pi_zs hg hm ha.pa hs hpl, fun W σ s A H Rr k sr z => ha.sim W σ s A H _ k sr (z.bind fun ds A1 vs W1 H1 e1 k1 r1 h1 => by
    split at h1
    · obtain ⟨v, u, rfl, q, q'⟩ := reps2 r1
      obtain ⟨a, xs, rfl, q1, q2⟩ := q
      obtain rfl : u = _ := q'
      exact ⟨a, _, xs, rfl, .inl (.inl (k1.frz _ _ q1)), h1.ok_at k1 (jr_zs q1 q2)⟩
    · exact h1.elim)⟩
/-- .get of a written table of texts -/
def tKGet (K : PySem.W.Frag) (w : World) (d : Addr) (ty : TE) : TE := fun σ H Q => ty σ H fun y H1 => ∃ (z : Str) (r : Option Value) (v : V), y = .str z ∧ PySem.W.nsIn K d z = some r ∧ RelV v (r.getD .none) ∧ Q v H1
def kgetD (kvs : List (Str × Str)) : D → AH → R D
  | .str z, A => .ok (match kvs.lookup z with
    | some v => .str v
    | none => .non) A
  | _, _ => .bad
theorem pe_kget (T : GTab X.K X.w X.mg x kvs) (he : PE X e te) (m : M1 X (.Name x p) "get" apos e cpos) (hg : Gl X x) (hdb : (x == ("__debug__" : Str)) = false) :
    PE X (.Call (.Attribute (.Name x p) "get" apos) [e] [] cpos) (tKGet X.K X.w (clA X.mg x) te) := by
  have ho := pe_tab (p := p) T hg hdb
  obtain ⟨d, hm, T⟩ := T
  obtain ⟨es, n, D⟩ := T.kd
  rw [clA_of hm] at ho ⊢
  refine ⟨fun pins s σ H Q I h => ?_⟩
  refine wpAny_Call_method m.base m.few m.line PySem.F.plainAttrs_dict PySem.F.slot_dict_get PySem.F.type_dict_get (thn (ho.run pins s σ H (fun v H1 => v = .ref d ∧ H1 = H) I ⟨rfl, rfl⟩) fun u s1 q0 => ?_)
  obtain ⟨v, H1, I1, rx, rfl, rfl⟩ := q0
  obtain rfl : u = Value.ref d := rx
  refine ⟨kd_type D I1, fun b q => ?_, ?_⟩
  · cases q
    exact ⟨_, I1.kIn _ _ D.at_, rfl⟩
  · rw [m.trees]
    refine wpAny_dict_get1 (knd := PySem.strKind X.prog X.w) D.low (thn (he.run pins s1 σ _ _ I1 h) fun key s2 q1 => ?_)
    obtain ⟨y, H2, I2, ry, z, r, v, rfl, hr, rv, q2⟩ := q1
    obtain ⟨t, rfl⟩ := ry
    refine ⟨z, _, PySem.strKind_is X.prog X.w z t, PySem.W.mapOf_K (prog := X.prog) I2.kIn D.at_ D.lit, ?_⟩
    rw [PySem.W.find_K D.at_ hr]
    exact ⟨v, H2, I2.tok _, rv, q2⟩
theorem skget (T : GTab X.K X.w X.mg x kvs) (he : SE X Wx e te me) (m : M1 X (.Name x p) "get" apos e cpos := by exact ⟨by rfl, by rfl, by rfl, by rfl⟩) (hg : Gl X x := by rfl) (hdb : (x == ("__debug__" : Str)) = false := by decide) :
    SE X Wx (.Call (.Attribute (.Name x p) "get" apos) [e] [] cpos) (tKGet X.K X.w (clA X.mg x) te) (mUn (kgetD kvs) me) := ⟨pe_kget T he.pe m hg hdb, by
  obtain ⟨d, hm, T⟩ := T
  rw [clA_of hm]
  refine fun W σ s A H Q k sr h => he.sim W σ s A H _ k sr (h.bind fun y A1 v W1 H1 e1 k1 r1 h1 => ?_)
  cases y with
  | str z =>
    obtain rfl : v = V.str z := r1
    unfold kgetD at h1
    dsimp only at h1
    cases q : kvs.lookup z with
    | none =>
      rw [q] at h1
      exact ⟨z, none, .non, rfl, T.no z q, rfl, h1.ok_at k1 rfl⟩
    | some y =>
      rw [q] at h1
      obtain ⟨t, e⟩ := T.yes z y q
      exact ⟨z, _, .str y, rfl, e, ⟨t, rfl⟩, h1.ok_at k1 rfl⟩
  | _ => exact h1.elim⟩
end
end Tg

set_option Elab.async false
set_option linter.all false
set_option maxRecDepth 100000
set_option maxHeartbeats 2000000
/-! TgTxt: texts by their signs; walks over lists, told item by item. -/
namespace Tg
open PySem L2
open SX (S)
section
variable {A : AH} {l : List Nat} {c : Nat} {d : D} {ds : List D}
theorem cut_to1 : cutS (S l) none (some 1) = S (l.take 1) := by
  cases l with
  | nil => rfl
  | cons c l => simp [cutS, HT.sIx, Str.length]
theorem cut_from1 : cutS (S l) (some 1) none = S (l.drop 1) := by
  cases l with
  | nil => rfl
  | cons c l => simp [cutS, HT.sIx, Str.length]
theorem cutD1 : cutD (d :: ds) (some 1) none = ds := by
  simp [cutD, HT.sIx]
theorem inB_S : inB (.str ⟨#[c]⟩) (.str (S l)) A = some (decide (c ∈ l)) := congrArg some (SX.in_one l c)
theorem in_S : inD (.str ⟨#[c]⟩) (.str (S l)) A = .ok (.bl (decide (c ∈ l))) A := by
  unfold inD
  rw [inB_S]
theorem nin_S : ninD (.str ⟨#[c]⟩) (.str (S l)) A = .ok (.bl (!(decide (c ∈ l)))) A := by
  unfold ninD
  rw [inB_S]
theorem len_S (h : l.length ≤ 16777216) : lenD [.str (S l)] A = .ok (.int l.length) A := by
  show (if (S l).length ≤ 16777216 then R.ok (D.int (S l).length) A else .bad) = _
  rw [SX.S_len, if_pos h]
/-- a number's signs -/
def numC (i : Int) : List Nat := if 0 ≤ i then TL.numL i.toNat else 45 :: TL.numL (-i).toNat
theorem str_num (i : Int) : Str.ofString (toString i) = S (numC i) := by
  cases i with
  | ofNat n =>
    have e : numC (Int.ofNat n) = TL.numL n := if_pos (Int.natCast_nonneg n)
    rw [e]
    exact SX.num_S n
  | negSucc m =>
    have e : numC (Int.negSucc m) = 45 :: TL.numL (m + 1) := by
      have h : ¬ (0 : Int) ≤ Int.negSucc m := by omega
      unfold numC
      rw [if_neg h]
      rfl
    rw [e]
    refine TL.ext_tl ?_
    rw [TL.tl_ofString]
    show (("-" ++ Nat.repr (m + 1) : String)).toList.map Char.toNat = _
    rw [String.toList_append, List.map_append]
    show _ = [45] ++ TL.numL (m + 1)
    unfold TL.numL
    rw [Nat.toList_repr]
    rfl
theorem numC_len {i : Int} (h0 : -100000 < i) (h1 : i < 100000) : (numC i).length ≤ 6 := by
  unfold numC
  split
  · have := TL.numL_len (n := i.toNat) (k := 5) (by decide) (by show i.toNat < 100000; omega)
    omega
  · have := TL.numL_len (n := (-i).toNat) (k := 5) (by decide) (by show (-i).toNat < 100000; omega)
    simp only [List.length_cons]
    omega
theorem numC_ne (i : Int) : numC i ≠ [] := by
  unfold numC
  split
  · exact TL.numL_ne _
  · simp
theorem numC_free {i : Int} {s : Nat} (h : s < 48 ∨ 57 < s) (h2 : s ≠ 45) : s ∉ numC i := by
  unfold numC
  split
  · exact TL.numL_free h
  · intro q
    rcases List.mem_cons.mp q with q | q
    · exact h2 q
    · exact TL.numL_free h q
theorem int_S {i : Int} (h0 : -100000 < i) (h1 : i < 100000) : intD [.str (S (numC i))] A = .ok (.int i) A := by
  have hl := numC_len h0 h1
  have e : PySem.intText? (S (numC i)) = some i := by
    unfold numC at hl ⊢
    split
    · rename_i q
      rw [if_pos q] at hl
      rw [PySem.intText_digits (x := S (TL.numL i.toNat)) (TL.numL_digits _) (TL.numL_ne _) (by rw [SX.S_len]; omega)]
      show some ((PySem.NumText.digitsVal (TL.numL i.toNat) : Nat) : Int) = _
      rw [TL.numL_val]
      congr 1
      omega
    · rename_i q
      rw [if_neg q] at hl
      rw [PySem.intText_neg (x := S (45 :: TL.numL (-i).toNat)) (cs := TL.numL (-i).toNat) rfl (TL.numL_digits _) (TL.numL_ne _) (by rw [SX.S_len]; omega)]
      rw [TL.numL_val]
      congr 1
      omega
  show (match PySem.intText? (S (numC i)) with
    | some n => if (S (numC i)).length ≤ 640 then R.ok (D.int n) A else .bad
    | none => .bad) = _
  rw [e]
  show (if (S (numC i)).length ≤ 640 then _ else _) = _
  rw [SX.S_len, if_pos (by omega)]
theorem str_int {i : Int} (h0 : -100000 < i) (h1 : i < 100000) : strD [.int i] A = .ok (.str (S (numC i))) A := by
  have h : i.natAbs.log2 < 1920 := by
    by_cases h : i.natAbs = 0
    · rw [h]
      decide
    · exact Nat.lt_trans ((Nat.log2_lt h).mpr (show i.natAbs < 2 ^ 17 by omega)) (by decide)
  show (if i.natAbs.log2 < 1920 then R.ok (D.str (Str.ofString (toString i))) A else .bad) = _
  rw [if_pos h, str_num]
end
/-! ### joined and split -/
section
variable {A : AH} {s : List Nat} {ls : List (List Nat)} {k : Nat} {c : Nat}
theorem joinL_len : ∀ {ls : List (List Nat)}, (∀ l ∈ ls, l.length + s.length ≤ k) → (TL.joinL s ls).length ≤ ls.length * k
  | [], _ => Nat.zero_le _
  | [p], h => by
    have := h p List.mem_cons_self
    show p.length ≤ 1 * k
    omega
  | p :: q :: r, h => by
    have h1 := h p List.mem_cons_self
    have h2 := joinL_len (ls := q :: r) fun l hl => h l (List.mem_cons_of_mem _ hl)
    show (p ++ (s ++ TL.joinL s (q :: r))).length ≤ (q :: r).length.succ * k
    rw [List.length_append, List.length_append, Nat.succ_mul]
    omega
theorem sum_len : ∀ {ls : List (List Nat)}, (∀ l ∈ ls, l.length + s.length ≤ k) → (ls.map List.length).sum + ls.length * s.length ≤ ls.length * k
  | [], _ => by simp
  | p :: r, h => by
    have h1 := h p List.mem_cons_self
    have h2 := sum_len (ls := r) fun l hl => h l (List.mem_cons_of_mem _ hl)
    simp only [List.map_cons, List.sum_cons, List.length_cons, Nat.succ_mul]
    omega
theorem joinL_snoc {x : List Nat} : ∀ {ls : List (List Nat)}, ls ≠ [] → TL.joinL s (ls ++ [x]) = TL.joinL s ls ++ (s ++ x)
  | [], h => absurd rfl h
  | [p], _ => rfl
  | p :: q :: r, _ => by
    show p ++ (s ++ TL.joinL s ((q :: r) ++ [x])) = (p ++ (s ++ TL.joinL s (q :: r))) ++ (s ++ x)
    rw [joinL_snoc (ls := q :: r) (by simp)]
    simp only [List.append_assoc]
theorem joinL_mem : ∀ {ls : List (List Nat)}, c ∈ TL.joinL s ls → c ∈ s ∨ ∃ l ∈ ls, c ∈ l
  | [], h => nomatch h
  | [p], h => .inr ⟨p, List.mem_cons_self, h⟩
  | p :: q :: r, h => by
    rcases List.mem_append.mp (show c ∈ p ++ (s ++ TL.joinL s (q :: r)) from h) with h | h
    · exact .inr ⟨p, List.mem_cons_self, h⟩
    · rcases List.mem_append.mp h with h | h
      · exact .inl h
      · rcases joinL_mem (ls := q :: r) h with h | ⟨l, hl, h⟩
        · exact .inl h
        · exact .inr ⟨l, List.mem_cons_of_mem _ hl, h⟩
theorem strs_S : ∀ {ls : List (List Nat)}, strsD (ls.map fun l => .str (S l)) = some (ls.map S)
  | [] => rfl
  | l :: ls => by
    show (strsD (ls.map fun l => .str (S l))).map (S l :: ·) = _
    rw [strs_S]
    rfl
theorem join_S (h : ∀ l ∈ ls, l.length + s.length ≤ k) (hk : ls.length * k ≤ 16777216) : joinD (.str (S s)) [.lst (ls.map fun l => .str (S l))] A = .ok (.str (S (TL.joinL s ls))) A := by
  have e : (itemsD A (.lst (ls.map fun l => .str (S l)))).bind strsD = some (ls.map S) := strs_S
  show (match (itemsD A (.lst (ls.map fun l => .str (S l)))).bind strsD with
    | some ys => if (ys.map (fun y : Str => y.length)).sum + ys.length * (S s).length ≤ 16777216 then R.ok (D.str (Txt.join (S s) ys)) A else .bad
    | none => .bad) = _
  rw [e]
  have e2 : (ls.map fun x => x.length).sum + ls.length * s.length ≤ ls.length * k := sum_len h
  dsimp only
  rw [SX.lens, List.length_map, SX.S_len, if_pos (by omega), SX.join_S]
theorem split_S (hne : ls ≠ []) (h : ∀ l ∈ ls, c ∉ l) (hc : c < 256) (hl : (TL.joinL [c] ls).length + 2 ≤ 16777216) : splitD (.str (S (TL.joinL [c] ls))) [.str (S [c])] A = .ok (.lst (ls.map fun l => .str (S l))) A := by
  show (if ((S [c]).length == 0) = false ∧ (S (TL.joinL [c] ls)).length + 2 ≤ 16777216 then R.ok (D.lst ((Txt.split (S (TL.joinL [c] ls)) (S [c])).map .str)) A else .bad) = _
  rw [if_pos ⟨rfl, by rw [SX.S_len]; exact hl⟩, SX.split_S (by simp) (by simp [hc]), SX.spl_join hne h, List.map_map]
  rfl
end
/-! ### walks told item by item -/
inductive All2 {α β : Type} (P : α → β → Prop) : List α → List β → Prop
  | nil : All2 P [] []
  | cons {a b as bs} : P a b → All2 P as bs → All2 P (a :: as) (b :: bs)
theorem All2.len {α β : Type} {P : α → β → Prop} : ∀ {as : List α} {bs : List β}, All2 P as bs → as.length = bs.length
  | _, _, .nil => rfl
  | _, _, .cons _ h => by rw [List.length_cons, List.length_cons, h.len]
theorem All2.imp {α β : Type} {P Q : α → β → Prop} (f : ∀ a b, P a b → Q a b) : ∀ {as : List α} {bs : List β}, All2 P as bs → All2 Q as bs
  | _, _, .nil => .nil
  | _, _, .cons h h2 => .cons (f _ _ h) (h2.imp f)
theorem All2.get {α β : Type} {P : α → β → Prop} : ∀ {as : List α} {bs : List β} (i : Nat) (h : i < as.length) (h2 : i < bs.length), All2 P as bs → P as[i] bs[i]
  | _, _, 0, _, _, .cons h _ => h
  | _, _, i + 1, h, h2, .cons _ r => r.get i (by simpa using h) (by simpa using h2)
theorem All2.maps {α β γ : Type} {P : β → γ → Prop} {f : α → β} {g : α → γ} : ∀ {as : List α}, (∀ a ∈ as, P (f a) (g a)) → All2 P (as.map f) (as.map g)
  | [], _ => .nil
  | a :: as, h => .cons (h a List.mem_cons_self) (All2.maps fun b hb => h b (List.mem_cons_of_mem _ hb))
section
variable {g : MG} {tt : MT} {te : ME} {b : MS} {mi : Sl → AH → R IT} {vs : List Nat} {s : Sl} {A A1 : AH} {ds : List D}
theorem lcL_all2 {w : Sl} : ∀ {ds qs : List D}, All2 (fun d q => ∃ s1, g d w = some s1 ∧ tt s1 A = .ok true A ∧ te s1 A = .ok q A) ds qs → lcL g tt te w ds A = .ok qs A
  | _, _, .nil => rfl
  | _, _, .cons ⟨s1, h1, h2, h3⟩ h => by
    have ih := lcL_all2 h
    unfold lcL
    simp only [h1, h2, R.bindN_ok, if_true, h3, ih, R.bind_ok]
theorem lc_all2 {qs : List D} (h0 : mi s A = .ok (.data ds) A) (hl : ds.length < 16777216) (h : All2 (fun d q => ∃ s1, g d (wpD s vs) = some s1 ∧ tt s1 A = .ok true A ∧ te s1 A = .ok q A) ds qs) : mLc mi g tt te vs finF s A = .ok (.lst qs) A := by
  rw [mLc_of h0 hl, lcL_all2 h]
  rfl
theorem forL_at (I : Nat → Sl → AH → Prop) : ∀ {ds : List D} {s : Sl} {A : AH} (k : Nat), I k s A → (∀ j d s A, ds[j]? = some d → I (k + j) s A → ∃ s1 s2 A2, g d s = some s1 ∧ b s1 A = .nx s2 A2 ∧ I (k + j + 1) s2 A2) → ∃ s' A', forL g b ds s A = .nx s' A' ∧ I (k + ds.length) s' A'
  | [], s, A, k, hI, _ => ⟨s, A, rfl, hI⟩
  | d :: ds, s, A, k, hI, h => by
    obtain ⟨s1, s2, A2, h1, h2, h3⟩ := h 0 d s A rfl hI
    obtain ⟨s', A', e1, e2⟩ := forL_at (ds := ds) I (k + 1) h3 fun j e s A hj hI => by
      have := h (j + 1) e s A hj (by rw [show k + (j + 1) = k + 1 + j by omega]; exact hI)
      rw [show k + (j + 1) + 1 = k + 1 + j + 1 by omega] at this
      exact this
    refine ⟨s', A', ?_, by rw [show k + (d :: ds).length = k + 1 + ds.length by simp; omega]; exact e2⟩
    unfold forL
    simp only [h1, h2, e1]
/-- drawn tests: a part of what is walked -/
theorem lcL_sub {w : Sl} (I : AH → Prop) : ∀ {ds : List D} {A : AH}, I A → (∀ d ∈ ds, ∀ A, I A → ∃ s1 k A2, g d w = some s1 ∧ tt s1 A = .ok k A2 ∧ I A2 ∧ te s1 A2 = .ok d A2) → ∃ ys A', lcL g tt te w ds A = .ok ys A' ∧ I A' ∧ ys.Sublist ds
  | [], A, hI, _ => ⟨[], A, rfl, hI, .slnil⟩
  | d :: ds, A, hI, h => by
    obtain ⟨s1, k, A2, h1, h2, h3, h4⟩ := h d List.mem_cons_self A hI
    obtain ⟨ys, A', e1, e2, e3⟩ := lcL_sub (ds := ds) I h3 fun e he => h e (List.mem_cons_of_mem _ he)
    cases k with
    | true =>
      refine ⟨d :: ys, A', ?_, e2, e3.cons₂ d⟩
      unfold lcL
      simp only [h1, h2, R.bindN_ok, if_true, h4, e1, R.bind_ok]
    | false =>
      refine ⟨ys, A', ?_, e2, e3.cons d⟩
      unfold lcL
      simp [h1, h2, e1]
theorem lc_sub (I : AH → Prop) (h0 : mi s A = .ok (.data ds) A1) (hl : ds.length < 16777216) (hI : I A1) (h : ∀ d ∈ ds, ∀ A, I A → ∃ s1 k A2, g d (wpD s vs) = some s1 ∧ tt s1 A = .ok k A2 ∧ I A2 ∧ te s1 A2 = .ok d A2) :
    ∃ ys A', mLc mi g tt te vs finF s A = .ok (.lst ys) A' ∧ I A' ∧ ys.Sublist ds := by
  obtain ⟨ys, A', e1, e2⟩ := lcL_sub (w := wpD s vs) I hI h
  refine ⟨ys, A', ?_, e2⟩
  rw [mLc_of h0 hl, e1]
  rfl
end
end Tg

set_option Elab.async false
set_option linter.all false
set_option maxRecDepth 100000
set_option maxHeartbeats 2000000
/-! TgRng: list(range(n)), a list that will change. -/
namespace Tg
open PySem L2
def mLRgN (a : ME) : ME := fun s A => (a s A).bind fun x A1 => match x with
  | .int n => if 0 ≤ n ∧ n ≤ 16777216 then .ok (.ref A1.length) (A1 ++ [.lst (rngL 0 1 n.toNat)]) else .bad
  | _ => .bad
section
variable {X : Cx} {Wx : WX} {a : Expr} {ta : TE} {ma : ME} {p p2 pos pos2 : Pos}
theorem reps_rg (K : PySem.W.Frag) (W : Wd) (n : Int) : Reps K W (rngL 0 1 n.toNat) (rgV 0 n) := by
  have e1 : rngL 0 1 n.toNat = ((List.range n.toNat).map fun i : Nat => (i : Int)).map D.int := by
    unfold rngL
    rw [List.map_map]
    refine List.map_congr_left fun i _ => ?_
    show D.int (0 + (i : Int) * 1) = D.int i
    congr 1
    omega
  have e2 : rgV 0 n = ((List.range n.toNat).map fun i : Nat => (i : Int)).map V.int := by
    unfold rgV
    rw [List.map_map, Int.sub_zero]
    refine List.map_congr_left fun i _ => ?_
    show V.int (0 + (i : Int)) = V.int i
    congr 1
    omega
  rw [e1, e2]
  exact reps_ints W _
theorem slrgN (hc : X.calm = true) (hm : X.mg "list" = none) (hm2 : X.mg "range" = none) (ha : SE X Wx a ta ma) (hg : Gl X "list" := by rfl) (hg2 : Gl X "range" := by rfl)
    (na : starEach [a] X.env = (false, eval a X.env) :: starEach [] X.env := by rfl)
    (na2 : starEach [.Call (.Name "range" p2) [a] [] pos2] X.env = (false, eval (.Call (.Name "range" p2) [a] [] pos2) X.env) :: starEach [] X.env := by rfl) :
    SE X Wx (.Call (.Name "list" p) [.Call (.Name "range" p2) [a] [] pos2] [] pos) (tLstRg (tRg1 ta)) (mLRgN ma) :=
  ⟨pe_listRg hc hg hm (prg_1 hg2 hm2 ha.pe na) na2, fun W σ s A H Q k sr z => ha.sim W σ s A H _ k sr (z.bind fun x A1 v W1 H1 e1 k1 r1 h1 => by
    cases x with
    | int n =>
      obtain rfl : v = V.int n := r1
      dsimp only at h1
      by_cases q : 0 ≤ n ∧ n ≤ 16777216
      · rw [if_pos q] at h1
        exact ⟨n, rfl, RgOk.of_le (Int.le_refl 0) q.2 (by omega) q.1, fun q hq => post_new k1 h1 (reps_rg X.K W1 n) hq⟩
      · rw [if_neg q] at h1
        exact h1.elim
    | _ => exact h1.elim)⟩
end
end Tg

set_option Elab.async false
set_option linter.all false
set_option maxRecDepth 100000
set_option maxHeartbeats 2000000
/-! TgDat: == and in of data of any depth. -/
namespace Tg
open PySem L2
open SX (S)
mutual
/-- numbers, texts, None, lists and tuples of them -/
def datD : D → Bool
  | .non => true
  | .int _ => true
  | .str z => PyData.strOk z
  | .tup ds => datL ds
  | .lst ds => datL ds
  | _ => false
def datL : List D → Bool
  | [] => true
  | d :: ds => datD d && datL ds
end
mutual
def depD : D → Nat
  | .tup ds => depL ds + 1
  | .lst ds => depL ds + 1
  | _ => 0
def depL : List D → Nat
  | [] => 0
  | d :: ds => max (depD d) (depL ds)
end
mutual
def pyD : D → PyData
  | .int i => .int i
  | .str z => .str z
  | .tup ds => .tuple (pyL ds)
  | .lst ds => .list (pyL ds)
  | _ => .none
def pyL : List D → List PyData
  | [] => []
  | d :: ds => pyD d :: pyL ds
end
mutual
theorem pyOf_dat {A : AH} : ∀ (d : D) (n : Nat), datD d = true → depD d < n → pyOf n A d = some (pyD d)
  | _, 0, _, h => absurd h (Nat.not_lt_zero _)
  | .non, n + 1, _, _ => by simp [pyOf, pyD]
  | .int i, n + 1, _, _ => by simp [pyOf, pyD]
  | .str z, n + 1, _, _ => by simp [pyOf, pyD]
  | .tup ds, n + 1, h, h2 => by
    have e := pysOf_dat (A := A) ds n (by simpa [datD] using h) (by simpa [depD] using h2)
    simp [pyOf, pyD, e]
  | .lst ds, n + 1, h, h2 => by
    have e := pysOf_dat (A := A) ds n (by simpa [datD] using h) (by simpa [depD] using h2)
    simp [pyOf, pyD, e]
  | .bl b, n + 1, h, _ => by simp [datD] at h
  | .dct ks ds, n + 1, h, _ => by simp [datD] at h
  | .ref r, n + 1, h, _ => by simp [datD] at h
  | .scr ns, n + 1, h, _ => by simp [datD] at h
theorem pysOf_dat {A : AH} : ∀ (ds : List D) (n : Nat), datL ds = true → depL ds < n → pysOf (pyOf n A) ds = some (pyL ds)
  | [], n, _, _ => by simp [pysOf, pyL]
  | d :: ds, n, h, h2 => by
    simp only [datL, Bool.and_eq_true] at h
    simp only [depL] at h2
    have e1 := pyOf_dat (A := A) d n h.1 (by omega)
    have e2 := pysOf_dat (A := A) ds n h.2 (by omega)
    simp [pysOf, pyL, e1, e2]
end
mutual
theorem lay_dat : ∀ (d : D), datD d = true → PyData.canLay0 (pyD d) = true ∧ PyData.depth (pyD d) = depD d
  | .non, _ => by simp [pyD, PyData.canLay0, PyData.depth, depD]
  | .int i, _ => by simp [pyD, PyData.canLay0, PyData.depth, depD]
  | .str z, h => by
    have : PyData.strOk z = true := by simpa [datD] using h
    simp [pyD, PyData.canLay0, PyData.depth, depD, this]
  | .tup ds, h => by
    obtain ⟨e1, e2⟩ := lays_dat ds (by simpa [datD] using h)
    simp [pyD, PyData.canLay0, PyData.depth, depD, e1, e2]
  | .lst ds, h => by
    obtain ⟨e1, e2⟩ := lays_dat ds (by simpa [datD] using h)
    simp [pyD, PyData.canLay0, PyData.depth, depD, e1, e2]
  | .bl b, h => by simp [datD] at h
  | .dct ks ds, h => by simp [datD] at h
  | .ref r, h => by simp [datD] at h
  | .scr ns, h => by simp [datD] at h
theorem lays_dat : ∀ (ds : List D), datL ds = true → PyData.canLayAll0 (pyL ds) = true ∧ PyData.depthAll (pyL ds) = depL ds
  | [], _ => by simp [pyL, PyData.canLayAll0, PyData.depthAll, depL]
  | d :: ds, h => by
    simp only [datL, Bool.and_eq_true] at h
    obtain ⟨a1, a2⟩ := lay_dat d h.1
    obtain ⟨b1, b2⟩ := lays_dat ds h.2
    simp [pyL, PyData.canLayAll0, PyData.depthAll, depL, a1, a2, b1, b2]
end
mutual
theorem eqv_dat : ∀ (d e : D), datD d = true → datD e = true → (PyData.eqv (pyD d) (pyD e) = true ↔ d = e)
  | .non, e, _, h => by cases e <;> simp [pyD, PyData.eqv, datD] at h ⊢
  | .int i, e, _, h => by cases e <;> simp [pyD, PyData.eqv, datD] at h ⊢
  | .str z, e, _, h => by cases e <;> simp [pyD, PyData.eqv, datD] at h ⊢
  | .tup ds, e, h1, h => by
    cases e with
    | tup es =>
      have := eqvs_dat ds es (by simpa [datD] using h1) (by simpa [datD] using h)
      simp [pyD, PyData.eqv, this]
    | _ => simp [pyD, PyData.eqv, datD] at h ⊢
  | .lst ds, e, h1, h => by
    cases e with
    | lst es =>
      have := eqvs_dat ds es (by simpa [datD] using h1) (by simpa [datD] using h)
      simp [pyD, PyData.eqv, this]
    | _ => simp [pyD, PyData.eqv, datD] at h ⊢
  | .bl b, _, h, _ => by simp [datD] at h
  | .dct ks ds, _, h, _ => by simp [datD] at h
  | .ref r, _, h, _ => by simp [datD] at h
  | .scr ns, _, h, _ => by simp [datD] at h
theorem eqvs_dat : ∀ (ds es : List D), datL ds = true → datL es = true → (PyData.eqvAll (pyL ds) (pyL es) = true ↔ ds = es)
  | [], [], _, _ => by simp [pyL, PyData.eqvAll]
  | [], _ :: _, _, _ => by simp [pyL, PyData.eqvAll]
  | _ :: _, [], _, _ => by simp [pyL, PyData.eqvAll]
  | d :: ds, e :: es, h1, h2 => by
    simp only [datL, Bool.and_eq_true] at h1 h2
    have a := eqv_dat d e h1.1 h2.1
    have b := eqvs_dat ds es h1.2 h2.2
    simp only [pyL, PyData.eqvAll, Bool.and_eq_true, a, b, List.cons.injEq]
end
theorem shaped_dat {d : D} (h : datD d = true) (h2 : depD d ≤ 11) : SeqAt.shaped (pyD d) = true := by
  obtain ⟨a, b⟩ := lay_dat d h
  unfold SeqAt.shaped
  rw [a, b, decide_eq_true (show depD d ≤ 64 by omega)]
  rfl
/-- == by trees -/
def eqB (x y : D) : Bool := PyData.eqv (pyD x) (pyD y)
theorem eqB_iff {x y : D} (hx : datD x = true) (hy : datD y = true) : eqB x y = true ↔ x = y := eqv_dat x y hx hy
theorem eqB_refl {x : D} (hx : datD x = true) : eqB x x = true := (eqB_iff hx hx).mpr rfl
theorem eqB_ne {x y : D} (hx : datD x = true) (hy : datD y = true) (h : x ≠ y) : eqB x y = false := by
  cases e : eqB x y with
  | false => rfl
  | true => exact absurd ((eqB_iff hx hy).mp e) h
theorem scEq_dat {x y : D} {b : Bool} (h : scEq x y = some b) (hx : datD x = true) (hy : datD y = true) : b = eqB x y := by
  unfold eqB
  cases x <;> cases y <;> simp [scEq, datD, pyD, PyData.eqv] at h hx hy ⊢
  all_goals first
    | exact h.symm
    | exact h
theorem eq_dat {x y : D} {A : AH} (h : (datD x && datD y) = true) (h2 : (decide (depD x ≤ 11) && decide (depD y ≤ 11)) = true) : eqD x y A = .ok (.bl (eqB x y)) A := by
  simp only [Bool.and_eq_true, decide_eq_true_eq] at h h2
  unfold eqD
  cases e : scEq x y with
  | some b =>
    rw [scEq_dat e h.1 h.2]
  | none =>
    rw [pyOf_dat x 12 h.1 (by omega), pyOf_dat y 12 h.2 (by omega)]
    simp only [shaped_dat h.1 h2.1, shaped_dat h.2 h2.2, Bool.and_self, if_true]
    rfl
theorem ne_dat {x y : D} {A : AH} (h : (datD x && datD y) = true) (h2 : (decide (depD x ≤ 11) && decide (depD y ≤ 11)) = true) : neD x y A = .ok (.bl (!(eqB x y))) A := by
  simp only [Bool.and_eq_true, decide_eq_true_eq] at h h2
  unfold neD
  cases e : scEq x y with
  | some b =>
    rw [scEq_dat e h.1 h.2]
  | none =>
    rw [pyOf_dat x 12 h.1 (by omega), pyOf_dat y 12 h.2 (by omega)]
    simp only [shaped_dat h.1 h2.1, shaped_dat h.2 h2.2, Bool.and_self, if_true]
    rfl
/-- a list that changes, against data -/
theorem ne_refL {n : Nat} {ds : List D} {y : D} {A : AH} (hA : A[n]? = some (.lst ds)) (h : (datL ds && datD y) = true) (h2 : (decide (depL ds ≤ 10) && decide (depD y ≤ 11)) = true) : neD (.ref n) y A = .ok (.bl (!(eqB (.lst ds) y))) A := by
  simp only [Bool.and_eq_true, decide_eq_true_eq] at h h2
  have e0 : scEq (.ref n) y = none := by cases y <;> rfl
  have e1 : pyOf 12 A (.ref n) = some (pyD (.lst ds)) := by
    show (match A[n]? with
      | some (.lst ds) => (pysOf (pyOf 11 A) ds).map PyData.list
      | _ => none) = _
    rw [hA]
    dsimp only
    rw [pysOf_dat ds 11 h.1 (by omega)]
    simp [pyD]
  unfold neD
  rw [e0, e1, pyOf_dat y 12 h.2 (by omega)]
  have s1 : SeqAt.shaped (pyD (.lst ds)) = true := shaped_dat (by simpa [datD] using h.1) (by simp [depD]; omega)
  simp only [s1, shaped_dat h.2 h2.2, Bool.and_self, if_true]
  rfl
theorem any_py {x : D} : ∀ {ds : List D}, (pyL ds).any (fun z => PyData.eqv z (pyD x)) = ds.any fun z => eqB z x
  | [] => rfl
  | d :: ds => by
    simp only [pyL, List.any_cons, any_py]
    rfl
theorem any_mem {x : D} (hx : datD x = true) {ds : List D} (h : datL ds = true) : (ds.any fun z => eqB z x) = true ↔ x ∈ ds := by
  induction ds with
  | nil => simp
  | cons d ds ih =>
    simp only [datL, Bool.and_eq_true] at h
    simp only [List.any_cons, Bool.or_eq_true, List.mem_cons, ih h.2, eqB_iff h.1 hx]
    exact ⟨fun q => q.imp Eq.symm id, fun q => q.imp Eq.symm id⟩
/-- in of tuples -/
theorem inB_lst {xs ds : List D} {y : D} {A : AH} (hy : seqL A y = some ds) (hi : itemsD A y = some ds) (hd : dctD A y = none) (hp : pyOf 12 A y = some (pyD (.lst ds))) (h : (datL xs && datL ds) = true) (h2 : (decide (depL xs ≤ 10) && decide (depL ds ≤ 10)) = true) :
    inB (.tup xs) y A = some (ds.any fun z => eqB z (.tup xs)) := by
  simp only [Bool.and_eq_true, decide_eq_true_eq] at h h2
  have e : inB (.tup xs) y A = (match dctD A y with
    | some kvs => (keyD (.tup xs)).map fun k => (lkK kvs k).isSome
    | none => match itemsD A y with
      | some ds => if (flatD (.tup xs) && ds.all flatD) = true then some (ds.any fun z => feq z (.tup xs)) else
          match seqL A y, pyOf 12 A (.tup xs), pyOf 12 A y with
          | some _, some p, some (.list qs) => if SeqAt.shaped p && SeqAt.shaped (.list qs) then some (qs.any fun z => PyData.eqv z p) else none
          | _, _, _ => none
      | none => none) := by
    cases y <;> rfl
  have s1 : SeqAt.shaped (pyD (.tup xs)) = true := shaped_dat (by simpa [datD] using h.1) (by simp [depD]; omega)
  have s2 : SeqAt.shaped (pyD (.lst ds)) = true := shaped_dat (by simpa [datD] using h.2) (by simp [depD]; omega)
  have p1 : pyOf 12 A (.tup xs) = some (pyD (.tup xs)) := pyOf_dat _ _ (by simpa [datD] using h.1) (by simp [depD]; omega)
  have e2 : pyD (.lst ds) = .list (pyL ds) := by simp [pyD]
  rw [e, hd, hi, hp, hy, p1, e2]
  rw [e2] at s2
  show (if (flatD (.tup xs) && ds.all flatD) = true then _ else _) = _
  rw [if_neg (by simp [flatD])]
  simp only [s1, s2, Bool.and_self, if_true, any_py]
theorem nin_lst {xs ds : List D} {A : AH} (h : (datL xs && datL ds) = true) (h2 : (decide (depL xs ≤ 10) && decide (depL ds ≤ 10)) = true) : ninD (.tup xs) (.lst ds) A = .ok (.bl (!(ds.any fun z => eqB z (.tup xs)))) A := by
  have hb := h
  have hb2 := h2
  simp only [Bool.and_eq_true, decide_eq_true_eq] at hb hb2
  unfold ninD
  rw [inB_lst (y := .lst ds) rfl rfl rfl (pyOf_dat _ _ (by simpa [datD] using hb.2) (by simp [depD]; omega)) h h2]
theorem nin_ref {xs ds : List D} {n : Nat} {A : AH} (hA : A[n]? = some (.lst ds)) (h : (datL xs && datL ds) = true) (h2 : (decide (depL xs ≤ 10) && decide (depL ds ≤ 10)) = true) : ninD (.tup xs) (.ref n) A = .ok (.bl (!(ds.any fun z => eqB z (.tup xs)))) A := by
  have hb := h
  have hb2 := h2
  simp only [Bool.and_eq_true, decide_eq_true_eq] at hb hb2
  have e1 : pyOf 12 A (.ref n) = some (pyD (.lst ds)) := by
    show (match A[n]? with
      | some (.lst ds) => (pysOf (pyOf 11 A) ds).map PyData.list
      | _ => none) = _
    rw [hA]
    dsimp only
    rw [pysOf_dat ds 11 hb.2 (by omega)]
    simp [pyD]
  unfold ninD
  rw [inB_lst (y := .ref n) (by rw [seq_ref, hA]) (by simp [itemsD, seq_ref, hA]) (by rw [dct_ref, hA]) e1 h h2]
theorem datL_all : ∀ {ds : List D}, (∀ d ∈ ds, datD d = true) → datL ds = true
  | [], _ => by simp [datL]
  | d :: ds, h => by simp [datL, h d List.mem_cons_self, datL_all fun e he => h e (List.mem_cons_of_mem _ he)]
theorem depL_all {k : Nat} : ∀ {ds : List D}, (∀ d ∈ ds, depD d ≤ k) → depL ds ≤ k
  | [], _ => Nat.zero_le _
  | d :: ds, h => by
    have h1 := h d List.mem_cons_self
    have h2 := depL_all fun e he => h e (List.mem_cons_of_mem _ he)
    simp only [depL]
    omega
end Tg

set_option Elab.async false
set_option linter.all false
set_option maxRecDepth 100000
set_option maxHeartbeats 2000000
/-! TgWord: words of cells and boxes: numbers, keys, gates. -/
namespace Tg
open PySem L2
open SX (S)
/-! ### comprehensions that change nothing, over what is walked in any way -/
section
variable {g : MG} {tt : MT} {te : ME} {mi : Sl → AH → R IT} {vs : List Nat} {fin : List D → AH → R D} {s w : Sl} {A : AH} {it : IT} {ds : List D}
theorem lcG_all (hn : ∀ i, itNext it i A = some ds[i]?) : ∀ (f i : Nat) (ps : List (Bool × D)), i + f = ds.length + 1 → f ≠ 0 → All2 (fun d b => ∃ s1, g d w = some s1 ∧ tt s1 A = .ok b.1 A ∧ (b.1 = true → te s1 A = .ok b.2 A)) (ds.drop i) ps → lcG g tt te it w f i A = .ok ((ps.filter (·.1)).map (·.2)) A
  | 0, _, _, _, h, _ => absurd rfl h
  | f + 1, i, ps, h, _, hp => by
    unfold lcG
    rw [hn]
    cases hd : ds[i]? with
    | none =>
      rw [List.drop_eq_nil_of_le (List.getElem?_eq_none_iff.mp hd)] at hp
      cases hp
      rfl
    | some d =>
      obtain ⟨hi, rfl⟩ := List.getElem?_eq_some_iff.mp hd
      rw [List.drop_eq_getElem_cons hi] at hp
      cases hp with
      | cons h1 h2 =>
        rename_i b bs
        obtain ⟨s1, e1, e2, e3⟩ := h1
        have ih := lcG_all hn f (i + 1) bs (by omega) (by omega) h2
        dsimp only
        rw [e1]
        dsimp only
        rw [e2, R.bindN_ok]
        cases hb : b.1 with
        | true =>
          rw [if_pos rfl, e3 hb, R.bindN_ok, ih, R.bind_ok, List.filter_cons, hb]
          rfl
        | false =>
          rw [if_neg (by simp), ih, List.filter_cons, hb]
          rfl
theorem lc_all {ps : List (Bool × D)} (h0 : mi s A = .ok it A) (hn : ∀ i, itNext it i A = some ds[i]?) (hlen : itLen it A = ds.length) (hl : ds.length < 16777216)
    (hp : All2 (fun d b => ∃ s1, g d (wpD s vs) = some s1 ∧ tt s1 A = .ok b.1 A ∧ (b.1 = true → te s1 A = .ok b.2 A)) ds ps) : mLc mi g tt te vs fin s A = fin ((ps.filter (·.1)).map (·.2)) A := by
  unfold mLc
  rw [h0, R.bind_ok, hlen, if_pos hl, lcG_all hn (ds.length + 1) 0 ps (by omega) (by omega) hp]
  rfl
theorem nx_data : ∀ i, itNext (.data ds) i A = some ds[i]? := fun _ => rfl
theorem nx_ref {n : Nat} (h : A[n]? = some (.lst ds)) : ∀ i, itNext (.ref n) i A = some ds[i]? := fun i => by simp only [itNext, h]
theorem ln_ref {n : Nat} (h : A[n]? = some (.lst ds)) : itLen (.ref n) A = ds.length := by simp only [itLen, h]
theorem it_ref {n : Nat} {m : ME} (h : m s A = .ok (.ref n) A) (hA : A[n]? = some (.lst ds)) : miAny m s A = .ok (.ref n) A := by
  unfold miAny
  rw [h, R.bind_ok]
  simp only [itOf, hA]
end
@[simp] theorem at4 {α : Type} {p q r s t : α} {xs : List α} : atI (p :: q :: r :: s :: t :: xs) 4 = some t := Tg.atI_nat 4
/-! ### words -/
def R16 : List (List Nat) := [[], [115], [108], [108, 115], [104], [104, 115], [104, 108], [104, 108, 115], [103], [103, 115], [103, 108], [103, 108, 115], [103, 104], [103, 104, 115], [103, 104, 108], [103, 104, 108, 115]]
theorem R16_ok : ∀ l ∈ R16, PyData.strOk (S l) = true ∧ l.length ≤ 4 := by decide +kernel
/-- numbers, keys -/
inductive Pl where
  | num (i : Int) | key (b e a : Int) (r : List Nat)
  deriving DecidableEq
inductive Wo where
  | pl (p : Pl) | gate (g : Int) (p : Pl)
  deriving DecidableEq
def Pl.d : Pl → D
  | .num i => .int i
  | .key b e a r => .tup [.str "key", .int b, .int e, .int a, .str (S r)]
def Wo.d : Wo → D
  | .pl p => p.d
  | .gate g p => .tup [.str "gate", .int g, p.d]
inductive Pl.Ok (most : Nat) : Pl → Prop
  | num {i : Int} : -10000 ≤ i → i < 10000 → Pl.Ok most (.num i)
  | key {b e a : Int} {r : List Nat} : 0 ≤ b → b < most → b + 1 ≤ e → e ≤ most → -10000 ≤ a → a < 10000 → r ∈ R16 → Pl.Ok most (.key b e a r)
inductive Wo.Ok (rows most : Nat) : Wo → Prop
  | pl {p : Pl} : p.Ok most → Wo.Ok rows most (.pl p)
  | gate {g : Int} {p : Pl} : 0 ≤ g → g < rows + 1 → p.Ok most → Wo.Ok rows most (.gate g p)
def Wo.isNum : Wo → Bool
  | .pl (.num _) => true
  | _ => false
theorem ok_key : PyData.strOk (Str.ofString "key") = true := by decide +kernel
theorem ok_gate : PyData.strOk (Str.ofString "gate") = true := by decide +kernel
theorem Pl.Ok.dat {most : Nat} {p : Pl} (h : p.Ok most) : datD p.d = true ∧ depD p.d ≤ 1 := by
  cases h with
  | num => simp [Pl.d, datD, depD]
  | key _ _ _ _ _ _ hr => simp [Pl.d, datD, datL, depD, depL, ok_key, (R16_ok _ hr).1]
theorem Wo.Ok.dat {rows most : Nat} {w : Wo} (h : w.Ok rows most) : datD w.d = true ∧ depD w.d ≤ 2 := by
  cases h with
  | pl h => exact ⟨h.dat.1, Nat.le_trans h.dat.2 (by decide)⟩
  | gate _ _ h =>
    have h1 := h.dat.1
    have h2 := h.dat.2
    refine ⟨by simp [Wo.d, datD, datL, ok_gate, h1], ?_⟩
    simp only [Wo.d, depD, depL]
    omega
theorem Pl.d_inj {p q : Pl} (h : p.d = q.d) : p = q := by
  cases p <;> cases q <;> simp [Pl.d] at h ⊢
  all_goals exact h
theorem Wo.d_inj {p q : Wo} (h : p.d = q.d) : p = q := by
  cases p with
  | pl p =>
    cases q with
    | pl q => exact congrArg Wo.pl (Pl.d_inj h)
    | gate g q => cases p <;> simp [Wo.d, Pl.d] at h
  | gate g p =>
    cases q with
    | pl q => cases q <;> simp [Wo.d, Pl.d] at h
    | gate g' q =>
      simp only [Wo.d, D.tup.injEq, List.cons.injEq, D.int.injEq, and_true, true_and] at h
      rw [h.1, Pl.d_inj h.2]
theorem mem_d {w : Wo} {ws : List Wo} : w.d ∈ ws.map Wo.d ↔ w ∈ ws := by
  refine ⟨fun h => ?_, fun h => List.mem_map_of_mem h⟩
  obtain ⟨v, hv, e⟩ := List.mem_map.mp h
  rw [← Wo.d_inj e]
  exact hv
/-- w.d as a tuple's items -/
def Wo.items (w : Wo) : List D := match w.d with
  | .tup ds => ds
  | _ => []
theorem Wo.d_tup {w : Wo} (h : w.isNum = false) : w.d = .tup w.items := by
  cases w with
  | pl p => cases p with
    | num i => cases h
    | key => rfl
  | gate => rfl
theorem Wo.it_dat {rows most : Nat} {w : Wo} (h : w.Ok rows most) (hn : w.isNum = false) : datL w.items = true ∧ depL w.items ≤ 1 := by
  have h1 := h.dat.1
  have h2 := h.dat.2
  rw [Wo.d_tup hn] at h1 h2
  refine ⟨by simpa [datD] using h1, ?_⟩
  simp only [depD] at h2
  omega
theorem dats {rows most : Nat} {ws : List Wo} (h : ∀ w ∈ ws, w.Ok rows most) : datL (ws.map Wo.d) = true ∧ depL (ws.map Wo.d) ≤ 2 :=
  ⟨datL_all fun d hd => by
    obtain ⟨w, hw, rfl⟩ := List.mem_map.mp hd
    exact (h w hw).dat.1, depL_all fun d hd => by
    obtain ⟨w, hw, rfl⟩ := List.mem_map.mp hd
    exact (h w hw).dat.2⟩
theorem any_w {rows most : Nat} {ws : List Wo} {w : Wo} (h : ∀ w ∈ ws, w.Ok rows most) (hw : w.Ok rows most) (hn : w.isNum = false) : ((ws.map Wo.d).any fun z => eqB z (.tup w.items)) = decide (w ∈ ws) := by
  have e := any_mem (x := .tup w.items) (by rw [← Wo.d_tup hn]; exact hw.dat.1) (dats h).1
  rw [← Wo.d_tup hn, mem_d] at e
  rw [← Wo.d_tup hn]
  by_cases q : w ∈ ws
  · rw [e.mpr q, decide_eq_true q]
  · rw [decide_eq_false q]
    cases z : (ws.map Wo.d).any fun z => eqB z w.d with
    | false => rfl
    | true => exact absurd (e.mp z) q
/-- w not in a list, one that lies still -/
theorem nin_w {rows most : Nat} {ws : List Wo} {w : Wo} {A : AH} (h : ∀ w ∈ ws, w.Ok rows most) (hw : w.Ok rows most) (hn : w.isNum = false) : ninD w.d (.lst (ws.map Wo.d)) A = .ok (.bl (!(decide (w ∈ ws)))) A := by
  have a := Wo.it_dat hw hn
  have b := dats h
  rw [Wo.d_tup hn, nin_lst (by rw [a.1, b.1]; rfl) (by simp only [Bool.and_eq_true, decide_eq_true_eq]; omega), any_w h hw hn]
theorem nin_wR {rows most n : Nat} {ws : List Wo} {w : Wo} {A : AH} (hA : A[n]? = some (.lst (ws.map Wo.d))) (h : ∀ w ∈ ws, w.Ok rows most) (hw : w.Ok rows most) (hn : w.isNum = false) : ninD w.d (.ref n) A = .ok (.bl (!(decide (w ∈ ws)))) A := by
  have a := Wo.it_dat hw hn
  have b := dats h
  rw [Wo.d_tup hn, nin_ref hA (by rw [a.1, b.1]; rfl) (by simp only [Bool.and_eq_true, decide_eq_true_eq]; omega), any_w h hw hn]
/-! ### what is come to -/
def hasG (r : List Nat) : Bool := decide (103 ∈ r) && decide (104 ∈ r)
/-- the words that a word leads to -/
def succs (gates : Bool) (cells : List Wo) : Wo → List Wo
  | .pl (.num _) => []
  | .pl (.key b e _ r) => if hasG r then (cells.drop b.toNat).take (e.toNat - b.toNat) else []
  | .gate _ p => if gates then [.pl p] else []
inductive Reach (gates : Bool) (cells boxes : List Wo) : Wo → Prop
  | box {w : Wo} : w ∈ boxes → w.isNum = false → Reach gates cells boxes w
  | step {v w : Wo} : Reach gates cells boxes v → w ∈ succs gates cells v → w.isNum = false → Reach gates cells boxes w
def inner : Wo → List Wo
  | .gate _ p => [.pl p]
  | _ => []
def univ (cells boxes : List Wo) : List Wo := boxes ++ cells ++ (boxes.flatMap inner ++ cells.flatMap inner)
theorem Reach.num {gates : Bool} {cells boxes : List Wo} {w : Wo} (h : Reach gates cells boxes w) : w.isNum = false := by
  cases h <;> assumption
theorem mem_inner {v w : Wo} (h : w ∈ inner v) : ∃ p, w = .pl p := by
  cases v with
  | pl p => cases h
  | gate g p => exact ⟨p, List.mem_singleton.mp h⟩
theorem succ_univ {gates : Bool} {cells boxes : List Wo} {v w : Wo} (hv : v ∈ univ cells boxes) (h : w ∈ succs gates cells v) : w ∈ univ cells boxes := by
  unfold univ at hv ⊢
  cases v with
  | pl p =>
    cases p with
    | num i => cases h
    | key b e a r =>
      simp only [succs] at h
      split at h
      · have := List.mem_of_mem_drop (List.mem_of_mem_take h)
        exact List.mem_append_left _ (List.mem_append_right _ this)
      · cases h
  | gate g p =>
    simp only [succs] at h
    split at h
    · have e := List.mem_singleton.mp h
      have hi : w ∈ inner (.gate g p) := by rw [e]; exact List.mem_singleton.mpr rfl
      rcases List.mem_append.mp hv with hv | hv
      · rcases List.mem_append.mp hv with hv | hv
        · exact List.mem_append_right _ (List.mem_append_left _ (List.mem_flatMap.mpr ⟨_, hv, hi⟩))
        · exact List.mem_append_right _ (List.mem_append_right _ (List.mem_flatMap.mpr ⟨_, hv, hi⟩))
      · rcases List.mem_append.mp hv with hv | hv
        · obtain ⟨z, _, hz⟩ := List.mem_flatMap.mp hv
          obtain ⟨q, e2⟩ := mem_inner hz
          cases e2
        · obtain ⟨z, _, hz⟩ := List.mem_flatMap.mp hv
          obtain ⟨q, e2⟩ := mem_inner hz
          cases e2
    · cases h
theorem Reach.univ {gates : Bool} {cells boxes : List Wo} {w : Wo} (h : Reach gates cells boxes w) : w ∈ univ cells boxes := by
  induction h with
  | box h _ => exact List.mem_append_left _ (List.mem_append_left _ h)
  | step _ h _ ih => exact succ_univ ih h
theorem inner_len : ∀ {l : List Wo}, (l.flatMap inner).length ≤ l.length
  | [] => Nat.le_refl _
  | w :: l => by
    have := inner_len (l := l)
    have h1 : (inner w).length ≤ 1 := by cases w <;> simp [inner]
    simp only [List.flatMap_cons, List.length_append, List.length_cons]
    omega
theorem univ_len {cells boxes : List Wo} : (univ cells boxes).length ≤ 2 * (cells.length + boxes.length) := by
  have h1 := inner_len (l := boxes)
  have h2 := inner_len (l := cells)
  simp only [univ, List.length_append]
  omega
theorem succ_ok {gates : Bool} {cells : List Wo} {rows most : Nat} {v w : Wo} (hc : ∀ w ∈ cells, w.Ok rows most) (hv : v.Ok rows most) (h : w ∈ succs gates cells v) : w.Ok rows most := by
  cases hv with
  | pl hp =>
    cases hp with
    | num => cases h
    | key =>
      simp only [succs] at h
      split at h
      · exact hc _ (List.mem_of_mem_drop (List.mem_of_mem_take h))
      · cases h
  | gate _ _ hp =>
    simp only [succs] at h
    split at h
    · rw [List.mem_singleton.mp h]
      exact .pl hp
    · cases h
/-- pigeons -/
theorem nodup_le {α : Type} [DecidableEq α] : ∀ {l u : List α}, l.Nodup → (∀ x ∈ l, x ∈ u) → l.length ≤ u.length
  | [], _, _, _ => Nat.zero_le _
  | x :: l, u, hn, h => by
    have hn' := List.nodup_cons.mp hn
    have hx := h x List.mem_cons_self
    have ih := nodup_le (l := l) (u := u.erase x) hn'.2 fun y hy => by
      refine (List.mem_erase_of_ne fun e => ?_).mpr (h y (List.mem_cons_of_mem _ hy))
      exact hn'.1 (e ▸ hy)
    rw [List.length_erase_of_mem hx] at ih
    have : 0 < u.length := List.length_pos_of_mem hx
    simp only [List.length_cons]
    omega
/-- does a word's key touch a cell by a letter? -/
def touch (c : Int) (l : Nat) : Wo → Bool
  | .pl (.key b e _ r) => decide (b ≤ c) && (decide (c < e) && decide (l ∈ r))
  | _ => false
/-- the letters of a cell -/
def lettersOf (ws : List Wo) (c : Int) : List Nat := (if ws.any (touch c 103) then [103] else []) ++ (if ws.any (touch c 115) then [115] else [])
theorem letters_same {ws vs : List Wo} (h : ∀ w : Wo, (∃ b e a r, w = .pl (.key b e a r)) → (w ∈ ws ↔ w ∈ vs)) (c : Int) : lettersOf ws c = lettersOf vs c := by
  have e : ∀ l, ws.any (touch c l) = vs.any (touch c l) := fun l => by
    rw [Bool.eq_iff_iff, List.any_eq_true, List.any_eq_true]
    have key : ∀ w : Wo, touch c l w = true → ∃ b e a r, w = .pl (.key b e a r) := fun w hw => by
      cases w with
      | pl p => cases p with
        | num => cases hw
        | key b e a r => exact ⟨b, e, a, r, rfl⟩
      | gate => cases hw
    exact ⟨fun ⟨w, h1, h2⟩ => ⟨w, (h w (key w h2)).mp h1, h2⟩, fun ⟨w, h1, h2⟩ => ⟨w, (h w (key w h2)).mpr h1, h2⟩⟩
  unfold lettersOf
  rw [e, e]
end Tg

set_option Elab.async false
set_option linter.all false
set_option maxRecDepth 100000
set_option maxHeartbeats 4000000
/-! TgSrt: sorted(a dict whose keys are numbers), dict(a list of pairs), a tuple many or few times, x, o[i] = e. -/
namespace Tg
open PySem PySem.Spec PyProof.Rows L2
/-! ### sorted -/
def rSortK : List V → Hp → VK → Prop := fun xs H Q =>
  ∃ (a : Addr) (kvs : List (Key × V)) (ks : List Int), xs = [.ref a] ∧ Rd H a (.dK kvs) ∧ kvs.map (·.1) = ks.map Sum.inl ∧ ks.length ≤ 1000 ∧
    ∀ (ys : List Int) (p : Addr), ys.Perm ks → ys.Pairwise (· ≤ ·) → H p = none → Q (.ref p) (upd H p (.lst (ys.map V.int)))
theorem oSrtK {X : Cx} (hcalm : X.calm = true) : CallR X (.builtin "sorted") rSortK := by
  intro pins s σ H xs us Q I r q
  obtain ⟨a, kvs, ks, rfl, hd, hks, hmany, q⟩ := q
  obtain ⟨u, rfl, rx⟩ := vals1 r
  cases rx
  obtain ⟨z, lo, vs, rel, dd⟩ := dk_rd I.hok hd
  obtain ⟨ep, hat⟩ := dd.dictAt
  have keys : vs.map (·.1) = ks.map Sum.inl := rel.keys.symm.trans hks
  have len : vs.length = ks.length := by simpa using congrArg List.length keys
  refine Calls.call_function_entry kind_sorted plain_sorted entry_sorted (args_sorted1 _) ?_
  unfold Builtin.«sorted»
  refine wpAny_bind (m := checkCount "sorted" 1 1 _) (wpAny_pure (wpAny_bind ?_))
  refine PySem.W.kdu_collect (A := X.A.in1) (PySem.W.kdl_dict (knd := mixKind X.prog X.w) (kvs := vs) (ep := ep) lo) (I.ok.hd hcalm) hat (by rw [len, sizeLine_eq]; omega) fun h' tk acc kept seen => ?_
  have alen : acc.toList.length = ks.length := by rw [Array.length_toList, seen.1, len]
  have areI : IntsAre acc.toList ks := L2.ints_each alen fun j v e => by
    obtain ⟨k, x, e1, e2⟩ := seen.2 j v (by rw [← Array.getElem?_toList]; exact e)
    have e3 : (vs.map (·.1))[j]? = some k := by rw [List.getElem?_map, e1]; rfl
    rw [keys, List.getElem?_map] at e3
    obtain ⟨y, e4, e5⟩ := Option.map_eq_some_iff.mp e3
    subst e5
    rcases keyIs_shape (show keyIs (Sum.inl y) v = true from e2) with ⟨i, t, ek, ev⟩ | ⟨i, t, ek, ev⟩
    · cases ek
      exact ⟨y, t, e4, ev⟩
    · cases ek
  have I1 : Inv X pins σ H { s with heap := h', toks := tk } := I.kept kept
  have az : acc.toList.length ≤ sizeLine := by rw [alen, sizeLine_eq]; omega
  refine wpAny_bind (wpAny_newList ?_ az)
  have new : (h'.push (seqObj "list" acc.toList.toArray 0)).get? h'.objs.size = some (seqObj "list" acc.toList.toArray 0) := Heap.get?_push_size _ rfl
  show wpAny _ _ _ _ _ { s with heap := h'.push (seqObj "list" acc.toList.toArray 0), toks := tk }
  refine wpAny_bind (wpAny_holding (wpAny_call_entry slot_list_sort ⟨_, new, rfl⟩ entry_list_sort
    (SrtO.list_sort_ord SrtO.swo_int (s := { s with heap := h'.push (seqObj "list" acc.toList.toArray 0), toks := tk }) new az (fun h2 => SrtO.ints_sortable areI h2) fun out g1 g2 => ⟨_, rfl, ?_⟩) (args_list_sort _)))
  obtain ⟨k1, k2, k3⟩ := SrtO.ints_out areI g1 g2
  obtain ⟨e', there⟩ := PyProof.Rows.sortedHeap_at (vs := acc.toList) (out := out.toArray) new
  have olen : ((out.map SrtO.iv).map V.int).length ≤ sizeLine := by
    rw [List.length_map, k2.length_eq, sizeLine_eq]
    exact Nat.le_trans hmany (by decide)
  refine wpAny_pure ⟨_, rfl, .ref h'.objs.size, upd H h'.objs.size (.lst ((out.map SrtO.iv).map V.int)), I1.laid (t' := tk) (fun b u e => ?_) (Nat.le_refl _)
    (show ObjOk X.prog X.w _ _ _ (.lst ((out.map SrtO.iv).map V.int)) from ⟨olen, out, e', vals_of_ints k1, there⟩), rfl, q _ _ k2 k3 (I1.hok.fresh (Nat.le_refl _))⟩
  have lt : b < h'.objs.size := Heap.lt_size e
  rw [PyProof.Rows.sortedHeap_old (Nat.ne_of_lt lt) (by rw [size_push']; exact Nat.lt_succ_of_lt lt)]
  exact Heap.get?_push_of_some _ e
def keysI : List (Key × D) → Option (List Int)
  | [] => some []
  | (.inl i, _) :: r => (keysI r).map (i :: ·)
  | _ => none
def insI (x : Int) : List Int → List Int
  | [] => [x]
  | y :: l => if x ≤ y then x :: y :: l else y :: insI x l
def srtI : List Int → List Int
  | [] => []
  | x :: l => insI x (srtI l)
theorem insI_perm (x : Int) : ∀ l, (insI x l).Perm (x :: l)
  | [] => .refl _
  | y :: l => by
    unfold insI
    split
    · exact .refl _
    · exact ((insI_perm x l).cons y).trans (.swap x y l)
theorem srtI_perm : ∀ l, (srtI l).Perm l
  | [] => .refl _
  | x :: l => (insI_perm x _).trans ((srtI_perm l).cons x)
theorem insI_sorted (x : Int) : ∀ l, l.Pairwise (· ≤ ·) → (insI x l).Pairwise (· ≤ ·)
  | [], _ => by simp [insI]
  | y :: l, h => by
    unfold insI
    obtain ⟨h1, h2⟩ := List.pairwise_cons.mp h
    split
    · rename_i q
      exact List.pairwise_cons.mpr ⟨fun z hz => by
        rcases List.mem_cons.mp hz with e | e
        · omega
        · have := h1 z e
          omega, h⟩
    · rename_i q
      refine List.pairwise_cons.mpr ⟨fun z hz => ?_, insI_sorted x l h2⟩
      rcases List.mem_cons.mp ((insI_perm x l).mem_iff.mp hz) with e | e
      · omega
      · exact h1 z e
theorem srtI_sorted : ∀ l, (srtI l).Pairwise (· ≤ ·)
  | [] => .nil
  | x :: l => insI_sorted x _ (srtI_sorted l)
theorem sorted_one : ∀ {a b : List Int}, a.Pairwise (· ≤ ·) → b.Pairwise (· ≤ ·) → a.Perm b → a = b
  | [], b, _, _, h => h.nil_eq
  | x :: a, b, ha, hb, h => by
    cases b with
    | nil => exact h.eq_nil
    | cons y b =>
      obtain ⟨a1, a2⟩ := List.pairwise_cons.mp ha
      obtain ⟨b1, b2⟩ := List.pairwise_cons.mp hb
      have hx : x ≤ y := by
        rcases List.mem_cons.mp (h.mem_iff.mpr (List.mem_cons_self (a := y) (l := b))) with e | e
        · omega
        · exact a1 y e
      have hy : y ≤ x := by
        rcases List.mem_cons.mp (h.mem_iff.mp (List.mem_cons_self (a := x) (l := a))) with e | e
        · omega
        · exact b1 x e
      have e : x = y := by omega
      subst e
      rw [sorted_one a2 b2 h.cons_inv]
def sortKD : List D → AH → R D
  | [d], A => match (dctD A d).bind keysI with
    | some ks => if ks.length ≤ 1000 then .ok (.lst ((srtI ks).map D.int)) A else .bad
    | none => .bad
  | _, _ => .bad
section
variable {K : PySem.W.Frag} {mg : Str → Option Value}
theorem keysI_at : ∀ {kvs : List (Key × D)} {ks : List Int}, keysI kvs = some ks → kvs.map (·.1) = ks.map Sum.inl
  | [], ks, e => by
    cases (show some [] = some ks from e)
    rfl
  | (.inl i, d) :: r, ks, e => by
    obtain ⟨l, e1, rfl⟩ := Option.map_eq_some_iff.mp (show (keysI r).map (i :: ·) = some ks from e)
    rw [List.map_cons, List.map_cons, keysI_at e1]
  | (.inr _, d) :: r, ks, e => nomatch (show (none : Option (List Int)) = some ks from e)
theorem reps_ns {W : Wd} : ∀ ns : List Int, Reps K W (ns.map D.int) (ns.map V.int)
  | [] => rfl
  | n :: ns => ⟨_, _, rfl, rfl, reps_ns ns⟩
theorem oSrtKS : CallS K mg rSortK sortKD := fun W A H E Q ds xs k r h => by
  unfold sortKD at h
  split at h
  · rename_i d
    obtain ⟨v, rfl, h1⟩ := reps1 r
    split at h
    · rename_i ks e1
      obtain ⟨kvs, e2, e3⟩ := Option.bind_eq_some_iff.mp e1
      obtain ⟨a, vs, rfl, h2, h3⟩ := dctD_at k h1 e2
      split at h
      · rename_i hz
        refine ⟨a, vs, ks, rfl, .inl h2, h3.1.trans (keysI_at e3), hz, fun ys p g1 g2 hp => ?_⟩
        have e : srtI ks = ys := sorted_one (srtI_sorted ks) g2 ((srtI_perm ks).trans g1.symm)
        rw [← e]
        exact post_lst k h (reps_ns _) hp
      · exact h.elim
    · exact h.elim
  · exact h.elim
/-! ### dict(pairs) -/
def dictPD : List D → AH → R D
  | [d], A => match (seqL A d).bind pairsD with
    | some kvs => .ok (.dct ((mergeD [] kvs).map (·.1)) ((mergeD [] kvs).map (·.2))) A
    | none => .bad
  | _, _ => .bad
def rDictP (K : PySem.W.Frag) : List V → Hp → VK → Prop := fun xs H Q =>
  ∃ (a : Addr) (ps : List Addr) (kvs : List (Key × V)), xs = [.ref a] ∧ SqL K H a (ps.map V.ref) ∧ Paired (fun p kv => SqT K H p [kV kv.1, kv.2]) ps kvs ∧ ∀ p, H p = none → Q (.ref p) (upd H p (.dK (mergeK [] kvs)))
theorem oDictP {X : Cx} (hcalm : X.calm = true) : CallR X (.type "dict") (rDictP X.K) := call_dictP hcalm
theorem oDictPS : CallS K mg (rDictP K) dictPD := fun W A H E Q ds xs k r h => by
  unfold dictPD at h
  split at h
  · obtain ⟨v, rfl, h1⟩ := reps1 r
    split at h
    · rename_i kvs e1
      obtain ⟨es, e2, e3⟩ := Option.bind_eq_some_iff.mp e1
      obtain ⟨a, ys, rfl, h2, h3⟩ := seqL_at k h1 e2
      obtain ⟨qs, kvs', rfl, g1, g2⟩ := pairsD_at k h3 e3
      refine ⟨a, qs, kvs', rfl, h2, g1, fun p hp => ?_⟩
      have kr : KVR K W (mergeD [] kvs) (mergeK [] kvs') := KVR.merge g2 ⟨rfl, rfl⟩
      obtain ⟨k1, x1⟩ := k.frozen hp (.dK (mergeK [] kvs'))
      exact h _ _ _ x1 k1 ⟨p, mergeK [] kvs', rfl, upd_same, kr.1, kr.2.le x1.le⟩
    · exact h.elim
  · exact h.elim
end
/-! ### a tuple some times -/
theorem tup_mul1 (l : Addr) (items : Array Value) (n : Nat) (dd : Option Addr) (sl : Array (Option Value)) (u : Tok) :
    Meets (Builtin.«tuple.__mul__» ⟨[.ref l, .int 1 u], []⟩) (fun _ R s => s.heap.get? l = some { cls := .type "tuple", dict := dd, data := .seq items n, slots := sl } ∧ R (.ok (.ret (Value.ref l))) s) :=
  .of_wp fun prog w A R s h => by
    obtain ⟨hp, g, d, tk, os⟩ := s
    obtain ⟨hl, h⟩ := h
    have f1 := AutoSeq1.idx_int
    wp_walk using wpAny_loadPart' hl
    exact ⟨_, rfl, h⟩
theorem tup_mul0 (l : Addr) (items : Array Value) (n : Nat) (dd : Option Addr) (sl : Array (Option Value)) (x : Int) (u : Tok) (c0 : (decide (x < -(2 ^ 63)) || decide (x ≥ 2 ^ 63)) = false) (c1 : (items.isEmpty || x == 1) = false) (c2 : (decide (x ≤ 0) || items.isEmpty) = true) :
    Meets (Builtin.«tuple.__mul__» ⟨[.ref l, .int x u], []⟩) (fun _ R s => s.heap.get? l = some { cls := .type "tuple", dict := dd, data := .seq items n, slots := sl } ∧
      R (.ok (.ret (Value.ref s.heap.objs.size))) { s with heap := s.heap.push { cls := Value.type "tuple", data := Data.seq #[] }, toks := s.toks }) :=
  .of_wp fun prog w A R s h => by
    obtain ⟨hp, g, d, tk, os⟩ := s
    obtain ⟨hl, h⟩ := h
    have f1 := AutoSeq1.idx_int
    wp_walk using wpAny_loadPart' hl
    repeat (first
      | (refine wpAny_ite_false (decide_eq_false (by rw [c0]; exact Bool.false_ne_true)) ?_; wp_walk using wpAny_loadPart' hl)
      | (refine wpAny_ite_false (decide_eq_false (by rw [c1]; exact Bool.false_ne_true)) ?_; wp_walk using wpAny_loadPart' hl)
      | (refine wpAny_ite_true (decide_eq_true (by rw [c2])) ?_; wp_walk using wpAny_loadPart' hl))
    exact ⟨_, rfl, h⟩
def rMulT (K : PySem.W.Frag) : R2 := fun x y H Q => rRepT K x y H Q ∨ ∃ l k xs, x = .ref l ∧ y = .int k ∧ SqT K H l xs ∧ xs ≠ [] ∧ -1000 ≤ k ∧ k ≤ 1 ∧
  ((k = 1 ∧ Q (.ref l) H) ∨ (k ≤ 0 ∧ ∀ p, H p = none → Q (.ref p) (upd H p (.tup []))))
theorem oMulT {X : Cx} : OpR X (binaryOp .Mult) (rMulT X.K) := by
  refine op_repT.or ?_
  intro pins s σ H x y v u Q I rx ry h
  obtain ⟨l, k, xs, rfl, rfl, hT, hne, h1, h2, q⟩ := h
  cases rx
  obtain ⟨t, rfl⟩ := ry
  obtain ⟨its, r, ⟨⟨cls, dd, data, sl⟩, ho, hc, n, hd⟩, hs⟩ := I.tuple hT
  simp only at hc hd
  subst hc hd
  have hi : its.toArray.isEmpty = false := by
    cases its with
    | nil => exact absurd (List.eq_nil_of_length_eq_zero r.length) hne
    | cons a b => rfl
  rcases q with ⟨rfl, q⟩ | ⟨hk, q⟩
  · exact wpAny_binaryOp_repeat_ref (T := "tuple") (U := "int") (by decide) ⟨_, ho, rfl⟩ (fun s' => typeIs_int s' 1 t) noFill_tuple_mul F.fills_int_mul F.slot_int_rmul repeat_tuple F.slot_int_index.lookup
      (call_meets F.slot_int_rmul (typeIs_int s 1 t) F.entry_int_rmul (F.args_int_rmul_2 _ _) (int_rmul_tuple 1 t l its.toArray n dd sl)
        ⟨ho, rfl, ⟨_, ho, rfl⟩, call_meets F.slot_tuple_mul ⟨_, ho, rfl⟩ F.entry_tuple_mul (F.args_tuple_mul_2 _ _) (tup_mul1 l its.toArray n dd sl t) ⟨ho, ⟨.ref l, H, I, rfl, q⟩⟩⟩)
  · have c0 : (decide (k < -(2 ^ 63)) || decide (k ≥ 2 ^ 63)) = false := by
      rw [decide_eq_false (by omega), decide_eq_false (by omega)]
      rfl
    have c1 : (its.toArray.isEmpty || k == 1) = false := by
      rw [hi, Bool.false_or]
      exact beq_eq_false_iff_ne.mpr (by omega)
    have c2 : (decide (k ≤ 0) || its.toArray.isEmpty) = true := by
      rw [decide_eq_true hk]
      rfl
    refine wpAny_binaryOp_repeat_ref (T := "tuple") (U := "int") (by decide) ⟨_, ho, rfl⟩ (fun s' => typeIs_int s' k t) noFill_tuple_mul F.fills_int_mul F.slot_int_rmul repeat_tuple F.slot_int_index.lookup
      (call_meets F.slot_int_rmul (typeIs_int s k t) F.entry_int_rmul (F.args_int_rmul_2 _ _) (int_rmul_tuple k t l its.toArray n dd sl)
        ⟨ho, rfl, ⟨_, ho, rfl⟩, call_meets F.slot_tuple_mul ⟨_, ho, rfl⟩ F.entry_tuple_mul (F.args_tuple_mul_2 _ _) (tup_mul0 l its.toArray n dd sl k t c0 c1 c2) ⟨ho, ?_⟩⟩)
    exact ⟨.ref s.heap.objs.size, _, I.laid (t' := s.toks) (o := .tup []) (fun b ob z => Heap.get?_push_of_some _ z) (Nat.le_refl _) ⟨Nat.zero_le _, [], .nil, IsTup.new _ _⟩, rfl, q _ (I.hok.fresh (Nat.le_refl _))⟩
def mulT : D → D → AH → R D
  | .tup ds, .int k, A => if ds ≠ [] ∧ -1000 ≤ k ∧ k ≤ 1000 ∧ ds.length ≤ 1000 then .ok (.tup (repD k.toNat ds)) A else .bad
  | _, _, _ => .bad
theorem oMulTS {K : PySem.W.Frag} {mg : Str → Option Value} : OpS K mg (rMulT K) mulT := fun W A H E Q d e x y k rx ry h => by
  unfold mulT at h
  split at h
  · rename_i ds i
    split at h
    · rename_i z
      obtain ⟨z1, z2, z3, z4⟩ := z
      obtain ⟨a, xs, ex, sx, r1⟩ := tup_at k rx
      have ne : xs ≠ [] := fun q => z1 (by
        subst q
        exact List.length_eq_zero_iff.mp r1.length.symm)
      by_cases h2 : 2 ≤ i
      · exact .inl ⟨a, _, xs, ex, ry, sx, ne, h2, z3, by rw [r1.length]; exact z4, fun p hp => post_tup k h (r1.rep _) hp⟩
      · refine .inr ⟨a, _, xs, ex, ry, sx, ne, z2, by omega, ?_⟩
        by_cases h1 : i = 1
        · subst h1
          refine .inl ⟨rfl, ?_⟩
          have e : repD (1 : Int).toNat ds = ds := by
            show (List.replicate 1 ds).flatten = ds
            simp
          rw [e] at h
          rw [← ex]
          exact h.ok_at k rx
        · refine .inr ⟨by omega, fun p hp => ?_⟩
          have e : repD i.toNat ds = [] := by
            rw [show i.toNat = 0 by omega]
            rfl
          rw [e] at h
          exact post_tup k h rfl hp
    · exact h.elim
  · exact h.elim
/-! ### x, o[i] = e -/
theorem stSub_at {K : PySem.W.Frag} {mg : Str → Option Value} {W : Wd} {A A4 : AH} {H : Hp} {x y d : D} {u w v : V} {Q : Hp → Prop} (k : Ok K mg W A H) (ro : Rep K W x u) (ri : Rep K W y w) (rd : Rep K W d v) (e : stSub x y d A = some A4)
    (q : ∀ H4, Ext W H W H4 → Ok K mg W A4 H4 → Q H4) : rSetU u w v H Q := by
  unfold stSub at e
  split at e
  · obtain ⟨a, rfl, ha'⟩ := ro
    split at e
    · rename_i ds q2
      split at e
      · rename_i kx
        split at e
        · rename_i jx q4
          cases e
          obtain ⟨xs, hx, rr⟩ := k.lookL ha' q2
          obtain ⟨k4, e4⟩ := k.write ha' (u := .lst (ds.set jx d)) (o := .lst (xs.set jx v)) (obl (rr.set jx rd))
          exact .inl ⟨a, xs, kx, jx, rfl, ri, hx, by rw [rr.length]; exact q4, q _ e4 k4⟩
        · cases e
      · cases e
    · rename_i kvs q2
      split at e
      · rename_i kx q3
        split at e
        · rename_i q4
          cases e
          obtain ⟨vs, hx, hk, rr⟩ := k.obj _ a _ ha' q2
          have kr : KVR K W kvs vs := ⟨hk, rr⟩
          obtain ⟨k4, e4⟩ := k.write ha' (u := .dct (ptK kvs kx d)) (o := .dK (putK vs kx v)) (obd (kr.put rd))
          refine .inr ⟨a, _, rfl, ?_, q _ e4 k4⟩
          rw [keyD_at ri q3]
          exact .k hx (by rw [sizeLine_eq, kr.len]; exact q4)
        · cases e
      · cases e
    · cases e
  · cases e
def mAsgTS (i : Nat) (me mo mi : ME) : MS := fun s A => (me s A).thenS s fun d A1 => match d with
  | .tup [x, y] => (mo (s.set i (some x)) A1).thenS (s.set i (some x)) fun o A2 => (mi (s.set i (some x)) A2).thenS (s.set i (some x)) fun j A3 => match stSub o j y A3 with
    | some A4 => .nx (s.set i (some x)) A4
    | none => .bad
  | _ => .bad
theorem sasgTS {X : Cx} {Wx : WX} {i : Nat} {x : Str} {o j e : Expr} {to ti te : TE} {mo mi me : ME} {px ps pt pos : Pos} {kt kk : Nat} (hr : Room kk X.A) (hc : X.calm = true) (hN : X.N.Nodup)
    (h : SE X Wx e te me) (ho : SE X Wx o to mo) (hj : SE X Wx j ti mi)
    (hi : X.N[i]? = some x := by rfl) (hx : Loc X.env.scope x := by first | exact Or.inl rfl | exact Or.inr rfl) (hf : X.fn x = true ∨ X.env.scope.names.lookup x = some .local := by first | exact .inl rfl | exact .inr rfl | assumption)
    (ha : ∀ v, assign (.Subscript o j ps) X.env v = (do
      let ov ← holding [v] (eval o X.env)
      let iv ← holding [v, ov] (eval j X.env)
      standAt ps
      holding [v, ov, iv] (setItem ov iv v)
      release [v, ov, iv] []) := by intro _; rfl)
    (h1 : (assignEach [.Name x px, .Subscript o j ps] X.env).map (·.2) = assign (.Name x px) X.env :: (assignEach [.Subscript o j ps] X.env).map (·.2) := by rfl)
    (h2 : (assignEach [.Subscript o j ps] X.env).map (·.2) = assign (.Subscript o j ps) X.env :: (assignEach [] X.env).map (·.2) := by rfl)
    (hn : (assignEach [.Name x px, .Subscript o j ps] X.env).length = 2 := by rfl) (hst : (assignEach [.Name x px, .Subscript o j ps] X.env).findIdx? (·.1) = none := by rfl)
    (hs : swapsWithSole [.Tuple [.Name x px, .Subscript o j ps] kt pt] e pos.line X.env = pure false := by rfl) (hw : swappedStores [.Tuple [.Name x px, .Subscript o j ps] kt pt] e X.env = pure none := by rfl)
    (h3 : (assignEach [.Tuple [.Name x px, .Subscript o j ps] kt pt] X.env).map (·.2) = [assign (.Tuple [.Name x px, .Subscript o j ps] kt pt) X.env] := by rfl) :
    SS X Wx (.Assign [.Tuple [.Name x px, .Subscript o j ps] kt pt] e pos) (tAsg te (gTup X.K 2 (gCons (gName i) (gCons (gSub to ti rSetU) gNil)))) (mAsgTS i me mo mi) :=
  ⟨ps_asg h.pe (pg_tup hc (pgs_cons (pg_name hN hi hx hf) (pgs_cons (pg_sub ho.pe hj.pe (set_any hr) ha) pgs_nil h2) h1) hn hst) hs hw h3, fun W σ s A H De k sr z => h.sim W σ s A H _ k sr (PostS.bind (rel := Rep X.K) sr z fun d A1 v W1 H1 e1 k1 r1 z1 => by
    split at z1
    · rename_i dx dy
      obtain ⟨a, xs, rfl, sx, rr⟩ := tup_at k1 r1
      obtain ⟨vx, vy, rfl, rx, ry⟩ := reps2 rr
      have sr1 := (sr.le e1.le).set i rx
      refine ⟨a, _, rfl, sx, rfl, vx, _, rfl, vy, _, rfl, ?_⟩
      exact ho.sim W1 _ _ A1 H1 _ k1 sr1 (PostS.bind (rel := Rep X.K) sr1 z1 fun xo A2 u W2 H2 e2 k2 r2 z2 =>
        hj.sim W2 _ _ A2 H2 _ k2 (sr1.le e2.le) (PostS.bind (rel := Rep X.K) (sr1.le e2.le) z2 fun yj A3 w W3 H3 e3 k3 r3 z3 => by
          split at z3
          · rename_i A4 q
            exact stSub_at k3 (r2.le e3.le) r3 (ry.le (e2.trans e3).le) q fun H4 e4 k4 => ⟨rfl, z3 _ _ _ e4 k4 (sr1.le (e2.trans e3).le)⟩
          · exact z3.elim))
    · exact z1.elim)⟩
end Tg

set_option Elab.async false
set_option linter.all false
set_option maxRecDepth 100000
set_option maxHeartbeats 2000000
/-! TgRef: loops and comprehensions over what is walked in any way, while the heap changes. -/
namespace Tg
open PySem L2
section
variable {g : MG} {b : MS} {mi : Sl → AH → R IT} {it : IT} {ds : List D}
theorem forG_or (I : Nat → Sl → AH → Prop) (Q : D → AH → Prop) (hn : ∀ j s A, I j s A → itNext it j A = some ds[j]?)
    (h : ∀ j d s A, ds[j]? = some d → I j s A → ∃ s1, g d s = some s1 ∧ ((∃ s2 A2, b s1 A = .nx s2 A2 ∧ I (j + 1) s2 A2) ∨ ∃ x A2, b s1 A = .rt x A2 ∧ Q x A2)) :
    ∀ (f k : Nat) (s : Sl) (A : AH), I k s A → k + f = ds.length + 1 → f ≠ 0 → (∃ s' A', forG g b it f k s A = .nx s' A' ∧ I ds.length s' A') ∨ ∃ x A', forG g b it f k s A = .rt x A' ∧ Q x A'
  | 0, _, _, _, _, _, h => absurd rfl h
  | f + 1, k, s, A, hI, hf, _ => by
    have e0 := hn k s A hI
    cases hd : ds[k]? with
    | none =>
      have hk : k = ds.length := by
        have := List.getElem?_eq_none_iff.mp hd
        omega
      subst hk
      refine .inl ⟨s, A, ?_, hI⟩
      unfold forG
      rw [e0, hd]
    | some d =>
      have hk := (List.getElem?_eq_some_iff.mp hd).1
      obtain ⟨s1, h1, h2⟩ := h k d s A hd hI
      rcases h2 with ⟨s2, A2, h2, h3⟩ | ⟨x, A2, h2, h3⟩
      · have e1 : forG g b it (f + 1) k s A = forG g b it f (k + 1) s2 A2 := by
          conv => lhs; unfold forG
          rw [e0, hd]
          dsimp only
          rw [h1]
          dsimp only
          rw [h2]
        rw [e1]
        exact forG_or I Q hn h f (k + 1) s2 A2 h3 (by omega) (by omega)
      · refine .inr ⟨x, A2, ?_, h3⟩
        unfold forG
        rw [e0, hd]
        dsimp only
        rw [h1]
        dsimp only
        rw [h2]
theorem mFor_or {s : Sl} {A A1 : AH} (I : Nat → Sl → AH → Prop) (Q : D → AH → Prop) (h0 : mi s A = .ok it A1) (hl : itLen it A1 = ds.length) (hI : I 0 s A1) (hn : ∀ j s A, I j s A → itNext it j A = some ds[j]?)
    (h : ∀ j d s A, ds[j]? = some d → I j s A → ∃ s1, g d s = some s1 ∧ ((∃ s2 A2, b s1 A = .nx s2 A2 ∧ I (j + 1) s2 A2) ∨ ∃ x A2, b s1 A = .rt x A2 ∧ Q x A2)) :
    (∃ s' A', mFor mi g b s A = .nx s' A' ∧ I ds.length s' A') ∨ ∃ x A', mFor mi g b s A = .rt x A' ∧ Q x A' := by
  have e : mFor mi g b s A = forG g b it (ds.length + 1) 0 s A1 := by
    unfold mFor
    rw [h0]
    show forG g b it (itLen it A1 + 1) 0 s A1 = _
    rw [hl]
  rw [e]
  exact forG_or I Q hn h _ 0 s A1 hI (Nat.zero_add _) (Nat.succ_ne_zero _)
theorem mFor_at {s : Sl} {A A1 : AH} (I : Nat → Sl → AH → Prop) (h0 : mi s A = .ok it A1) (hl : itLen it A1 = ds.length) (hI : I 0 s A1) (hn : ∀ j s A, I j s A → itNext it j A = some ds[j]?)
    (h : ∀ j d s A, ds[j]? = some d → I j s A → ∃ s1 s2 A2, g d s = some s1 ∧ b s1 A = .nx s2 A2 ∧ I (j + 1) s2 A2) : ∃ s' A', mFor mi g b s A = .nx s' A' ∧ I ds.length s' A' := by
  rcases mFor_or (g := g) (b := b) I (fun _ _ => False) h0 hl hI hn (fun j d s A hd hI => by
    obtain ⟨s1, s2, A2, e1, e2, e3⟩ := h j d s A hd hI
    exact ⟨s1, e1, .inl ⟨s2, A2, e2, e3⟩⟩) with h | ⟨_, _, _, h⟩
  · exact h
  · exact h.elim
end
section
variable {g : MG} {tt : MT} {te : ME} {mi : Sl → AH → R IT} {vs : List Nat} {fin : List D → AH → R D} {s w : Sl} {A A1 : AH} {it : IT} {ds : List D}
theorem lcG_gen (I : Nat → AH → Prop) (P : Nat → D → Prop) (hn : ∀ j A, I j A → itNext it j A = some ds[j]?)
    (h : ∀ j d A, ds[j]? = some d → I j A → ∃ s1 v A2, g d w = some s1 ∧ tt s1 A = .ok true A ∧ te s1 A = .ok v A2 ∧ I (j + 1) A2 ∧ P j v) :
    ∀ (f k : Nat) (A : AH), I k A → k + f = ds.length + 1 → f ≠ 0 → ∃ ys A', lcG g tt te it w f k A = .ok ys A' ∧ I ds.length A' ∧ k + ys.length = ds.length ∧ ∀ j y, ys[j]? = some y → P (k + j) y
  | 0, _, _, _, _, h => absurd rfl h
  | f + 1, k, A, hI, hf, _ => by
    have e0 := hn k A hI
    cases hd : ds[k]? with
    | none =>
      have hk : k = ds.length := by
        have := List.getElem?_eq_none_iff.mp hd
        omega
      subst hk
      refine ⟨[], A, ?_, hI, by simp, fun j y e => by simp at e⟩
      unfold lcG
      rw [e0, hd]
    | some d =>
      have hk := (List.getElem?_eq_some_iff.mp hd).1
      obtain ⟨s1, v, A2, h1, h2, h3, h4, h5⟩ := h k d A hd hI
      obtain ⟨ys, A', q1, q2, q3, q4⟩ := lcG_gen I P hn h f (k + 1) A2 h4 (by omega) (by omega)
      refine ⟨v :: ys, A', ?_, q2, by rw [List.length_cons]; omega, fun j y e => ?_⟩
      · unfold lcG
        rw [e0, hd]
        dsimp only
        rw [h1]
        dsimp only
        rw [h2, R.bindN_ok, if_pos rfl, h3, R.bindN_ok, q1, R.bind_ok]
      · cases j with
        | zero =>
          cases (show some v = some y from e)
          exact h5
        | succ j =>
          rw [show k + (j + 1) = k + 1 + j by omega]
          exact q4 j y (by simpa using e)
theorem lc_genR (I : Nat → AH → Prop) (P : Nat → D → Prop) (h0 : mi s A = .ok it A1) (hl : itLen it A1 = ds.length) (hsz : ds.length < 16777216) (hI : I 0 A1) (hn : ∀ j A, I j A → itNext it j A = some ds[j]?)
    (h : ∀ j d A, ds[j]? = some d → I j A → ∃ s1 v A2, g d (wpD s vs) = some s1 ∧ tt s1 A = .ok true A ∧ te s1 A = .ok v A2 ∧ I (j + 1) A2 ∧ P j v) :
    ∃ ys A', mLc mi g tt te vs fin s A = fin ys A' ∧ I ds.length A' ∧ ys.length = ds.length ∧ ∀ j y, ys[j]? = some y → P j y := by
  obtain ⟨ys, A', q1, q2, q3, q4⟩ := lcG_gen (w := wpD s vs) I P hn h (ds.length + 1) 0 A1 hI (by omega) (by omega)
  refine ⟨ys, A', ?_, q2, by omega, fun j y e => by
    have := q4 j y e
    rwa [Nat.zero_add] at this⟩
  unfold mLc
  rw [h0, R.bind_ok, hl, if_pos hsz, q1]
  rfl
end
/-! ### dicts -/
theorem any_key {kvs : List (Key × D)} {k : Key} : (kvs.any fun kv => decide (kv.1 = k)) = (lkK kvs k).isSome := by
  induction kvs with
  | nil => rfl
  | cons p kvs ih =>
    by_cases h : p.1 = k
    · simp [lkK, h]
    · simp only [lkK, List.any_cons, List.find?_cons, h, decide_false, Bool.false_or] at ih ⊢
      exact ih
theorem lkK_map {kvs : List (Key × D)} {k k' : Key} {d : D} : lkK (kvs.map fun kv => if kv.1 = k then (kv.1, d) else kv) k' = if k' = k then (lkK kvs k').map fun _ => d else lkK kvs k' := by
  induction kvs with
  | nil => simp [lkK]
  | cons p kvs ih =>
    have e : ∀ (q : Key × D) (l : List (Key × D)), lkK (q :: l) k' = if q.1 = k' then some q.2 else lkK l k' := fun q l => by
      by_cases h : q.1 = k' <;> simp [lkK, h]
    rw [List.map_cons, e, e, ih]
    by_cases h1 : p.1 = k
    · by_cases h2 : k' = k
      · subst h2
        simp [h1]
      · have h3 : ¬ k = k' := fun z => h2 z.symm
        simp [h1, h2, h3]
    · by_cases h2 : k' = k
      · subst h2
        simp [h1]
      · simp [h1, h2]
theorem lkK_app {kvs : List (Key × D)} {k k' : Key} {d : D} : lkK (kvs ++ [(k, d)]) k' = match lkK kvs k' with
    | some x => some x
    | none => if k' = k then some d else none := by
  unfold lkK
  rw [List.find?_append]
  cases h : kvs.find? fun kv => decide (kv.1 = k') with
  | some p => rfl
  | none =>
    by_cases h2 : k = k'
    · subst h2
      simp
    · have h3 : ¬ k' = k := fun z => h2 z.symm
      simp [h2, h3]
theorem lkK_put {kvs : List (Key × D)} {k k' : Key} {d : D} : lkK (ptK kvs k d) k' = if k' = k then some d else lkK kvs k' := by
  unfold ptK
  rw [any_key]
  split
  · rename_i h
    rw [lkK_map]
    by_cases h2 : k' = k
    · subst h2
      obtain ⟨x, hx⟩ := Option.isSome_iff_exists.mp h
      rw [if_pos rfl, if_pos rfl, hx]
      rfl
    · rw [if_neg h2, if_neg h2]
  · rename_i h
    rw [lkK_app]
    by_cases h2 : k' = k
    · subst h2
      have : lkK kvs k' = none := by
        cases z : lkK kvs k' with
        | none => rfl
        | some x => exact absurd (by rw [z]; rfl) h
      rw [if_pos rfl, this]
      dsimp only
      rw [if_pos rfl]
    · rw [if_neg h2]
      cases lkK kvs k' with
      | some x => dsimp only; rw [if_neg h2]
      | none => dsimp only; rw [if_neg h2]; try rw [if_neg h2]
theorem keys_put {kvs : List (Key × D)} {k : Key} {d : D} : (ptK kvs k d).map (·.1) = if (lkK kvs k).isSome = true then kvs.map (·.1) else kvs.map (·.1) ++ [k] := by
  unfold ptK
  rw [any_key]
  split
  · rw [List.map_map]
    refine List.map_congr_left fun kv _ => ?_
    show (if kv.1 = k then (kv.1, d) else kv).1 = kv.1
    split <;> rfl
  · rw [List.map_append]
    rfl
end Tg

set_option Elab.async false
set_option linter.all false
set_option maxRecDepth 100000
set_option maxHeartbeats 4000000
/-! TgExc: own exceptions whose __init__ says Base.__init__(self, x) and self.f = x: made, raised. -/
namespace Tg
open PySem PySem.Spec PyProof.Rows L2
/-- what the text must say of such a class -/
structure XC (K : PySem.W.Frag) (C : Addr) (B newId initId : String) (bmB : List Value) : Prop where
  F : ExcBaseFacts B newId initId bmB
  cls : ∃ nm q N bs bm sn sub ab col dd k0 k1 k2 k3 k5, K.lookup C = some (excClassObj nm q C N bs bm true sn sub ab col dd k0 k1 k2 k3 k5 newId) ∧
    (∀ Y : String, bm.contains (.type Y) = bmB.contains (.type Y)) ∧ (PySem.HandSPX.refsVE bm = true ∨ bm = PySem.ESX.exTail)
  sa : PySem.W.findIn K (.ref C) "__setattr__" = some (some (.builtin "object.__setattr__"))
  exC : PySem.W.subIn K (.ref C) (.type "BaseException") = some true
  tyC : PySem.W.typeIn K (.ref C) = some (.type "type")
  kC : PySem.W.keepIn K (.ref C) = true
section
variable {X : Cx} {pins : List (Addr × Obj)} {σ : L2.St} {H : Hp} {s : Shared} {a C : Addr} {f : Str} {y : V} {u : Value} {E : Value → Shared → Prop} {A : Around} {B newId initId : String} {bmB : List Value}
/-- Base.__init__(self, ..): nothing of it is told -/
theorem xinit {us : List Value} {Q : Value → Shared → Prop} (T : XC X.K C B newId initId bmB) (I : Inv X pins σ H s) (e : H a = some (exo a C none)) (few : us.length ≤ sizeLine) (go : ∀ s', Inv X pins σ H s' → Q .none s') :
    wpAny (model X.prog X.w) A (call (.builtin initId) (.ref a :: us)) Q E s := by
  obtain ⟨nm, q, N, bs, bm, sn, sub, ab, col, dd, k0, k1, k2, k3, k5, there, same, _⟩ := T.cls
  obtain ⟨t1, ho⟩ := exo_at I.hok e
  obtain ⟨hp, g, d, t, os⟩ := s
  refine wpAny_call (PySem.HandSPX.init_base T.F same (I.kIn _ _ there) ho few fun h' t2 kept now => ?_)
  have J := I.write (t' := t) (x := a) (e := a) (o := exo a C none) (by rw [e]; exact True.intro) (.inl rfl) kept ⟨_, now⟩ (exo_ok now)
  have again : upd H a (exo a C none) = H := by
    funext b
    by_cases z : b = a
    · rw [z, upd_same, e]
    · rw [upd_ne z]
  rw [again] at J
  exact go _ J
/-- self.f = y, the one field -/
theorem xstore {Q : Unit → Shared → Prop} (T : XC X.K C B newId initId bmB) (I : Inv X pins σ H s) (e : H a = some (exo a C none)) (no : PySem.W.findIn X.K (.ref C) f = some none) (ry : RelV y u)
    (go : ∀ dx s', H dx = none → dx ≠ a → Inv X pins σ (upd (upd H dx (exd dx [(f, y)])) a (exo a C (some dx))) s' → Q () s') : wpAny (model X.prog X.w) A (setAttr (.ref a) f u) Q E s := by
  obtain ⟨nm, q, N, bs, bm, sn, sub, ab, col, dd, k0, k1, k2, k3, k5, there, _, tail⟩ := T.cls
  have data : PySem.W.clsIn X.K C = some { name := nm, bases := bs, mro := .ref C :: bm, ns := N, qualname := q, hasDict := true, slotNames := sn, subclasses := sub, abstract := ab, collection := col, hasDel := false } := by
    unfold PySem.W.clsIn
    rw [there] <;> rfl
  obtain ⟨t1, ho⟩ := exo_at I.hok e
  obtain ⟨hp, g, d, t, os⟩ := s
  refine PySem.W.set_plain I.kIn (ox := { cls := .ref C, dict := none, data := .fields #[.ref t1, .none, .none, .none, .bool false, .none] }) (od := none) ⟨ho, rfl, rfl, trivial⟩ T.sa ?_
  have main : ∀ (h' : Heap) (tk' : Nat) (dx : Addr), (∀ b o, b ≠ a → hp.get? b = some o → h'.get? b = some o) → hp.objs.size ≤ dx → dx ≠ a → h'.get? a = some { cls := .ref C, dict := some dx, data := .fields #[.ref t1, .none, .none, .none, .bool false, .none] } →
      h'.Ns1 dx (fun y => if y = f then some u else none) → Q () ⟨h', g, d, tk', os⟩ := fun h' tk' dx kept big ne now ns => by
    have fresh : H dx = none := I.hok.fresh big
    have apart : ∀ {b : Addr} {o : Obj}, hp.get? b = some o → b ≠ dx := fun {b o} z => Nat.ne_of_lt (Nat.lt_of_lt_of_le (Heap.lt_size z) big)
    have other : ∀ {b : Addr}, H b = none → b ≠ a := fun {b} z w => by
      rw [w, e] at z
      cases z
    have U : Un X.fs [] H (upd (upd H dx (exd dx [(f, y)])) a (exo a C (some dx))) hp h' := by
      refine ⟨fun b o z1 z2 _ _ => kept b o (other z2) z1, fun b o z1 z2 _ _ => ⟨o.slots, kept b o (other z2) z1⟩, fun b o z1 z2 _ => ?_, fun b o z1 _ => ?_, fun b xs z1 => ?_, fun b o v z1 => ?_, fun b ps z1 => ?_⟩
      · rw [upd_ne (other z2), upd_ne (apart z1)]
        exact z2
      · by_cases q : b = a
        · exact ⟨_, by rw [q]; exact now⟩
        · exact ⟨o, kept b o q z1⟩
      · rw [upd_ne (at_ne e z1 exo_tup), upd_ne (ne_of_none z1 fresh)]
        exact z1
      · rw [upd_ne (at_ne e z1 exo_frz), upd_ne (ne_of_none z1 fresh)]
        exact z1
      · refine ⟨#[], ?_⟩
        rw [upd_ne (at_ne e z1 exo_tbl), upd_ne (ne_of_none z1 fresh), z1]
        simp
    refine go dx _ fresh ne (I.un (t' := tk') U fun b o z1 => ?_)
    by_cases q : b = a
    · subst q
      rw [upd_same] at z1
      cases z1
      exact exo_ok now
    · rw [upd_ne q] at z1
      by_cases q2 : b = dx
      · subst q2
        rw [upd_same] at z1
        cases z1
        exact exd_ok ns (relO_put (fs := []) ry fun _ => True.intro)
      · rw [upd_ne q2] at z1
        refine (I.hok b o z1).stay (fun c v z2 z3 => kept c v ?_ z3) (fun c z2 => ?_) fun c xs z2 => ?_
        · rcases z2 with z2 | z2
          · rw [z2]
            exact q
          · exact at_ne e z2 exo_own
        · rw [upd_ne (at_ne e z2 exo_own), upd_ne (ne_of_none z2 fresh)]
          exact z2
        · rw [upd_ne (at_ne e z2 exo_tup), upd_ne (ne_of_none z2 fresh)]
          exact z2
  rcases tail with tail | tail
  · exact PySem.HandSPX.exc_osa I.kIn ho data (show PySem.HandSPX.refsVE (.ref C :: bm) = true from tail) rfl no fun h' tk' dx z1 z2 z3 z4 z5 => main h' tk' dx z1 z2 z3 z4 z5
  · subst tail
    exact PySem.ESX.osa_new I.kIn ho data rfl rfl no fun h' tk' dx z1 z2 z3 z4 z5 => main h' tk' dx z1 z2 z3 z4 z5
end
/-! ### the base's __init__, by its name -/
/-- the name x is a class (built-in or own) whose __init__ is the built-in initId -/
def XBase (K : PySem.W.Frag) (mg : Str → Option Value) (x : Str) (initId : String) : Prop :=
  (mg x = none ∧ ∃ T : String, bootBuiltins x = some (.type T) ∧ x ≠ "__name__" ∧ typeOf (.type T) = pure (.type "type") ∧ Manifest.isStub T = false ∧ PySem.W.findCls K (.type T) (.type "type") "__init__" = some (.val (.builtin initId)) ∧ PySem.W.handedIn (.builtin initId) = true) ∨
  ∃ C, mg x = some (.ref C) ∧ PySem.W.readsIn K C (.type "type") = true ∧ PySem.W.specialIn K (.ref C) "__getattribute__" = some (some (.builtin "type.__getattribute__")) ∧ PySem.W.findCls K (.ref C) (.type "type") "__init__" = some (.val (.builtin initId)) ∧ PySem.W.handedIn (.builtin initId) = true
def tXin (ta : TA) (P : Addr → Hp → Prop) : TE := fun σ H Q => ta σ H fun vs H1 => ∃ (a : Addr) (ws : List V), vs = .ref a :: ws ∧ ws.length ≤ 1000 ∧ P a H1 ∧ Q .non H1
section
variable {X : Cx} {o e : Expr} {es : List Expr} {to te : TE} {ta : TA} {f x : Str} {p p' p1 p2 pos : Pos} {C : Addr} {B newId initId : String} {bmB : List Value}
theorem pe_xin {pl : Sem Bool} (hb : XBase X.K X.mg x initId) (T : XC X.K C B newId initId bmB) (hg : Gl X x) (ha : PA X (e :: es) ta) (hdb : (x == ("__debug__" : Str)) = false := by decide)
    (hc : eval (.Call (.Attribute (.Name x p1) "__init__" p2) (e :: es) [] pos) X.env = (do
      let ov ← eval (.Name x p1) X.env
      standAt p2.atName
      let (f, first) ← holding [ov] (getMethod ov "__init__" pl)
      callWith pos f first (backTo pos (starEach (e :: es) X.env)) (backToKw pos (keywordEach [] X.env))) := by rfl)
    (he : starEach (e :: es) X.env = (false, eval e X.env) :: starEach es X.env := by rfl) (hpl : (backTo pos (starEach es X.env)).any (·.1) = false := by rfl) :
    PE X (.Call (.Attribute (.Name x p1) "__init__" p2) (e :: es) [] pos) (tXin ta fun a H1 => H1 a = some (exo a C none)) := by
  refine ⟨fun pins s σ H Q I h => ?_⟩
  have fin : ∀ s0, Inv X pins σ H s0 → wpAny (model X.prog X.w) X.A (callWith pos (Value.builtin initId) [] (backTo pos (starEach (e :: es) X.env)) []) (EP X pins σ Q) X.xe s0 := fun s0 I0 => by
    refine PyProof.Rows.callWith_method1 (thn (ha.run pos pins s0 σ H _ I0 h) fun us s1 ⟨vs, H1, I1, r1, a, ws, ev, few, ea, q⟩ => ?_) he hpl
    subst ev
    cases r1 with
    | @cons _ u0 _ ur ra rw' =>
      obtain rfl : u0 = Value.ref a := ra
      have hlen : ur.length ≤ sizeLine := by
        rw [← Paired.length rw', sizeLine_eq]
        exact Nat.le_trans few (by decide)
      exact xinit T I1 ea hlen fun s' J => ⟨.non, H1, J, rfl, q⟩
  rcases hb with ⟨hm, Ty, h1, h2, h3, h4, h5, h6⟩ | ⟨D, hm, h1, h2, h3, h4⟩
  · refine PySem.W.methodCall_KW (ld_blt I hg hm h1 ?_ h2 hdb) hc
    obtain ⟨m, fr⟩ := I.fr
    exact PySem.W.method_type fr I.ok.mod.kin h3 h4 h5 h6 (fin _ (I.tok _))
  · refine PySem.W.methodCall_KW (ld_glob I hg hm ?_ hdb) hc
    exact PySem.W.method_cls I.kIn h2 (PySem.W.cls_value I.kIn h1 h3 h4 (fin _ (I.tok _)))
def tXst (f : Str) (to te : TE) (C : Addr) : TS := fun D σ H => te σ H fun y H1 => to σ H1 fun v H2 => ∃ a, v = .ref a ∧ H2 a = some (exo a C none) ∧ ∀ dx, H2 dx = none → dx ≠ a → D.nx σ (upd (upd H2 dx (exd dx [(f, y)])) a (exo a C (some dx)))
theorem ps_xst (T : XC X.K C B newId initId bmB) (no : PySem.W.findIn X.K (.ref C) f = some none) (ho : PE X o to) (he : PE X e te) (hs : swapsWith e (some (.Attribute o f p')) pos.line X.env = pure false := by rfl) : PS X (.Assign [.Attribute o f p'] e pos) (tXst f to te C) := by
  refine ⟨fun pins s σ H D I h => ?_⟩
  refine plainObj_wpAny_Assign_Attribute (thn (he.run pins s σ H _ I h) fun v s1 ⟨y, H1, I1, r1, q1⟩ => thn (ho.run pins s1 σ H1 _ I1 q1) fun w s2 ⟨z, H2, I2, r2, a, ez, ea, q⟩ => ?_) hs
  subst ez
  obtain rfl : w = Value.ref a := r2
  exact xstore T I2 ea no r1 fun dx s' n ne J => ⟨σ, _, J, q dx n ne⟩
end
/-! ### __init__ as a def, the class called -/
/-- __init__(self, y) of a class at C: self.f = y -/
def spX (f : Str) (C : Addr) : Sp := fun vs H Q _ => ∃ (a : Addr) (y : V), vs = [.ref a, y] ∧ H a = some (exo a C none) ∧ ∀ dx, H dx = none → dx ≠ a → Q .non (upd (upd H dx (exd dx [(f, y)])) a (exo a C (some dx)))
def tMkX (C : Addr) (f : Str) (ta : TA) : L2.St → Hp → XK → Prop := fun σ H Q => ta σ H fun vs H1 => ∃ y, vs = [y] ∧ ∀ d, H1 d = none → Q (.ref C) (some d) (upd H1 d (.xd [(f, y)]))
section
variable {X : Cx} {e : Expr} {ta : TA} {p pos : Pos} {B newId initId : String} {bmB : List Value}
theorem pmk_x {x f : Str} {C fI : Addr} {k : Nat} {fd : FuncData} {ps : List Str} (T : XC X.K C B newId initId bmB) (iC : PySem.W.findIn X.K (.ref C) "__init__" = some (some (.ref fI))) (tI : PySem.W.typeIn X.K (.ref fI) = some (.type "function"))
    (F1 : FnOk X.prog X.w X.K X.mg X.base (L2.CX X.prog X.w) k fI fd ps (spX f C)) (hr : Room (k + 1) X.A) (hb : Binds X.K fd ps []) (hg : Gl X x) (hm : X.mg x = some (.ref C)) (ha : PA X [e] ta)
    (hdb : (x == ("__debug__" : Str)) = false := by decide) (he : starEach (e :: []) X.env = (false, eval e X.env) :: starEach [] X.env := by rfl) (hpl : (backTo pos (starEach [] X.env)).any (·.1) = false := by rfl) :
    PMk X (.Call (.Name x p) [e] [] pos) (tMkX C f ta) := by
  intro pins s σ H Q I h
  obtain ⟨nm, q, N, bs, bm, sn, sub, ab, col, dd, k0, k1, k2, k3, k5, there, same, tail⟩ := T.cls
  refine wpAny_Call_Name_kw (ld_glob I hg hm ?_ hdb)
  refine PySem.W.callWith_K (h₀ := X.base) I.ok.mod.kin T.kC (thn (ha.run pos pins s σ H _ I h) fun us s1 ⟨vs, H1, I1, r1, y, ev, q1⟩ => ⟨I1.kIn, ?_⟩) he hpl
  subst ev
  show wpAny _ _ (call (.ref C) us) _ _ _
  have ulen : us.length = 1 := (Paired.length r1).symm
  obtain ⟨hp, g, dr, tk, os⟩ := s1
  have big : hp.objs.size ≤ hp.objs.size + 1 := Nat.le_succ _
  have fresh : H1 (hp.objs.size + 1) = none := I1.hok.fresh big
  have old : ∀ b o, hp.get? b = some o → ((hp.push (PySem.W.kdv_tup us)).push (PySem.HandSPX.excO C hp.objs.size)).get? b = some o := fun b o z => Heap.get?_push_of_some _ (Heap.get?_push_of_some _ z)
  have new : ((hp.push (PySem.W.kdv_tup us)).push (PySem.HandSPX.excO C hp.objs.size)).get? (hp.objs.size + 1) = some (PySem.HandSPX.excO C hp.objs.size) := by heap_get
  have I2 : Inv X pins σ (upd H1 (hp.objs.size + 1) (exo (hp.objs.size + 1) C none)) ⟨(hp.push (PySem.W.kdv_tup us)).push (PySem.HandSPX.excO C hp.objs.size), g, dr, tk, os⟩ :=
    I1.laid (t' := tk) (a := hp.objs.size + 1) (o := exo (hp.objs.size + 1) C none) (h' := (hp.push (PySem.W.kdv_tup us)).push (PySem.HandSPX.excO C hp.objs.size)) old big (exo_ok new)
  have r2 : Vals (V.ref (hp.objs.size + 1) :: [y]) (Value.ref (hp.objs.size + 1) :: us) := .cons rfl r1
  have hq : spX f C (.ref (hp.objs.size + 1) :: [y]) (upd H1 (hp.objs.size + 1) (exo (hp.objs.size + 1) C none)) (fun v H2 => v = .non ∧ ∃ (d : Addr) (fs : List (Str × V)), H2 (hp.objs.size + 1) = some (exo (hp.objs.size + 1) C (some d)) ∧ H2 d = some (exd d fs) ∧ H1 d = none ∧ Q (.ref C) (some d) (upd (del H2 (hp.objs.size + 1)) d (.xd fs))) (fun _ _ _ => False) := by
    refine ⟨_, y, rfl, upd_same, fun dx n ne => ⟨rfl, dx, [(f, y)], upd_same, ?_, ?_, ?_⟩⟩
    · rw [upd_ne ne, upd_same]
    · rw [upd_ne ne] at n
      exact n
    · have n' : H1 dx = none := by
        rw [upd_ne ne] at n
        exact n
      have := q1 dx n'
      have same' : upd (del (upd (upd (upd H1 (hp.objs.size + 1) (exo (hp.objs.size + 1) C none)) dx (exd dx [(f, y)])) (hp.objs.size + 1) (exo (hp.objs.size + 1) C (some dx))) (hp.objs.size + 1)) dx (.xd [(f, y)]) = upd H1 dx (.xd [(f, y)]) := by
        funext b
        by_cases z : b = dx
        · rw [z, upd_same, upd_same]
        · rw [upd_ne z, upd_ne z]
          by_cases z2 : b = hp.objs.size + 1
          · rw [z2, del_same, fresh]
          · rw [del_ne z2, upd_ne z2, upd_ne z, upd_ne z2]
      rw [same']
      exact this
  have hl : (Value.ref (hp.objs.size + 1) :: us ++ []).length = ps.length := by
    have z := F1.len _ _ _ _ hq
    rw [List.append_nil, List.length_cons, ulen, ← z]
    rfl
  have hbinds := hb _ (Value.ref (hp.objs.size + 1) :: us) I2.kIn hl
  rw [List.append_nil] at hbinds
  refine wpAny_call (PySem.HandSPX.call_own T.F same (I1.kIn _ _ there) (PySem.W.looks_findIn I1.kIn iC) (fun self => PySem.W.bind_fn I1.kIn self tI) (by rw [ulen, sizeLine_eq]; decide)
    (codeAny_mono (F1.run _ X.stack _ _ ⟨Value.ref (hp.objs.size + 1) :: us, []⟩ _ _ _ (fun _ _ _ => False) (hr.make C us []) (I2.env0.make C us []) hbinds r2 hq) fun r s' hq' => ?_))
  cases r with
  | error er => exact passL pins σ _ _ er s' I2 hq'
  | ok fl =>
    cases fl with
    | ret u =>
      obtain ⟨v, H2, os2, bare2, un2, hok2, rv, ev, d, fs, ea, ed, hd1, q2⟩ := hq'
      subst ev
      obtain ⟨h2, g2, d2, t2, os'⟩ := s'
      exact ⟨rv, mk_end (raises_own T.exC T.tyC) I1 big old un2 hok2 os2 bare2 ea ed hd1 q2⟩
    | next => exact False.elim hq'
    | brk => exact False.elim hq'
    | cont => exact False.elim hq'
end
end Tg

set_option Elab.async false
set_option linter.all false
set_option maxRecDepth 100000
set_option maxHeartbeats 4000000
/-! TgRaise: raise C(e), try .. except C as n, C.m(self, ..). -/
namespace Tg
open PySem PySem.Spec PyProof.Rows L2
/-! ### raise -/
/-- what the text says of the class named c, whose __init__(self, p) keeps p in f -/
def TX (K : PySem.W.Frag) (mg : Str → Option Value) (c b f qual : Str) (st : Stmt) (ps : List Str) : Prop :=
  ∃ (C fI : Addr) (fd : FuncData) (B newId initId : String) (bmB : List Value), Fun K "__init__" qual st fI fd ∧ mg c = some (.ref C) ∧ XC K C B newId initId bmB ∧ PySem.W.findIn K (.ref C) "__init__" = some (some (.ref fI)) ∧
    PySem.W.typeIn K (.ref fI) = some (.type "function") ∧ Binds K fd ps [] ∧ XBase K mg b initId ∧ PySem.W.findIn K (.ref C) f = some none
/-- .. and of a class that is made so -/
def Xmk (P : Program) (w : World) (K : PySem.W.Frag) (mg : Str → Option Value) (base : Heap) (c f : Str) (k : Nat) : Prop :=
  ∃ (C fI : Addr) (fd : FuncData) (ps : List Str) (B newId initId : String) (bmB : List Value), FnOk P w K mg base (L2.CX P w) k fI fd ps (spX f C) ∧ mg c = some (.ref C) ∧ XC K C B newId initId bmB ∧
    PySem.W.findIn K (.ref C) "__init__" = some (some (.ref fI)) ∧ PySem.W.typeIn K (.ref fI) = some (.type "function") ∧ Binds K fd ps []
section
variable {P : Program} {w : World} {K : PySem.W.Frag} {mg : Str → Option Value} {base : Heap}
theorem xmk_of {c b f qual p : Str} {st : Stmt} {k : Nat} (T : TX K mg c b f qual st ["self", p]) (S : FnScope ["self", p] ["self", p] (defScope st))
    (h : ∀ (C : Addr) (B newId initId : String) (bmB : List Value) (fI : Addr) (cdv : Value) (A : Around) (outer : List Env) (s : Shared) (H : Hp) (E : XK), XC K C B newId initId bmB → XBase K mg b initId → PySem.W.findIn K (.ref C) f = some none →
      PSs (CxT P w K mg base ["self", p] qual st fI cdv A outer s H E) (defBody st) (tSeq (tDrop (tXin (tCons (tVar 0) (tCons (tVar 1) tNil)) fun a H1 => H1 a = some (exo a C none))) (tXst f (tVar 0) (tVar 1) C))) :
    Xmk P w K mg base c f (k + 1) := by
  obtain ⟨C, fI, fd, B, newId, initId, bmB, F, hm, xc, iC, tI, hb, hx, no⟩ := T
  refine ⟨C, fI, fd, ["self", p], B, newId, initId, bmB, ?_, hm, xc, iC, tI, hb⟩
  refine F.okX S (fun vs H Q E ⟨a, y, e, _⟩ => by rw [e]; rfl) fun cdv A outer s H vs Q E hr hsp => ?_
  obtain ⟨a, y, rfl, ea, q⟩ := hsp
  refine ⟨_, h C B newId initId bmB fI cdv A outer s H E xc hx no, ?_⟩
  exact ⟨.ref a, rfl, y, rfl, a, [y], rfl, Nat.le_of_lt_succ (by decide : 1 < 1001), ea, y, rfl, .ref a, rfl, a, rfl, ea, fun dx n ne => q dx n ne⟩
end
def mRaise (c f : Str) (me : ME) : MS := fun s A => (me s A).thenS s fun d A1 => .exc ⟨c, some [(f, d)]⟩ s A1
section
variable {X : Cx} {Wx : WX} {e : Expr} {te : TE} {me : ME} {c f : Str} {p pos pos2 : Pos} {j k : Nat}
theorem sraise (hc : X.calm = true) (d : Xmk X.prog X.w X.K X.mg X.base c f k) (hr : Room j X.A) (hk : k + 1 ≤ j) (tk : Takes X Wx) (h : SE X Wx e te me) (hg : Gl X c := by rfl) (hdb : (c == ("__debug__" : Str)) = false := by decide)
    (he : starEach (e :: []) X.env = (false, eval e X.env) :: starEach [] X.env := by rfl) (hpl : (backTo pos (starEach [] X.env)).any (·.1) = false := by rfl) :
    SS X Wx (.Raise (some (.Call (.Name c p) [e] [] pos)) none pos2) (fun _ σ H => tMkX (clA X.mg c) f (tCons te tNil) σ H fun cls d H' => Wx cls d σ H') (mRaise c f me) := by
  obtain ⟨C, fI, fd, ps, B, newId, initId, bmB, F, hm, xc, iC, tI, hb⟩ := d
  have eC : clA X.mg c = C := clA_of hm
  rw [eC]
  refine ⟨ps_raise hc tk (pmk_x xc iC tI F (hr.mono hk) hb hg hm (pa_cons h.pe pa_nil he) hdb he hpl), fun W σ s A H De kk sr z => ?_⟩
  refine h.sim W σ s A H _ kk sr (PostS.bind (rel := Rep X.K) sr z fun d A1 v W1 H1 e1 k1 r1 z1 => ⟨v, rfl, fun dd n => ?_⟩)
  obtain ⟨k2, e2⟩ := k1.aside n (.xd [(f, v)])
  exact z1 W1 σ _ _ _ e2 k2 (sr.le e1.le) ⟨by rw [eC], dd, [(f, v)], rfl, upd_same, rfl, ⟨v, [], rfl, r1, rfl⟩, k1.notF n, k1.notm n⟩
end
/-! ### try -/
/-- what the clause 'except c as n', and n.w in it, must find -/
def XCat (K : PySem.W.Frag) (mg : Str → Option Value) (c w : Str) : Prop :=
  ∃ C, mg c = some (.ref C) ∧ PySem.W.exmOne K (.ref C) (.ref C) = some true ∧ XfC K C ∧ PySem.W.findIn K (.ref C) w = some none
/-- try: body; except c as (slot i): o.f = (c0, it.w, h); return -/
def mTryW (c : Str) (i : Nat) (mb : MS) (cs : List Str) (f c0 w : Str) (mo mh : ME) : MS := fun s A => match mb s A with
  | .exc x s1 A1 => if x.c = c ∧ i < s1.length then (match x.fs with
    | some fs => (match fs.lookup w with
      | some dw => (match mh (s1.set i none) A1 with
        | .ok dh A2 => (match mo (s1.set i none) A2 with
          | .ok o A3 => (match stFld cs f o (.tup [.str c0, dw, dh]) A3 with
            | some A4 => .rt .non A4
            | none => .bad)
          | _ => .bad)
        | _ => .bad)
      | none => .bad)
    | none => .bad) else .bad
  | r => r
theorem xrep_ext {K : PySem.W.Frag} {mg : Str → Option Value} {W W' : Wd} {x : XV} {c : Value} {d : Option Addr} {H H' : Hp} (h : XRep K mg W x c d H) (e : Ext W H W' H') : XRep K mg W' x c d H' := by
  obtain ⟨h1, h2⟩ := h
  refine ⟨h1, ?_⟩
  cases hx : x.fs with
  | none =>
    rw [hx] at h2
    exact h2
  | some fs =>
    rw [hx] at h2
    obtain ⟨dd, vs, q1, q2, q3, q4, q5, q6⟩ := h2
    refine ⟨dd, vs, q1, e.out dd _ q2 q6, q3, q4.le e.le, ?_, fun q => ?_⟩
    · cases z : W'.F dd with
      | none => rfl
      | some o =>
        have := e.fF dd o z q5
        rw [this] at q2
        cases q2
    · have := e.fm dd q q6
      rw [this] at q2
      cases q2
theorem SlR.len {K : PySem.W.Frag} {W : Wd} : ∀ {s : Sl} {σ : L2.St}, SlR K W s σ → σ.length = s.length
  | [], _, h => by
    rw [show _ = [] from h]
    rfl
  | none :: s, _, h => by
    obtain ⟨o, r, rfl, h2⟩ := h
    rw [List.length_cons, List.length_cons, SlR.len h2]
  | some _ :: s, _, h => by
    obtain ⟨v, r, rfl, _, h2⟩ := h
    rw [List.length_cons, List.length_cons, SlR.len h2]
/-- two pins at one place: nothing is so -/
theorem takes_void {X : Cx} {W : WX} : Takes (X.tr [(0, { cls := .none, data := .fields #[] }), (0, { cls := .none, data := .fields #[.none] })] (fun _ _ => False)) W := fun u s' ⟨a, B, sI, pins, σ, H, cls, d, e, I, _⟩ => by
  have h1 := (I.pin (0, { cls := .none, data := .fields #[] }) (by simp)).1
  have h2 := (I.pin (0, { cls := .none, data := .fields #[.none] }) (by simp)).1
  rw [h1] at h2
  simp at h2
theorem ss_fixS {X : Cx} {Wx : WX} {st : List Stmt} {t t' : TS} {m : MS} (h : SSs X Wx st t m) (ht : t = t') : SSs X Wx st t' m := ht ▸ h
section
variable {X : Cx} {Wx : WX} {c n f c0 w : Str} {i : Nat} {body : List Stmt} {o h : Expr} {np pos pos' p1 p2 p3 p4 p5 p6 p7 : Pos} {j1 j2 : Nat} {tb : WX → TS} {to th : TE} {mb : MS} {mo mh : ME} {cs : List Str}
theorem sim_tryW {K : PySem.W.Frag} {mg : Str → Option Value} {C : Addr} (hfd : Fds K mg cs f) (hm : clA mg c = C) (hex : PySem.W.exmOne K (.ref C) (.ref C) = some true) (hb : ∀ W : WX, SimS K mg W (tb W) mb) (ho : SimE K mg (fun _ _ _ _ => False) to mo) (hh : SimE K mg (fun _ _ _ _ => False) th mh) :
    SimS K mg Wx (fun De σ H => tb (wAs K (.ref C) i (fun a cls d => tSeq (sFld K to (tTup (tCons (tC (.str c0)) (tCons (tXf a cls d C w (tVar i)) (tCons th tNil)))) f) tRetN) Wx De) De σ H) (mTryW c i mb cs f c0 w mo mh) := by
  intro W σ s A H De k sr z
  refine hb _ W σ s A H De k sr ?_
  unfold mTryW at z
  generalize mb s A = r at z
  cases r with
  | nx s1 A1 => exact z
  | rt d A1 => exact z
  | bk s1 A1 => exact z
  | ct s1 A1 => exact z
  | bad => exact z
  | exc x s1 A1 =>
    intro W1 σ1 H1 cls d e1 k1 sr1 xr
    dsimp only at z
    split at z
    · rename_i hc
      obtain ⟨hc, hil⟩ := hc
      obtain ⟨q1, q2⟩ := id xr
      rw [hc, hm] at q1
      subst q1
      refine ⟨true, hex, fun _ a ha => ?_, fun h => nomatch h⟩
      cases hfs : x.fs with
      | none =>
        rw [hfs] at z
        exact z.elim
      | some fs =>
        rw [hfs] at z q2
        obtain ⟨dd, vs, rfl, x2, x3, x4, x5, x6⟩ := q2
        dsimp only at z
        cases hw : fs.lookup w with
        | none =>
          rw [hw] at z
          exact z.elim
        | some dw =>
          rw [hw] at z
          dsimp only at z
          obtain ⟨v, hv, rv⟩ := fld_at x3 x4 hw
          have hi : i < σ1.length := by rw [sr1.len]; exact hil
          have sr2 : SlR K W1 (s1.set i none) (σ1.set i (some (.ref a))) := sr1.unset i
          generalize hmh : mh (s1.set i none) A1 = rh at z
          cases rh with
          | exc y A2 => exact z.elim
          | bad => exact z.elim
          | ok dh A2 =>
            dsimp only at z
            generalize hmo : mo (s1.set i none) A2 = ro at z
            cases ro with
            | exc y A3 => exact z.elim
            | bad => exact z.elim
            | ok od A3 =>
              dsimp only at z
              generalize hst : stFld cs f od (.tup [.str c0, dw, dh]) A3 = rs at z
              cases rs with
              | none => exact z.elim
              | some A4 =>
                dsimp only at z
                have hσ : (σ1.set i (some (.ref a)))[i]? = some (some (.ref a)) := List.getElem?_set_self hi
                show sFld K to (tTup (tCons (tC (.str c0)) (tCons (tXf a (.ref C) (some dd) C w (tVar i)) (tCons th tNil)))) f _ (σ1.set i (some (.ref a))) H1
                refine ⟨.ref a, hσ, rfl, rfl, dd, vs, v, rfl, x2, hv, ?_⟩
                refine hh W1 _ (s1.set i none) A1 H1 _ k1 sr2 ?_
                rw [hmh]
                intro W2 H2 vh e2 k2 rh
                refine ⟨by rw [sizeLine_eq]; simp, fun p hp => ?_⟩
                obtain ⟨k3, e3⟩ := k2.frozen hp (.tup [.str c0, v, vh])
                refine ho _ _ (s1.set i none) A2 _ _ k3 (sr2.le (e2.trans e3).le) ?_
                rw [hmo]
                intro W4 H4 ov e4 k4 ro
                have rt : Rep K W4 (.tup [.str c0, dw, dh]) (.ref p) := ⟨p, [.str c0, v, vh], rfl, .inl (.inl (e4.le.f _ _ upd_same)), ⟨.str c0, _, rfl, rfl, v, _, rfl, rv.le ((e2.trans e3).trans e4).le, vh, [], rfl, rh.le (e3.trans e4).le, rfl⟩⟩
                unfold stFld at hst
                split at hst
                · rename_i m
                  split at hst
                  · rename_i c' gs g1
                    split at hst
                    · rename_i g2
                      cases hst
                      obtain ⟨b, rfl, hb'⟩ := ro
                      obtain ⟨dx, us, hx, hk, rr⟩ := k4.obj _ b _ hb' g1
                      obtain ⟨p1', p2'⟩ := putFD_at (f := f) rt hk rr
                      have hl : us.length = gs.length := by simpa using congrArg List.length hk
                      obtain ⟨k5, e5⟩ := k4.write hb' (u := .ins c' (putFD f (.tup [.str c0, dw, dh]) gs)) (o := .ins (clA mg c') dx (putF f (.ref p) us)) ⟨dx, _, rfl, p1', p2'⟩
                      refine ⟨b, _, dx, us, rfl, hx, (hfd c' g2.1).1, (hfd c' g2.1).2, by rw [hl]; exact g2.2, ?_⟩
                      exact z _ _ _ ((((e1.trans e2).trans e3).trans e4).trans e5) k5 rfl
                    · cases hst
                  · cases hst
                · cases hst
    · exact z.elim
theorem stryW (hc : X.calm = true) (hN : X.N.Nodup) (hcat : XCat X.K X.mg c w) (hfd : Fds X.K X.mg cs f) (tk : Takes X Wx)
    (hb : ∀ (W : WX) (pn : List (Addr × Obj)) (xe : Value → Shared → Prop), Takes (X.tr pn xe) W → PassesOwn (model X.prog X.w) X.A X.env xe → SSs (X.tr pn xe) W body (tb W) mb)
    (ho : ∀ (a : Addr) (oe : Obj) (pn : List (Addr × Obj)), SE (X.suite a ((a, oe) :: pn)) (fun _ _ _ _ => False) o to mo) (hh : ∀ (a : Addr) (oe : Obj) (pn : List (Addr × Obj)), SE (X.suite a ((a, oe) :: pn)) (fun _ _ _ _ => False) h th mh)
    (hs : X.stack = X.env :: X.outer := by rfl) (hf : X.env.frame = some X.env.locals := by rfl) (hi : X.N[i]? = some n := by rfl) (hln : X.env.kindOf n = some .local := by rfl) (hg : Gl X c := by rfl) (hdb : (c == ("__debug__" : Str)) = false := by decide)
    (hv : Vis X.env.scope n := by first | exact Or.inl rfl | exact Or.inr (Or.inl rfl) | exact Or.inr (Or.inr rfl)) (hd : (n == ("__debug__" : Str)) = false := by decide) (hcd : (n == ("__classdict__" : Str)) = false := by decide)
    (h1 : swapsWith (.Tuple [.Constant (.str c0) j1 p2, .Attribute (.Name n p3) w p4, h] j2 p5) (some (.Attribute o f p1)) p6.line X.env = pure false := by rfl)
    (h2 : starEach [.Constant (.str c0) j1 p2, .Attribute (.Name n p3) w p4, h] X.env = (false, eval (.Constant (.str c0) j1 p2) X.env) :: starEach [.Attribute (.Name n p3) w p4, h] X.env := by rfl)
    (h3 : starEach [.Attribute (.Name n p3) w p4, h] X.env = (false, eval (.Attribute (.Name n p3) w p4) X.env) :: starEach [h] X.env := by rfl)
    (h4 : starEach [h] X.env = (false, eval h X.env) :: starEach [] X.env := by rfl)
    (h5 : attributeBase (.Name n p3) w X.env (eval (.Name n p3) X.env) = eval (.Name n p3) X.env := by rfl) :
    SS X Wx (.Try body [.ExceptHandler (some (.Name c np)) (some n) [.Assign [.Attribute o f p1] (.Tuple [.Constant (.str c0) j1 p2, .Attribute (.Name n p3) w p4, h] j2 p5) p6, .Return none p7] pos'] [] [] pos)
      (fun De σ H => tb (wAs X.K (.ref (clA X.mg c)) i (fun a cls d => tSeq (sFld X.K to (tTup (tCons (tC (.str c0)) (tCons (tXf a cls d (clA X.mg c) w (tVar i)) (tCons th tNil)))) f) tRetN) Wx De) De σ H) (mTryW c i mb cs f c0 w mo mh) := by
  obtain ⟨C, hm, hex, hxf, hno⟩ := hcat
  have eC : clA X.mg c = C := clA_of hm
  rw [eC]
  refine ⟨ps_try_as hs hf hN hi hln ⟨hg, hdb, .inl hm⟩ tk (fun W pn xe t p => (hb W pn xe t p).ps) (fun a oe cls d pn hz hfl => ?_), ?_⟩
  · refine pss_cons (ps_fld (ho a oe pn).pe (pe_tup (pa_cons pe_str (pa_cons (pe_xf hxf hno hz hfl (pe_var hi hv hd hcd) h5) (pa_cons (hh a oe pn).pe pa_nil h4) h3) h2)) h1) (pss_one ps_retN)
  · exact sim_tryW hfd eC hex (fun W => (hb W _ _ takes_void PassesOwn.never).sim) (ho 0 { cls := .none, data := .fields #[] } []).sim (hh 0 { cls := .none, data := .fields #[] } []).sim
end
/-! ### C.m(self, ..) by the class's name -/
def Cfn (P : Program) (w : World) (K : PySem.W.Frag) (mg : Str → Option Value) (base : Heap) (c m : Str) (k : Nat) (g : List D → AH → R D) : Prop :=
  ∃ (C f : Addr) (fd : FuncData) (ps : List Str), FnOk P w K mg base (L2.CX P w) k f fd ps (spM K mg g) ∧ mg c = some (.ref C) ∧ PySem.W.readsIn K C (.type "type") = true ∧ PySem.W.specialIn K (.ref C) "__getattribute__" = some (some (.builtin "type.__getattribute__")) ∧
    PySem.W.findCls K (.ref C) (.type "type") m = some (.val (.ref f)) ∧ PySem.W.keepIn K (.ref f) = true ∧ Binds K fd ps []
/-- .. by its text -/
def TC (K : PySem.W.Frag) (mg : Str → Option Value) (c m qual : Str) (st : Stmt) (ps : List Str) : Prop :=
  ∃ (C f : Addr) (fd : FuncData), Fun K m qual st f fd ∧ mg c = some (.ref C) ∧ PySem.W.readsIn K C (.type "type") = true ∧ PySem.W.specialIn K (.ref C) "__getattribute__" = some (some (.builtin "type.__getattribute__")) ∧
    PySem.W.findCls K (.ref C) (.type "type") m = some (.val (.ref f)) ∧ Binds K fd ps []
theorem cfn_of {P : Program} {w : World} {K : PySem.W.Frag} {mg : Str → Option Value} {base : Heap} {c x qual : Str} {st : Stmt} {N ps : List Str} {k : Nat} {m : MS} (T : TC K mg c x qual st ps) (S : FnScope N ps (defScope st)) (h : Body P w K mg base N qual st k m) :
    Cfn P w K mg base c x (k + 1) (mFun ps.length N.length m) := by
  obtain ⟨C, f, fd, F, hm, h1, h2, h3, hb⟩ := T
  exact ⟨C, f, fd, ps, fnok_of F S h, hm, h1, h2, h3, F.kp, hb⟩
section
variable {X : Cx} {Wx : WX} {e : Expr} {es : List Expr} {t : TA} {ma : MA} {g : List D → AH → R D} {c m : Str} {p1 p2 pos : Pos} {j k : Nat}
theorem scfn {pl : Sem Bool} (d : Cfn X.prog X.w X.K X.mg X.base c m k g) (hr : Room j X.A) (hk : k ≤ j) (tk : Takes X Wx) (ha : SA X Wx (e :: es) t ma) (hg : Gl X c := by rfl) (hdb : (c == ("__debug__" : Str)) = false := by decide)
    (hc : eval (.Call (.Attribute (.Name c p1) m p2) (e :: es) [] pos) X.env = (do
      let ov ← eval (.Name c p1) X.env
      standAt p2.atName
      let (f, first) ← holding [ov] (getMethod ov m pl)
      callWith pos f first (backTo pos (starEach (e :: es) X.env)) (backToKw pos (keywordEach [] X.env))) := by rfl)
    (he : starEach (e :: es) X.env = (false, eval e X.env) :: starEach es X.env := by rfl) (hpl : (backTo pos (starEach es X.env)).any (·.1) = false := by rfl) :
    SE X Wx (.Call (.Attribute (.Name c p1) m p2) (e :: es) [] pos) (tCallS (spM X.K X.mg g) (WE Wx) t) (mCall g ma) := by
  obtain ⟨C, f, fd, ps, F, hm, h1, h2, h3, kp, hb⟩ := d
  refine ⟨⟨fun pins s σ H Q I h => ?_⟩, sim_call ha.sim⟩
  refine PySem.W.methodCall_KW (ld_glob I hg hm ?_ hdb) hc
  refine PySem.W.method_cls I.kIn h2 (PySem.W.cls_value I.kIn h1 h3 rfl ?_)
  refine PySem.W.callWith_K (h₀ := X.base) (first := []) I.ok.mod.kin kp (thn (ha.pa.run pos pins _ σ H _ (I.tok _) h) fun us s1 ⟨vs, H1, I1, r, q⟩ => ⟨I1.kIn, ?_⟩) he hpl
  exact run_fnS F (hr.mono hk) hb (passAt tk σ) I1 r q
end
end Tg

set_option Elab.async false
set_option linter.all false
set_option maxRecDepth 100000
set_option maxHeartbeats 2000000
/-! TgHeir: defs by another name, dicts that change made of pairs; what the end asks of exceptions and classes. -/
namespace Tg
open PySem PySem.Spec PyProof.Rows L2
/-! ### a def that the module knows by another name -/
def TFA (K : PySem.W.Frag) (mg : Str → Option Value) (y x qual : Str) (st : Stmt) (ps : List Str) : Prop := ∃ f fd, Fun K x qual st f fd ∧ mg y = some (.ref f) ∧ Binds K fd ps []
theorem dfn_ofA {P : Program} {w : World} {K : PySem.W.Frag} {mg : Str → Option Value} {base : Heap} {y x qual : Str} {st : Stmt} {N ps : List Str} {k : Nat} {m : MS} (T : TFA K mg y x qual st ps) (S : FnScope N ps (defScope st)) (h : Body P w K mg base N qual st k m) : Dfn P w K mg base y (k + 1) (mFun ps.length N.length m) := by
  obtain ⟨f, fd, F, hm, hb⟩ := T
  exact ⟨f, fd, ps, fnok_of F S h, hm, F.kp, hb⟩
/-! ### dict(pairs), a new one that will change -/
def dictPN : List D → AH → R D
  | [d], A => match (seqL A d).bind pairsD with
    | some kvs => .ok (.ref A.length) (A ++ [.dct (mergeD [] kvs)])
    | none => .bad
  | _, _ => .bad
theorem oDictPNS {K : PySem.W.Frag} {mg : Str → Option Value} : CallS K mg (rDictP K) dictPN := fun W A H E Q ds xs k r h => by
  unfold dictPN at h
  split at h
  · obtain ⟨v, rfl, h1⟩ := reps1 r
    split at h
    · rename_i kvs e1
      obtain ⟨es, e2, e3⟩ := Option.bind_eq_some_iff.mp e1
      obtain ⟨a, ys, rfl, h2, h3⟩ := seqL_at k h1 e2
      obtain ⟨qs, kvs', rfl, g1, g2⟩ := pairsD_at k h3 e3
      refine ⟨a, qs, kvs', rfl, h2, g1, fun p hp => ?_⟩
      have kr : KVR K W (mergeD [] kvs) (mergeK [] kvs') := KVR.merge g2 ⟨rfl, rfl⟩
      have l : Le W ⟨W.F, W.m ++ [p]⟩ := ⟨fun _ _ e => e, [p], rfl⟩
      obtain ⟨k1, x1⟩ := k.fresh hp (o := .dK (mergeK [] kvs')) (u := .dct (mergeD [] kvs)) (obd (kr.le l))
      refine h _ _ _ x1 k1 ⟨p, rfl, ?_⟩
      rw [← k.len]
      exact List.getElem?_concat_length
    · exact h.elim
  · exact h.elim
/-! ### the end -/
section
variable {K : PySem.W.Frag} {h : Heap} {mg : Str → Option Value} {c x qual : Str} {st : Stmt} {ps : List Str} {C f : Addr} {oc kV doc pm cdv ct : Value} {od an : Option Addr} {osl : Array (Option Value)}
theorem tfa_of {y : Str} (X : K.In h) (G : h.Ns mainGlobals mg) (a : PySem.W.nsIn K mainGlobals y = some (some (.ref f))) (l : K.lookup f = some ⟨oc, od, .func (PySem.W.fnOf x qual (defArgs st) (defBody st) (defScope st) .none kV doc pm an cdv ct), osl⟩)
    (cc : PySem.W.codeIn K cdv qual = true) (k : PySem.W.keepIn K (.ref f) = true) (b : HB x qual st ps) : TFA K mg y x qual st ps :=
  ⟨f, _, fun_mk l cc k, PySem.W.mg_of X G a, (fun_mk l cc k).binds b⟩
theorem tc_of (X : K.In h) (G : h.Ns mainGlobals mg) (a : PySem.W.nsIn K mainGlobals c = some (some (.ref C))) (r : PySem.W.readsIn K C (.type "type") = true) (g : PySem.W.specialIn K (.ref C) "__getattribute__" = some (some (.builtin "type.__getattribute__")))
    (m : PySem.W.findCls K (.ref C) (.type "type") x = some (.val (.ref f))) (l : K.lookup f = some ⟨oc, od, .func (PySem.W.fnOf x qual (defArgs st) (defBody st) (defScope st) .none kV doc pm an cdv ct), osl⟩) (cc : PySem.W.codeIn K cdv qual = true)
    (k : PySem.W.keepIn K (.ref f) = true) (b : HB x qual st ps) : TC K mg c x qual st ps :=
  ⟨C, f, _, fun_mk l cc k, PySem.W.mg_of X G a, r, g, m, (fun_mk l cc k).binds b⟩
theorem xb_blt {b : Str} {T initId : String} (hm : mg b = none) (h1 : bootBuiltins b = some (.type T)) (h2 : b ≠ "__name__") (h3 : typeOf (.type T) = pure (.type "type")) (h4 : Manifest.isStub T = false)
    (h5 : PySem.W.findCls K (.type T) (.type "type") "__init__" = some (.val (.builtin initId))) (h6 : PySem.W.handedIn (.builtin initId) = true) : XBase K mg b initId := .inl ⟨hm, T, h1, h2, h3, h4, h5, h6⟩
theorem xb_own {b : Str} {D : Addr} {initId : String} (X : K.In h) (G : h.Ns mainGlobals mg) (a : PySem.W.nsIn K mainGlobals b = some (some (.ref D))) (r : PySem.W.readsIn K D (.type "type") = true) (g : PySem.W.specialIn K (.ref D) "__getattribute__" = some (some (.builtin "type.__getattribute__")))
    (h5 : PySem.W.findCls K (.ref D) (.type "type") "__init__" = some (.val (.builtin initId))) (h6 : PySem.W.handedIn (.builtin initId) = true) : XBase K mg b initId := .inr ⟨D, PySem.W.mg_of X G a, r, g, h5, h6⟩
theorem typ_Ex : typeOf (.type "Exception") = pure (.type "type") := by kernel_rfl
theorem tx_of {b fl : Str} {fI N : Addr} {B newId initId : String} {bmB bs bm sub : List Value} {nm q : Str} {sn : List Str} {ab : Bool} {col : Option Bool} {dd : Option Addr} {k0 k1 k2 k3 k5 : Option Value} (F : ExcBaseFacts B newId initId bmB) (X : K.In h) (G : h.Ns mainGlobals mg)
    (a : PySem.W.nsIn K mainGlobals c = some (some (.ref C))) (xl : K.lookup C = some (excClassObj nm q C N bs bm true sn sub ab col dd k0 k1 k2 k3 k5 newId)) (same : ∀ Y : String, bm.contains (.type Y) = bmB.contains (.type Y)) (tail : PySem.HandSPX.refsVE bm = true ∨ bm = PySem.ESX.exTail)
    (sa : PySem.W.findIn K (.ref C) "__setattr__" = some (some (.builtin "object.__setattr__"))) (eC : PySem.W.subIn K (.ref C) (.type "BaseException") = some true) (tC : PySem.W.typeIn K (.ref C) = some (.type "type")) (kC : PySem.W.keepIn K (.ref C) = true)
    (m : PySem.W.findIn K (.ref C) "__init__" = some (some (.ref fI))) (ti : PySem.W.typeIn K (.ref fI) = some (.type "function")) (l : K.lookup fI = some ⟨oc, od, .func (PySem.W.fnOf "__init__" qual (defArgs st) (defBody st) (defScope st) .none kV doc pm an cdv ct), osl⟩) (cc : PySem.W.codeIn K cdv qual = true)
    (k : PySem.W.keepIn K (.ref fI) = true) (hb : HB "__init__" qual st ps) (xb : XBase K mg b initId) (no : PySem.W.findIn K (.ref C) fl = some none) : TX K mg c b fl qual st ps :=
  ⟨C, fI, _, B, newId, initId, bmB, fun_mk l cc k, PySem.W.mg_of X G a, ⟨F, ⟨nm, q, N, bs, bm, sn, sub, ab, col, dd, k0, k1, k2, k3, k5, xl, same, tail⟩, sa, eC, tC, kC⟩, m, ti, (fun_mk l cc k).binds hb, xb, no⟩
theorem xcat_of {w : Str} (X : K.In h) (G : h.Ns mainGlobals mg) (a : PySem.W.nsIn K mainGlobals c = some (some (.ref C))) (ga : PySem.W.findIn K (.ref C) "__getattribute__" = some (some (.builtin "BaseException.__getattribute__"))) (gg : PySem.W.findIn K (.ref C) "__getattr__" = some none)
    (eC : PySem.W.subIn K (.ref C) (.type "BaseException") = some true) (hd : PySem.W.hasDictIn K C = true) (tC : PySem.W.typeIn K (.ref C) = some (.type "type")) (sC : PySem.W.subIn K (.ref C) (.ref C) = some true) (no : PySem.W.findIn K (.ref C) w = some none) : XCat K mg c w :=
  ⟨C, PySem.W.mg_of X G a, PySem.W.exm_ref eC hd tC sC, ⟨ga, gg, eC, hd⟩, no⟩
end
end Tg

set_option Elab.async false
set_option linter.all false
set_option maxRecDepth 100000
/-! TgXev: mirrors run on; what is raised goes by. -/
namespace Tg
open PySem L2
section
variable {x : XV} {A A1 A2 A3 : AH} {s s2 : Sl}
@[simp] theorem kB1_x {f : D → D → AH → R D} {b : ME} : kB1 f b s (.exc x A) = .exc x A := rfl
@[simp] theorem kB2_x {f : D → D → AH → R D} {d : D} : kB2 f d (.exc x A) = .exc x A := rfl
@[simp] theorem kC1_x {m : MA} : kC1 m s (.exc x A) = .exc x A := rfl
@[simp] theorem kC2_x {d : D} : kC2 d (.exc x A) = .exc x A := rfl
@[simp] theorem kCall_x {g : List D → AH → R D} : kCall g (.exc x A) = .exc x A := rfl
@[simp] theorem kMe3_x {g : List D → AH → R D} {n : Nat} : kMe3 g n (.exc x A) = .exc x A := rfl
@[simp] theorem kMe1_x {c m : Str} {g : List D → AH → R D} {ma : MA} : kMe1 c m g ma s (.exc x A) = .exc x A := rfl
@[simp] theorem kRet_x : kRet s (.exc x A) = .exc x s A := rfl
@[simp] theorem kAsg_x {i : Nat} : kAsg i s (.exc x A) = .exc x s A := rfl
@[simp] theorem kDrop_x : kDrop s (.exc x A) = .exc x s A := rfl
@[simp] theorem kSub1_x {a b : ME} : kSub1 a b s (.exc x A) = .exc x s A := rfl
@[simp] theorem kFS1_x {cs : List Str} {f : Str} {a : ME} : kFS1 cs f a s (.exc x A) = .exc x s A := rfl
@[simp] theorem finS_x : finS (.exc x s A) = .exc x A := rfl
theorem bin_ok {f : D → D → AH → R D} {a b : ME} {u v z : D} (ha : a s A = .ok u A1) (hb : b s A1 = .ok v A2) (hf : f u v A2 = .ok z A3) : mBin f a b s A = .ok z A3 := by
  rw [e_bin, ha, kB1_0, hb, kB2_0, hf]
theorem bin_x {f : D → D → AH → R D} {a b : ME} {u : D} (ha : a s A = .ok u A1) (hb : b s A1 = .exc x A2) : mBin f a b s A = .exc x A2 := by
  rw [e_bin, ha, kB1_0, hb, kB2_x]
theorem cons_ok {e : ME} {m : MA} {d : D} {ds : List D} (h1 : e s A = .ok d A1) (h2 : m s A1 = .ok ds A2) : mCons e m s A = .ok (d :: ds) A2 := by
  rw [e_cons, h1, kC1_0, h2, kC2_0]
theorem cons_x {e : ME} {m : MA} (h1 : e s A = .exc x A1) : mCons e m s A = .exc x A1 := by
  rw [e_cons, h1, kC1_x]
theorem call_ok {g : List D → AH → R D} {ma : MA} {ds : List D} {d : D} (ha : ma s A = .ok ds A1) (hg : g ds A1 = .ok d A2) : mCall g ma s A = .ok d A2 := by
  rw [e_call, ha, kCall_0, hg]
theorem call_x {g : List D → AH → R D} {ma : MA} {ds : List D} (ha : ma s A = .ok ds A1) (hg : g ds A1 = .exc x A2) : mCall g ma s A = .exc x A2 := by
  rw [e_call, ha, kCall_0, hg]
theorem meth_ok {c m : Str} {g : List D → AH → R D} {mo : ME} {ma : MA} {n : Nat} {fs : List (Str × D)} {ds : List D} {d : D} (hm : mo s A = .ok (.ref n) A1) (hA : A1[n]? = some (.ins c fs)) (hf : fs.lookup m = none) (ha : ma s A1 = .ok ds A2) (hg : g (.ref n :: ds) A2 = .ok d A3) :
    mMeth c m g mo ma s A = .ok d A3 := by
  rw [e_meth, hm, kMe1_0, hA, kMe2_0, if_pos ⟨rfl, hf⟩, ha, kMe3_0, hg]
theorem meth_x {c m : Str} {g : List D → AH → R D} {mo : ME} {ma : MA} {n : Nat} {fs : List (Str × D)} {ds : List D} (hm : mo s A = .ok (.ref n) A1) (hA : A1[n]? = some (.ins c fs)) (hf : fs.lookup m = none) (ha : ma s A1 = .ok ds A2) (hg : g (.ref n :: ds) A2 = .exc x A3) :
    mMeth c m g mo ma s A = .exc x A3 := by
  rw [e_meth, hm, kMe1_0, hA, kMe2_0, if_pos ⟨rfl, hf⟩, ha, kMe3_0, hg]
theorem meth_ax {c m : Str} {g : List D → AH → R D} {mo : ME} {ma : MA} {n : Nat} {fs : List (Str × D)} (hm : mo s A = .ok (.ref n) A1) (hA : A1[n]? = some (.ins c fs)) (hf : fs.lookup m = none) (ha : ma s A1 = .exc x A2) :
    mMeth c m g mo ma s A = .exc x A2 := by
  rw [e_meth, hm, kMe1_0, hA, kMe2_0, if_pos ⟨rfl, hf⟩, ha, kMe3_x]
theorem asg_ok {me : ME} {i : Nat} {d : D} (h : me s A = .ok d A1) : mAsg me (gmN i) s A = .nx (s.set i (some d)) A1 := by
  rw [e_asgN, h, kAsg_0]
theorem asg_x {me : ME} {i : Nat} (h : me s A = .exc x A1) : mAsg me (gmN i) s A = .exc x s A1 := by
  rw [e_asgN, h, kAsg_x]
theorem drop_ok {me : ME} {d : D} (h : me s A = .ok d A1) : mDrop me s A = .nx s A1 := by
  rw [e_drop, h, kDrop_0]
theorem drop_x {me : ME} (h : me s A = .exc x A1) : mDrop me s A = .exc x s A1 := by
  rw [e_drop, h, kDrop_x]
theorem ret_ok {me : ME} {d : D} (h : me s A = .ok d A1) : mRet me s A = .rt d A1 := by
  rw [e_ret, h, kRet_0]
theorem ret_x {me : ME} (h : me s A = .exc x A1) : mRet me s A = .exc x s A1 := by
  rw [e_ret, h, kRet_x]
theorem seq_nx {m n : MS} {r : RS} (h : m s A = .nx s2 A1) (h2 : n s2 A1 = r) : mSeq m n s A = r := by
  rw [e_seq, h, RS.nxt_nx, h2]
theorem seq_x {m n : MS} (h : m s A = .exc x s2 A1) : mSeq m n s A = .exc x s2 A1 := by
  rw [e_seq, h, RS.nxt_exc]
theorem seq_rt {m n : MS} {d : D} (h : m s A = .rt d A1) : mSeq m n s A = .rt d A1 := by
  rw [e_seq, h, RS.nxt_rt]
theorem ifS_t {t : ME} {a b : MS} {r : RS} (h : t s A = .ok (.bl true) A1) (h2 : a s A1 = r) : mIfS (mTb t) a b s A = r := by
  rw [e_ifS, e_tb, h, kT_0, kIf_0, h2]
theorem ifS_f {t : ME} {a b : MS} {r : RS} (h : t s A = .ok (.bl false) A1) (h2 : b s A1 = r) : mIfS (mTb t) a b s A = r := by
  rw [e_ifS, e_tb, h, kT_0, kIf_1, h2]
theorem sub_x {a b v : ME} (h : v s A = .exc x A1) : mSubS a b v s A = .exc x s A1 := by
  rw [e_sub, h, kSub1_x]
theorem sub_ok {a b v : ME} {d o i : D} {A4 : AH} (h : v s A = .ok d A1) (h2 : a s A1 = .ok o A2) (h3 : b s A2 = .ok i A3) (h4 : stSub o i d A3 = some A4) : mSubS a b v s A = .nx s A4 := by
  rw [e_sub, h, kSub1_0, h2, kSub2_0, h3, kSub3_0, h4, kSub4_0]
theorem fldS_ok {cs : List Str} {f : Str} {a v : ME} {d o : D} (h : v s A = .ok d A1) (h2 : a s A1 = .ok o A2) (h4 : stFld cs f o d A2 = some A3) : mFldS cs f a v s A = .nx s A3 := by
  rw [e_fldS, h, kFS1_0, h2, kFS2_0, h4, kSub4_0]
theorem fldS_x {cs : List Str} {f : Str} {a v : ME} (h : v s A = .exc x A1) : mFldS cs f a v s A = .exc x s A1 := by
  rw [e_fldS, h, kFS1_x]
theorem fld_ok {cs : List Str} {f : Str} {a : ME} {d o : D} (h : a s A = .ok o A1) (h2 : fldD cs f o A1 = .ok d A2) : mFld cs f a s A = .ok d A2 := by
  rw [e_fld, h, kF_0, h2]
end
end Tg

set_option Elab.async false
set_option linter.all false
set_option maxRecDepth 100000
set_option maxHeartbeats 4000000
namespace K16
open PySem Tg
def fuelN : Nat := 1000000
def g_ALL : D := (.int (72))
def g_BOXES_marked : D := (.int (6))
def g_BOXES_words : D := (.int (8))
def g_CELLS : D := (.int (64))
def g_END : D := (.tup [(.str "end")])
def tb_FORMS : List (Str × Str) := [("put", "bn"), ("move", "bb"), ("add", "bbb"), ("take", "bbb"), ("less", "bbb"), ("same", "bbb"), ("is", "bb"), ("get", "bbo"), ("set", "bob"), ("narrow", "bbb"), ("fewer", "bbt"), ("gate", "bbg"), ("enter", "b"), ("room", "b"), ("shut", "b"), ("say", "b"), ("go", "r"), ("if", "br"), ("end", "")]
def g_GATE : D := (.str "gate")
def g_HALF : D := (.int (10000))
def g_KEY : D := (.str "key")
def g_LONG : D := (.tup [(.str "long")])
def g_MOST_FUEL : D := (.int (3000))
def g_MOST_PLAIN : D := (.int (30))
def g_MOST_ROOMS : D := (.int (12))
def g_MOST_ROWS : D := (.int (60))
def g_OFFSET : D := (.int (64))
def g_PLACE : D := (.int (6))
def g_RIGHTS : D := (.str "ghls")
def g_ROOM : D := (.int (4))
def g_WHOLE : D := (.int (7))
def g_WORDS : D := (.tup [(.str "put"), (.str "move"), (.str "add"), (.str "take"), (.str "less"), (.str "same"), (.str "get"), (.str "set"), (.str "say"), (.str "go"), (.str "if"), (.str "end")])
def cs_end : List Str := ["Lazy", "AtOnce", "Plain"]
def cs_first : List Str := ["Lazy", "AtOnce"]
def cs_hand : List Str := ["Lazy"]
def cs_held : List Str := ["Lazy", "AtOnce", "Plain"]
def cs_here : List Str := ["Lazy", "AtOnce", "Plain"]
def cs_lazy : List Str := ["Machine"]
def cs_lent_ones : List Str := ["AtOnce"]
def cs_order : List Str := ["Lazy"]
def cs_program : List Str := ["Lazy", "AtOnce", "Plain"]
def cs_state : List Str := ["Lazy"]
def cs_steps : List Str := ["Lazy", "AtOnce", "Plain"]
def cs_store : List Str := ["Lazy", "AtOnce", "Plain"]
def cs_talk : List Str := ["Lazy", "AtOnce", "Plain"]
/- _law_taken: 0:_law_row 1:_law_many 2:_law_found 3:_law_cell -/
def b__law_taken : MS :=
  (mSeq (mIfS (mTb (mBin gtD (mBin ixD (mv 0) (mc (.int (3)))) (mc (.int (0))))) (mSeq (mAsg (mBin modD (mBin ixD (mv 0) (mc (.int (3)))) (mv 1)) (gmN 2))
  (mSeq (mSubS (mv 0) (mc (.int (3))) (mBin fdivD (mBin ixD (mv 0) (mc (.int (3)))) (mv 1)))
  (mRet (mv 2)))) mNx)
  (mSeq (mSubS (mv 0) (mc (.int (1))) (mBin addD (mBin ixD (mv 0) (mc (.int (1)))) (mc (.int (1)))))
  (mSeq (mIfS (mTb (mBin gtD (mBin ixD (mv 0) (mc (.int (1)))) (mCall lenD (mCons (mBin ixD (mv 0) (mc (.int (0)))) mNil)))) (mSeq (mSubS (mv 0) (mc (.int (2))) (mBin modD (mBin addD (mBin mulD (mBin ixD (mv 0) (mc (.int (2)))) (mc (.int (48271)))) (mc (.int (11)))) (mc (.int (2147483647)))))
  (mRet (mBin modD (mBin fdivD (mBin ixD (mv 0) (mc (.int (2)))) (mc (.int (7)))) (mv 1)))) mNx)
  (mSeq (mAsg (mBin ixD (mBin ixD (mv 0) (mc (.int (0)))) (mBin subD (mBin ixD (mv 0) (mc (.int (1)))) (mc (.int (1))))) (gmN 3))
  (mSeq (mSubS (mv 0) (mc (.int (2))) (mBin modD (mBin addD (mBin addD (mBin mulD (mBin ixD (mv 0) (mc (.int (2)))) (mc (.int (48271)))) (mv 3)) (mc (.int (11)))) (mc (.int (2147483647)))))
  (mSeq (mIfS (mTb (mBin geD (mv 3) (mBin powD (mc (.int (10))) (mc (.int (18)))))) (mSubS (mv 0) (mc (.int (3))) (mBin fdivD (mv 3) (mv 1))) mNx)
  (mRet (mBin modD (mv 3) (mv 1)))))))))
def m__law_taken : List D → AH → R D := mFun 2 4 b__law_taken
/- _law_number: 0:_law_row 1:_law_way -/
def b__law_number : MS :=
  (mSeq (mAsg (mCall m__law_taken (mCons (mv 0) (mCons (mc (.int (6))) mNil))) (gmN 1))
  (mSeq (mIfS (mTb (mBin ltD (mv 1) (mc (.int (4))))) (mRet (mBin ixD (mLst (mCons (mCall m__law_taken (mCons (mv 0) (mCons (mc (.int (5))) mNil))) (mCons (mCall m__law_taken (mCons (mv 0) (mCons (mc (.int (70))) mNil))) (mCons (mBin subD (mCall m__law_taken (mCons (mv 0) (mCons (mc (.int (40))) mNil))) (mc (.int (20)))) (mCons (mc (.int (1))) mNil))))) (mv 1))) mNx)
  (mRet (mBin ixD (mLst (mCons (mBin subD (mCall m__law_taken (mCons (mv 0) (mCons (mc (.int (20000))) mNil))) (mc (.int (10000)))) (mCons (mBin ixD (mLst (mCons (mc (.int (9999))) (mCons (mBin subD (mc (.int (0))) (mc (.int (10000)))) mNil))) (mCall m__law_taken (mCons (mv 0) (mCons (mc (.int (2))) mNil)))) mNil))) (mBin subD (mv 1) (mc (.int (4))))))))
def m__law_number : List D → AH → R D := mFun 1 2 b__law_number
/- _law_plain_row: 0:_law_row 1:_law_at 2:_law_rows 3:_law_words 4:_law_word 5:_law_r 6:_law_s 7:_law_t 8:_law_goal 9:_law_some -/
def b__law_plain_row : MS :=
  (mSeq (mAsg (mLst (mCons (mc (.str "put")) (mCons (mc (.str "put")) (mCons (mc (.str "move")) (mCons (mc (.str "add")) (mCons (mc (.str "take")) (mCons (mc (.str "less")) (mCons (mc (.str "same")) (mCons (mc (.str "get")) (mCons (mc (.str "get")) (mCons (mc (.str "set")) (mCons (mc (.str "set")) (mCons (mc (.str "say")) (mCons (mc (.str "say")) (mCons (mc (.str "go")) (mCons (mc (.str "if")) mNil)))))))))))))))) (gmN 3))
  (mSeq (mAsg (mBin ixD (mBin addD (mv 3) (mLst (mCons (mc (.str "if")) (mCons (mc (.str "end")) mNil)))) (mCall m__law_taken (mCons (mv 0) (mCons (mc (.int (17))) mNil)))) (gmN 4))
  (mSeq (mPar [5, 6, 7] (mCons (mCall m__law_taken (mCons (mv 0) (mCons (mc (.int (6))) mNil))) (mCons (mCall m__law_taken (mCons (mv 0) (mCons (mc (.int (6))) mNil))) (mCons (mCall m__law_taken (mCons (mv 0) (mCons (mc (.int (6))) mNil))) mNil))))
  (mSeq (mAsg (mCall m__law_taken (mCons (mv 0) (mCons (mv 2) mNil))) (gmN 8))
  (mSeq (mIfS (mTb (mBin inD (mv 4) (mTup (mCons (mc (.str "add")) (mCons (mc (.str "take")) (mCons (mc (.str "less")) (mCons (mc (.str "same")) mNil))))))) (mRet (mTup (mCons (mv 4) (mCons (mv 5) (mCons (mv 6) (mCons (mv 7) mNil)))))) mNx)
  (mSeq (mAsg (mDctN (mPCons (mc (.str "put")) (mTup (mCons (mv 5) (mCons (mBin ixD (mLst (mCons (mCall m__law_taken (mCons (mv 0) (mCons (mc (.int (64))) mNil))) (mCons (mCall m__law_number (mCons (mv 0) mNil)) mNil))) (mCall m__law_taken (mCons (mv 0) (mCons (mc (.int (2))) mNil)))) mNil))) (mPCons (mc (.str "move")) (mTup (mCons (mv 5) (mCons (mv 6) mNil))) (mPCons (mc (.str "get")) (mTup (mCons (mv 5) (mCons (mv 6) (mCons (mc (.int (0))) mNil)))) mPNil)))) (gmN 9))
  (mSeq (mDrop (mMt "dict" updD (mv 9) (mCons (mLst (mCons (mTup (mCons (mc (.str "set")) (mCons (mTup (mCons (mv 5) (mCons (mc (.int (0))) (mCons (mv 6) mNil)))) mNil))) (mCons (mTup (mCons (mc (.str "say")) (mCons (mTup (mCons (mv 5) mNil)) mNil))) (mCons (mTup (mCons (mc (.str "go")) (mCons (mTup (mCons (mv 8) mNil)) mNil))) (mCons (mTup (mCons (mc (.str "if")) (mCons (mTup (mCons (mv 5) (mCons (mv 8) mNil))) mNil))) (mCons (mTup (mCons (mc (.str "end")) (mCons (mTup mNil) mNil))) mNil)))))) mNil)))
  (mRet (mBin addD (mTup (mCons (mv 4) mNil)) (mBin ixD (mv 9) (mv 4)))))))))))
def m__law_plain_row : List D → AH → R D := mFun 3 10 b__law_plain_row
/- _law_plain: 0:_law_row 1:_law_most 2:_law_rows 3:_law_found 4:_law_at 5:_law_one -/
def b__law_plain : MS :=
  (mSeq (mAsg (mBin addD (mc (.int (1))) (mCall m__law_taken (mCons (mv 0) (mCons (mv 1) mNil)))) (gmN 2))
  (mSeq (mAsg (mLc (mRng1 (mCons (mv 2) mNil)) (gmN 4) mYes (mCall m__law_plain_row (mCons (mv 0) (mCons (mv 4) (mCons (mv 2) mNil)))) [4] finF) (gmN 3))
  (mRet (mCall tupD (mCons (mLc (miAny (mv 3)) (gmN 5) mYes (mIf (mAnd (mTb (mBin eqD (mv 5) (mTup (mCons (mc (.str "end")) mNil)))) (mTb (mBin gtD (mCall m__law_taken (mCons (mv 0) (mCons (mc (.int (4))) mNil))) (mc (.int (0)))))) (mTup (mCons (mc (.str "say")) (mCons (mc (.int (1))) mNil))) (mv 5)) [5] finF) mNil)))))
def m__law_plain : List D → AH → R D := mFun 2 6 b__law_plain
/- are_rights: 0:part 1:sign -/
def b_are_rights : MS :=
  (mRet (mAndV (mUn (isiD "str") (mv 0)) (mBin eqD (mv 0) (mMt "str" joinD (mc (.str "")) (mCons (mLc (miAny (mc g_RIGHTS)) (gmN 1) (mTb (mBin inD (mv 1) (mv 0))) (mv 1) [1] finF) mNil)))))
def m_are_rights : List D → AH → R D := mFun 1 2 b_are_rights
/- is_number: 0:word -/
def b_is_number : MS :=
  (mRet (mAndV (mUn (isiD "int") (mv 0)) (mNotV (mUn (isiD "bool") (mv 0)))))
def m_is_number : List D → AH → R D := mFun 1 1 b_is_number
/- is_within: 0:number 1:low 2:high -/
def b_is_within : MS :=
  (mRet (mAndV (mCall m_is_number (mCons (mv 0) mNil)) (mChain leD ltD (mv 1) (mv 0) (mv 2))))
def m_is_within : List D → AH → R D := mFun 3 3 b_is_within
/- is_part: 0:part 1:sort 2:rows 3:bounds -/
def b_is_part : MS :=
  (mSeq (mIfS (mTb (mBin eqD (mv 1) (mc (.str "t")))) (mRet (mCall m_are_rights (mCons (mv 0) mNil))) mNx)
  (mSeq (mAsg (mDct (mPCons (mc (.str "b")) (mTup (mCons (mc (.int (0))) (mCons (mc g_BOXES_words) mNil))) (mPCons (mc (.str "n")) (mTup (mCons (mBin subD (mc (.int (0))) (mc g_HALF)) (mCons (mc g_HALF) mNil))) (mPCons (mc (.str "o")) (mTup (mCons (mBin subD (mc (.int (1))) (mc g_OFFSET)) (mCons (mc g_OFFSET) mNil))) (mPCons (mc (.str "g")) (mTup (mCons (mc (.int (0))) (mCons (mBin addD (mv 2) (mc (.int (1)))) mNil))) (mPCons (mc (.str "r")) (mTup (mCons (mc (.int (0))) (mCons (mv 2) mNil))) mPNil)))))) (gmN 3))
  (mRet (mCall m_is_within (mCons (mv 0) (mCons (mBin ixD (mBin ixD (mv 3) (mv 1)) (mc (.int (0)))) (mCons (mBin ixD (mBin ixD (mv 3) (mv 1)) (mc (.int (1)))) mNil)))))))
def m_is_part : List D → AH → R D := mFun 3 4 b_is_part
/- is_row: 0:row 1:rows 2:form 3:k -/
def b_is_row : MS :=
  (mSeq (mIfS (mOr (mNot (mTb (mUn (isiD "tuple") (mv 0)))) (mOr (mTb (mBin eqD (mv 0) (mTup mNil))) (mOr (mNot (mTb (mUn (isiD "str") (mBin ixD (mv 0) (mc (.int (0))))))) (mTb (mUn (kninD tb_FORMS) (mBin ixD (mv 0) (mc (.int (0))))))))) (mRet (mc (.bl false))) mNx)
  (mSeq (mAsg (mUn (kixD tb_FORMS) (mBin ixD (mv 0) (mc (.int (0))))) (gmN 2))
  (mSeq (mIfS (mTb (mBin neD (mCall lenD (mCons (mv 0) mNil)) (mBin addD (mCall lenD (mCons (mv 2) mNil)) (mc (.int (1)))))) (mRet (mc (.bl false))) mNx)
  (mRet (mBin eqD (mLc (mRng1 (mCons (mCall lenD (mCons (mv 2) mNil)) mNil)) (gmN 3) (mNot (mTb (mCall m_is_part (mCons (mBin ixD (mv 0) (mBin addD (mv 3) (mc (.int (1))))) (mCons (mBin ixD (mv 2) (mv 3)) (mCons (mv 1) mNil)))))) (mv 3) [3] finF) (mLst mNil))))))
def m_is_row : List D → AH → R D := mFun 2 4 b_is_row
/- need_program: 0:program 1:number -/
def b_need_program : MS :=
  (mSeq (mIfS (mOr (mNot (mTb (mUn (isiD "tuple") (mv 0)))) (mTb (mBin eqD (mv 0) (mTup mNil)))) mNever mNx)
  (mFor (mRng1 (mCons (mCall lenD (mCons (mv 0) mNil)) mNil)) (gmN 1) (mIfS (mOr (mTb (mBin geD (mv 1) (mc g_MOST_ROWS))) (mNot (mTb (mCall m_is_row (mCons (mBin ixD (mv 0) (mv 1)) (mCons (mCall lenD (mCons (mv 0) mNil)) mNil)))))) mNever mNx)))
def m_need_program : List D → AH → R D := mFun 1 2 b_need_program
/- is_plain_marked: 0:row 1:boxes 2:box -/
def b_is_plain_marked : MS :=
  (mSeq (mIfS (mTb (mBin ninD (mBin ixD (mv 0) (mc (.int (0)))) (mc g_WORDS))) (mRet (mc (.bl false))) mNx)
  (mSeq (mIfS (mTb (mBin eqD (mBin ixD (mv 0) (mc (.int (0)))) (mc (.str "get")))) (mRet (mAndV (mBin eqD (mBin ixD (mv 0) (mc (.int (3)))) (mc (.int (0)))) (mBin ltD (mCall maxD (mCons (mSl (mv 0) (mPart (mc (.int (1)))) (mPart (mc (.int (3))))) mNil)) (mc g_BOXES_marked)))) mNx)
  (mSeq (mIfS (mTb (mBin eqD (mBin ixD (mv 0) (mc (.int (0)))) (mc (.str "set")))) (mRet (mAndV (mBin eqD (mBin ixD (mv 0) (mc (.int (2)))) (mc (.int (0)))) (mBin ltD (mCall maxD (mCons (mBin ixD (mv 0) (mc (.int (1)))) (mCons (mBin ixD (mv 0) (mc (.int (3)))) mNil))) (mc g_BOXES_marked)))) mNx)
  (mSeq (mAsg (mGet2 (mDct (mPCons (mc (.str "put")) (mSl (mv 0) (mPart (mc (.int (1)))) (mPart (mc (.int (2))))) (mPCons (mc (.str "go")) (mTup mNil) (mPCons (mc (.str "end")) (mTup mNil) (mPCons (mc (.str "if")) (mSl (mv 0) (mPart (mc (.int (1)))) (mPart (mc (.int (2))))) mPNil))))) (mBin ixD (mv 0) (mc (.int (0)))) (mSl (mv 0) (mPart (mc (.int (1)))) mNoPart)) (gmN 1))
  (mRet (mBin eqD (mLc (miAny (mv 1)) (gmN 2) (mTb (mBin geD (mv 2) (mc g_BOXES_marked))) (mv 2) [2] finF) (mLst mNil)))))))
def m_is_plain_marked : List D → AH → R D := mFun 1 3 b_is_plain_marked
/- need_plain: 0:program 1:number -/
def b_need_plain : MS :=
  (mSeq (mDrop (mCall m_need_program (mCons (mv 0) mNil)))
  (mFor (mRng1 (mCons (mCall lenD (mCons (mv 0) mNil)) mNil)) (gmN 1) (mIfS (mOr (mTb (mBin geD (mv 1) (mc g_MOST_PLAIN))) (mNot (mTb (mCall m_is_plain_marked (mCons (mBin ixD (mv 0) (mv 1)) mNil))))) mNever mNx)))
def m_need_plain : List D → AH → R D := mFun 1 2 b_need_plain
/- need_numbers: 0:cells 1:place -/
def b_need_numbers : MS :=
  (mFor (mRng1 (mCons (mCall maxD (mCons (mc g_CELLS) (mCons (mCall lenD (mCons (mv 0) mNil)) mNil))) mNil)) (gmN 1) (mIfS (mOr (mTb (mBin geD (mv 1) (mCall lenD (mCons (mv 0) mNil)))) (mOr (mTb (mBin geD (mv 1) (mc g_CELLS))) (mNot (mTb (mCall m_is_within (mCons (mBin ixD (mv 0) (mv 1)) (mCons (mBin subD (mc (.int (0))) (mc g_HALF)) (mCons (mc g_HALF) mNil)))))))) mNever mNx))
def m_need_numbers : List D → AH → R D := mFun 1 2 b_need_numbers
/- need_fuel: 0:fuel -/
def b_need_fuel : MS :=
  (mIfS (mNot (mTb (mCall m_is_within (mCons (mv 0) (mCons (mc (.int (0))) (mCons (mBin addD (mc g_MOST_FUEL) (mc (.int (1)))) mNil)))))) mNever mNx)
def m_need_fuel : List D → AH → R D := mFun 1 1 b_need_fuel
/- Plain.__init__: 0:self 1:program 2:cells -/
def b_Plain___init__ : MS :=
  (mSeq (mFldS cs_program "program" (mv 0) (mv 1))
  (mSeq (mFldS cs_store "store" (mv 0) (mCall listN (mCons (mv 2) mNil)))
  (mSeq (mFldS cs_held "held" (mv 0) (mBin mulN (mLst (mCons (mc (.int (0))) mNil)) (mc g_BOXES_marked)))
  (mSeq (mFldS cs_here "here" (mv 0) (mc (.int (0))))
  (mSeq (mFldS cs_talk "talk" (mv 0) (mLstN mNil))
  (mSeq (mFldS cs_steps "steps" (mv 0) (mc (.int (0))))
  (mFldS cs_end "end" (mv 0) (mc .non))))))))
def m_Plain___init__ : List D → AH → R D := mFun 3 3 b_Plain___init__
/- ring: 0:number -/
def b_ring : MS :=
  (mRet (mBin subD (mBin modD (mBin addD (mv 0) (mc g_HALF)) (mBin mulD (mc (.int (2))) (mc g_HALF))) (mc g_HALF)))
def m_ring : List D → AH → R D := mFun 1 1 b_ring
/- Plain.double: 0:self 1:word 2:one 3:other -/
def b_Plain_double : MS :=
  (mSeq (mIfS (mTb (mBin inD (mv 1) (mTup (mCons (mc (.str "less")) (mCons (mc (.str "same")) mNil))))) (mRet (mCall intD (mCons (mIf (mTb (mBin eqD (mv 1) (mc (.str "less")))) (mBin ltD (mv 2) (mv 3)) (mBin eqD (mv 2) (mv 3))) mNil))) mNx)
  (mRet (mCall m_ring (mCons (mIf (mTb (mBin eqD (mv 1) (mc (.str "add")))) (mBin addD (mv 2) (mv 3)) (mBin subD (mv 2) (mv 3))) mNil))))
def m_Plain_double : List D → AH → R D := mFun 4 4 b_Plain_double
/- Plain.deed: 0:self 1:word 2:row 3:boxes -/
def b_Plain_deed : MS :=
  (mSeq (mAsg (mFld cs_held "held" (mv 0)) (gmN 3))
  (mIfS (mTb (mBin eqD (mv 1) (mc (.str "say")))) (mDrop (mMt "list" appD (mFld cs_talk "talk" (mv 0)) (mCons (mBin ixD (mv 3) (mBin ixD (mv 2) (mc (.int (1))))) mNil))) (mIfS (mTb (mBin eqD (mv 1) (mc (.str "set")))) (mSubS (mFld cs_store "store" (mv 0)) (mBin ixD (mv 3) (mBin ixD (mv 2) (mc (.int (1))))) (mBin ixD (mv 3) (mBin ixD (mv 2) (mc (.int (3)))))) (mIfS (mTb (mBin eqD (mv 1) (mc (.str "get")))) (mSubS (mv 3) (mBin ixD (mv 2) (mc (.int (1)))) (mBin ixD (mFld cs_store "store" (mv 0)) (mBin ixD (mv 3) (mBin ixD (mv 2) (mc (.int (2))))))) (mIfS (mTb (mBin eqD (mv 1) (mc (.str "put")))) (mSubS (mv 3) (mBin ixD (mv 2) (mc (.int (1)))) (mBin ixD (mv 2) (mc (.int (2))))) (mIfS (mTb (mBin eqD (mv 1) (mc (.str "move")))) (mSubS (mv 3) (mBin ixD (mv 2) (mc (.int (1)))) (mBin ixD (mv 3) (mBin ixD (mv 2) (mc (.int (2)))))) (mIfS (mTb (mBin neD (mv 1) (mc (.str "if")))) (mSubS (mv 3) (mBin ixD (mv 2) (mc (.int (1)))) (mMeth "Plain" "double" m_Plain_double (mv 0) (mCons (mv 1) (mCons (mBin ixD (mv 3) (mBin ixD (mv 2) (mc (.int (2))))) (mCons (mBin ixD (mv 3) (mBin ixD (mv 2) (mc (.int (3))))) mNil))))) mNx)))))))
def m_Plain_deed : List D → AH → R D := mFun 3 4 b_Plain_deed
/- Plain.step: 0:self 1:row 2:word 3:here -/
def b_Plain_step : MS :=
  (mSeq (mAsg (mBin ixD (mFld cs_program "program" (mv 0)) (mFld cs_here "here" (mv 0))) (gmN 1))
  (mSeq (mAsg (mBin ixD (mv 1) (mc (.int (0)))) (gmN 2))
  (mSeq (mFldS cs_steps "steps" (mv 0) (mBin addD (mFld cs_steps "steps" (mv 0)) (mc (.int (1)))))
  (mSeq (mAsg (mFld cs_here "here" (mv 0)) (gmN 3))
  (mSeq (mFldS cs_here "here" (mv 0) (mBin addD (mv 3) (mc (.int (1)))))
  (mSeq (mIfS (mTb (mBin eqD (mv 2) (mc (.str "end")))) (mSeq (mFldS cs_end "end" (mv 0) (mc g_END))
  mRetN) mNx)
  (mSeq (mIfS (mOr (mTb (mBin eqD (mv 2) (mc (.str "go")))) (mAnd (mTb (mBin eqD (mv 2) (mc (.str "if")))) (mTb (mBin neD (mBin ixD (mFld cs_held "held" (mv 0)) (mBin ixD (mv 1) (mc (.int (1))))) (mc (.int (0))))))) (mFldS cs_here "here" (mv 0) (mBin ixD (mv 1) (mUn negD (mc (.int (1)))))) (mIfS (mAnd (mTb (mBin inD (mv 2) (mTup (mCons (mc (.str "get")) (mCons (mc (.str "set")) mNil))))) (mNot (mTb (mChain leD ltD (mc (.int (0))) (mBin ixD (mFld cs_held "held" (mv 0)) (mIf (mTb (mBin eqD (mv 2) (mc (.str "get")))) (mBin ixD (mv 1) (mc (.int (2)))) (mBin ixD (mv 1) (mc (.int (1)))))) (mc g_CELLS))))) (mSeq (mFldS cs_end "end" (mv 0) (mTup (mCons (mc (.str "fault")) (mCons (mc (.str "beyond")) (mCons (mv 3) mNil)))))
  mRetN) (mDrop (mMeth "Plain" "deed" m_Plain_deed (mv 0) (mCons (mv 2) (mCons (mv 1) mNil))))))
  (mIfS (mTb (mBin eqD (mFld cs_here "here" (mv 0)) (mCall lenD (mCons (mFld cs_program "program" (mv 0)) mNil)))) (mFldS cs_end "end" (mv 0) (mc g_END)) mNx))))))))
def m_Plain_step : List D → AH → R D := mFun 1 4 b_Plain_step
/- run_places: 0:program 1:cells 2:fuel 3:plain -/
def b_run_places : MS :=
  (mSeq (mDrop (mCall m_need_plain (mCons (mv 0) mNil)))
  (mSeq (mDrop (mCall m_need_numbers (mCons (mv 1) mNil)))
  (mSeq (mDrop (mCall m_need_fuel (mCons (mv 2) mNil)))
  (mSeq (mAsg (mMake "Plain" m_Plain___init__ (mCons (mv 0) (mCons (mv 1) mNil))) (gmN 3))
  (mSeq (whG (mAnd (mTb (mBin isD (mFld cs_end "end" (mv 3)) (mc .non))) (mTb (mBin ltD (mFld cs_steps "steps" (mv 3)) (mv 2)))) (mDrop (mMeth "Plain" "step" m_Plain_step (mv 3) mNil)) fuelN)
  (mRet (mTup (mCons (mFld cs_talk "talk" (mv 3)) (mCons (mIf (mTb (mBin isD (mFld cs_end "end" (mv 3)) (mc .non))) (mc g_LONG) (mFld cs_end "end" (mv 3))) (mCons (mFld cs_steps "steps" (mv 3)) (mCons (mFld cs_store "store" (mv 3)) mNil)))))))))))
def m_run_places : List D → AH → R D := mFun 3 4 b_run_places
/- keyed: 0:program 1:begins 2:origins 3:number 4:rows 5:row -/
def b_keyed : MS :=
  (mSeq (mDrop (mCall m_need_plain (mCons (mv 0) mNil)))
  (mSeq (mAsg (mLstN mNil) (gmN 1))
  (mSeq (mAsg (mLstN mNil) (gmN 2))
  (mSeq (mFor (mRng1 (mCons (mCall lenD (mCons (mv 0) mNil)) mNil)) (gmN 3) (mSeq (mDrop (mMt "list" appD (mv 1) (mCons (mCall lenD (mCons (mv 2) mNil)) mNil)))
  (mDrop (mMt "list" extD (mv 2) (mCons (mBin mulD (mLst (mCons (mv 3) mNil)) (mIf (mTb (mBin inD (mBin ixD (mBin ixD (mv 0) (mv 3)) (mc (.int (0)))) (mTup (mCons (mc (.str "get")) (mCons (mc (.str "set")) mNil))))) (mc (.int (2))) (mc (.int (1))))) mNil)))))
  (mSeq (mAsg (mLstN mNil) (gmN 4))
  (mSeq (mFor (miAny (mv 0)) (gmN 5) (mIfS (mTb (mBin eqD (mBin ixD (mv 5) (mc (.int (0)))) (mc (.str "get")))) (mDrop (mMt "list" extD (mv 4) (mCons (mLst (mCons (mTup (mCons (mc (.str "add")) (mCons (mc g_PLACE) (mCons (mc g_WHOLE) (mCons (mBin ixD (mv 5) (mc (.int (2)))) mNil))))) (mCons (mTup (mCons (mc (.str "get")) (mCons (mBin ixD (mv 5) (mc (.int (1)))) (mCons (mc g_PLACE) (mCons (mc (.int (0))) mNil))))) mNil))) mNil))) (mIfS (mTb (mBin eqD (mBin ixD (mv 5) (mc (.int (0)))) (mc (.str "set")))) (mDrop (mMt "list" extD (mv 4) (mCons (mLst (mCons (mTup (mCons (mc (.str "add")) (mCons (mc g_PLACE) (mCons (mc g_WHOLE) (mCons (mBin ixD (mv 5) (mc (.int (1)))) mNil))))) (mCons (mTup (mCons (mc (.str "set")) (mCons (mc g_PLACE) (mCons (mc (.int (0))) (mCons (mBin ixD (mv 5) (mc (.int (3)))) mNil))))) mNil))) mNil))) (mIfS (mTb (mBin inD (mBin ixD (mv 5) (mc (.int (0)))) (mTup (mCons (mc (.str "go")) (mCons (mc (.str "if")) mNil))))) (mDrop (mMt "list" appD (mv 4) (mCons (mBin addD (mSl (mv 5) mNoPart (mPart (mUn negD (mc (.int (1)))))) (mTup (mCons (mBin ixD (mv 1) (mBin ixD (mv 5) (mUn negD (mc (.int (1)))))) mNil))) mNil))) (mDrop (mMt "list" appD (mv 4) (mCons (mv 5) mNil)))))))
  (mRet (mTup (mCons (mCall tupD (mCons (mv 4) mNil)) (mCons (mCall tupD (mCons (mv 2) mNil)) mNil))))))))))
def m_keyed : List D → AH → R D := mFun 1 6 b_keyed
/- is_key: 0:word 1:most 2:begin 3:end 4:at 5:rights -/
def b_is_key : MS :=
  (mSeq (mIfS (mOr (mNot (mTb (mUn (isiD "tuple") (mv 0)))) (mOr (mTb (mBin neD (mCall lenD (mCons (mv 0) mNil)) (mc (.int (5))))) (mTb (mBin neD (mBin ixD (mv 0) (mc (.int (0)))) (mc g_KEY))))) (mRet (mc (.bl false))) mNx)
  (mSeq (mAsg (mSl (mv 0) (mPart (mc (.int (1)))) mNoPart) (gmTup 4 (gmCons (gmN 2) (gmCons (gmN 3) (gmCons (gmN 4) (gmCons (gmN 5) gmNil))))))
  (mSeq (mIfS (mOr (mNot (mTb (mCall m_is_within (mCons (mv 2) (mCons (mc (.int (0))) (mCons (mv 1) mNil)))))) (mNot (mTb (mCall m_is_within (mCons (mv 3) (mCons (mBin addD (mv 2) (mc (.int (1)))) (mCons (mBin addD (mv 1) (mc (.int (1)))) mNil))))))) (mRet (mc (.bl false))) mNx)
  (mRet (mAndV (mCall m_is_within (mCons (mv 4) (mCons (mBin subD (mc (.int (0))) (mc g_HALF)) (mCons (mc g_HALF) mNil)))) (mCall m_are_rights (mCons (mv 5) mNil)))))))
def m_is_key : List D → AH → R D := mFun 2 6 b_is_key
/- is_plain_words: 0:word 1:most -/
def b_is_plain_words : MS :=
  (mRet (mOrV (mCall m_is_within (mCons (mv 0) (mCons (mBin subD (mc (.int (0))) (mc g_HALF)) (mCons (mc g_HALF) mNil)))) (mCall m_is_key (mCons (mv 0) (mCons (mv 1) mNil)))))
def m_is_plain_words : List D → AH → R D := mFun 2 2 b_is_plain_words
/- is_word: 0:word 1:most 2:rows -/
def b_is_word : MS :=
  (mSeq (mIfS (mTb (mCall m_is_plain_words (mCons (mv 0) (mCons (mv 1) mNil)))) (mRet (mc (.bl true))) mNx)
  (mSeq (mIfS (mOr (mNot (mTb (mUn (isiD "tuple") (mv 0)))) (mOr (mTb (mBin neD (mCall lenD (mCons (mv 0) mNil)) (mc (.int (3))))) (mTb (mBin neD (mBin ixD (mv 0) (mc (.int (0)))) (mc g_GATE))))) (mRet (mc (.bl false))) mNx)
  (mRet (mAndV (mCall m_is_within (mCons (mBin ixD (mv 0) (mc (.int (1)))) (mCons (mc (.int (0))) (mCons (mBin addD (mv 2) (mc (.int (1)))) mNil)))) (mCall m_is_plain_words (mCons (mBin ixD (mv 0) (mc (.int (2)))) (mCons (mv 1) mNil)))))))
def m_is_word : List D → AH → R D := mFun 3 3 b_is_word
/- need_words: 0:words 1:many 2:most 3:rows 4:before 5:place -/
def b_need_words : MS :=
  (mSeq (mFor (mRng1 (mCons (mv 1) mNil)) (gmN 5) (mIfS (mOr (mTb (mBin geD (mv 5) (mCall lenD (mCons (mv 0) mNil)))) (mNot (mTb (mCall m_is_word (mCons (mBin ixD (mv 0) (mv 5)) (mCons (mv 2) (mCons (mv 3) mNil))))))) mNever mNx))
  (mIfS (mTb (mBin gtD (mCall lenD (mCons (mv 0) mNil)) (mv 1))) mNever mNx))
def m_need_words : List D → AH → R D := mFun 5 6 b_need_words
/- need_state: 0:rows 1:rooms 2:cells 3:boxes 4:most -/
def b_need_state : MS :=
  (mSeq (mIfS (mNot (mTb (mCall m_is_within (mCons (mv 1) (mCons (mc (.int (0))) (mCons (mBin addD (mc g_MOST_ROOMS) (mc (.int (1)))) mNil)))))) mNever mNx)
  (mSeq (mAsg (mBin subD (mc g_CELLS) (mBin mulD (mc g_ROOM) (mv 1))) (gmN 4))
  (mSeq (mDrop (mCall m_need_words (mCons (mv 2) (mCons (mv 4) (mCons (mv 4) (mCons (mv 0) (mCons (mc (.int (0))) mNil)))))))
  (mDrop (mCall m_need_words (mCons (mv 3) (mCons (mc g_BOXES_words) (mCons (mv 4) (mCons (mv 0) (mCons (mv 4) mNil))))))))))
def m_need_state : List D → AH → R D := mFun 4 5 b_need_state
/- Rows.__init__: 0:self 1:program 2:rooms 3:cells 4:boxes -/
def b_Rows___init__ : MS :=
  (mSeq (mFldS cs_program "program" (mv 0) (mv 1))
  (mSeq (mFldS cs_first "first" (mv 0) (mBin subD (mc g_CELLS) (mBin mulD (mc g_ROOM) (mv 2))))
  (mSeq (mFldS cs_store "store" (mv 0) (mBin addN (mCall listD (mCons (mv 3) mNil)) (mBin mulD (mLst (mCons (mc (.int (0))) mNil)) (mBin mulD (mc g_ROOM) (mv 2)))))
  (mSeq (mFldS cs_held "held" (mv 0) (mCall listN (mCons (mv 4) mNil)))
  (mSeq (mFldS cs_here "here" (mv 0) (mc (.int (0))))
  (mSeq (mFldS cs_talk "talk" (mv 0) (mLstN mNil))
  (mSeq (mFldS cs_steps "steps" (mv 0) (mc (.int (0))))
  (mFldS cs_end "end" (mv 0) (mc .non)))))))))
def m_Rows___init__ : List D → AH → R D := mFun 5 5 b_Rows___init__
/- AtOnce.__init__: 0:self 1:program 2:rooms 3:cells 4:boxes -/
def b_AtOnce___init__ : MS :=
  (mSeq (mDrop (mCall m_Rows___init__ (mCons (mv 0) (mCons (mv 1) (mCons (mv 2) (mCons (mv 3) (mCons (mv 4) mNil)))))))
  (mFldS cs_lent_ones "lent_ones" (mv 0) (mLstN mNil)))
def m_AtOnce___init__ : List D → AH → R D := mFun 5 5 b_AtOnce___init__
/- AtOnce.look: 0:self 1:word -/
def b_AtOnce_look : MS :=
  (mRet (mv 1))
def m_AtOnce_look : List D → AH → R D := mFun 2 2 b_AtOnce_look
/- AtOnce.box: 0:self 1:number -/
def b_AtOnce_box : MS :=
  (mRet (mMeth "AtOnce" "look" m_AtOnce_look (mv 0) (mCons (mBin ixD (mFld cs_held "held" (mv 0)) (mv 1)) mNil)))
def m_AtOnce_box : List D → AH → R D := mFun 2 2 b_AtOnce_box
/- need: 0:is_good 1:word -/
def b_need : MS :=
  (mIfS (mNot (mTb (mv 0))) (mRaise "Stop" "word" (mv 1)) mNx)
def m_need : List D → AH → R D := mFun 2 2 b_need
/- kind_of: 0:word -/
def b_kind_of : MS :=
  (mRet (mIf (mTb (mCall m_is_number (mCons (mv 0) mNil))) (mc (.int (0))) (mBin ixD (mDct (mPCons (mc g_KEY) (mc (.int (1))) (mPCons (mc g_GATE) (mc (.int (2))) mPNil))) (mBin ixD (mv 0) (mc (.int (0)))))))
def m_kind_of : List D → AH → R D := mFun 1 1 b_kind_of
/- AtOnce.entered: 0:self 1:number 2:gate 3:back -/
def b_AtOnce_entered : MS :=
  (mSeq (mAsg (mMeth "AtOnce" "box" m_AtOnce_box (mv 0) (mCons (mv 1) mNil)) (gmN 2))
  (mSeq (mDrop (mCall m_need (mCons (mAndV (mBin eqD (mCall m_kind_of (mCons (mv 2) mNil)) (mc (.int (2)))) (mBin ltD (mCall m_kind_of (mCons (mMeth "AtOnce" "box" m_AtOnce_box (mv 0) (mCons (mBin subD (mc g_BOXES_words) (mc (.int (1)))) mNil)) mNil)) (mc (.int (2))))) (mCons (mc (.str "kind")) mNil))))
  (mSeq (mAsg (mTup (mCons (mc g_GATE) (mCons (mBin addD (mFld cs_here "here" (mv 0)) (mc (.int (1)))) (mCons (mMeth "AtOnce" "box" m_AtOnce_box (mv 0) (mCons (mBin subD (mc g_BOXES_words) (mc (.int (1)))) mNil)) mNil)))) (gmN 3))
  (mSeq (mSubS (mFld cs_held "held" (mv 0)) (mBin subD (mc g_BOXES_words) (mc (.int (1)))) (mBin ixD (mv 2) (mc (.int (2)))))
  (mSeq (mSubS (mFld cs_held "held" (mv 0)) (mBin subD (mc g_BOXES_words) (mc (.int (2)))) (mv 3))
  (mRet (mBin ixD (mv 2) (mc (.int (1))))))))))
def m_AtOnce_entered : List D → AH → R D := mFun 2 4 b_AtOnce_entered
/- AtOnce.number: 0:self 1:number 2:word -/
def b_AtOnce_number : MS :=
  (mSeq (mAsg (mMeth "AtOnce" "box" m_AtOnce_box (mv 0) (mCons (mv 1) mNil)) (gmN 2))
  (mSeq (mDrop (mCall m_need (mCons (mCall m_is_number (mCons (mv 2) mNil)) (mCons (mc (.str "kind")) mNil))))
  (mRet (mv 2))))
def m_AtOnce_number : List D → AH → R D := mFun 2 3 b_AtOnce_number
/- AtOnce.key: 0:self 1:number 2:word -/
def b_AtOnce_key : MS :=
  (mSeq (mAsg (mMeth "AtOnce" "box" m_AtOnce_box (mv 0) (mCons (mv 1) mNil)) (gmN 2))
  (mSeq (mDrop (mCall m_need (mCons (mBin eqD (mCall m_kind_of (mCons (mv 2) mNil)) (mc (.int (1)))) (mCons (mc (.str "kind")) mNil))))
  (mRet (mv 2))))
def m_AtOnce_key : List D → AH → R D := mFun 2 3 b_AtOnce_key
/- AtOnce.cell_of: 0:self 1:key 2:far 3:right 4:cell -/
def b_AtOnce_cell_of : MS :=
  (mSeq (mDrop (mCall m_need (mCons (mBin inD (mv 3) (mBin ixD (mv 1) (mc (.int (4))))) (mCons (mc (.str "right")) mNil))))
  (mSeq (mAsg (mBin addD (mBin ixD (mv 1) (mc (.int (3)))) (mv 2)) (gmN 4))
  (mSeq (mDrop (mCall m_need (mCons (mChain leD ltD (mBin ixD (mv 1) (mc (.int (1)))) (mv 4) (mBin ixD (mv 1) (mc (.int (2))))) (mCons (mc (.str "beyond")) mNil))))
  (mRet (mv 4)))))
def m_AtOnce_cell_of : List D → AH → R D := mFun 4 5 b_AtOnce_cell_of
/- AtOnce.put_in: 0:self 1:row 2:key 3:word 4:cell -/
def b_AtOnce_put_in : MS :=
  (mSeq (mAsg (mMeth "AtOnce" "key" m_AtOnce_key (mv 0) (mCons (mBin ixD (mv 1) (mc (.int (1)))) mNil)) (gmN 2))
  (mSeq (mAsg (mMeth "AtOnce" "box" m_AtOnce_box (mv 0) (mCons (mBin ixD (mv 1) (mc (.int (3)))) mNil)) (gmN 3))
  (mSeq (mAsg (mMeth "AtOnce" "cell_of" m_AtOnce_cell_of (mv 0) (mCons (mv 2) (mCons (mBin ixD (mv 1) (mc (.int (2)))) (mCons (mc (.str "s")) mNil)))) (gmN 4))
  (mSeq (mDrop (mCall m_need (mCons (mOrV (mCall m_is_number (mCons (mv 3) mNil)) (mBin inD (mc (.str "h")) (mBin ixD (mv 2) (mc (.int (4)))))) (mCons (mc (.str "right")) mNil))))
  (mSubS (mFld cs_store "store" (mv 0)) (mv 4) (mv 3))))))
def m_AtOnce_put_in : List D → AH → R D := mFun 2 5 b_AtOnce_put_in
/- inner: 0:word -/
def b_inner (g : List D → AH → R D) : MS :=
  (mSeq (mIfS (mTb (mBin eqD (mCall m_kind_of (mCons (mv 0) mNil)) (mc (.int (2))))) (mRet (mCall g (mCons (mBin ixD (mv 0) (mc (.int (2)))) mNil))) mNx)
  (mRet (mIf (mTb (mBin eqD (mCall m_kind_of (mCons (mv 0) mNil)) (mc (.int (1))))) (mv 0) (mc .non))))
def m_inner : Nat → List D → AH → R D
  | 0 => mBad
  | n + 1 => mFun 1 1 (b_inner (m_inner n))
/- without: 0:word 1:shut 2:key 3:begin -/
def b_without : MS :=
  (mSeq (mAsg (mCall (m_inner 2) (mCons (mv 0) mNil)) (gmN 2))
  (mSeq (mIfS (mOr (mTb (mBin isD (mv 2) (mc .non))) (mTb (mBin eqD (mLc (miAny (mv 1)) (gmN 3) (mTb (mChain leD ltD (mv 3) (mBin ixD (mv 2) (mc (.int (1)))) (mBin addD (mv 3) (mc g_ROOM)))) (mv 3) [3] finF) (mLst mNil)))) (mRet (mv 0)) mNx)
  (mRet (mIf (mTb (mBin eqD (mBin ixD (mv 0) (mc (.int (0)))) (mc g_KEY))) (mc (.int (0))) (mTup (mCons (mc g_GATE) (mCons (mBin ixD (mv 0) (mc (.int (1)))) (mCons (mc (.int (0))) mNil))))))))
def m_without : List D → AH → R D := mFun 2 4 b_without
/- AtOnce.take_room: 0:self 1:begin 2:room 3:word -/
def b_AtOnce_take_room : MS :=
  (mSeq (mIfS (mTb (mBin ninD (mv 1) (mFld cs_lent_ones "lent_ones" (mv 0)))) (mRet (mc (.bl false))) mNx)
  (mSeq (mFldS cs_lent_ones "lent_ones" (mv 0) (mLc (miAny (mFld cs_lent_ones "lent_ones" (mv 0))) (gmN 2) (mTb (mBin neD (mv 2) (mv 1))) (mv 2) [2] finN))
  (mSeq (mFldS cs_store "store" (mv 0) (mLc (miAny (mFld cs_store "store" (mv 0))) (gmN 3) mYes (mCall m_without (mCons (mv 3) (mCons (mLst (mCons (mv 1) mNil)) mNil))) [3] finN))
  (mSeq (mFldS cs_held "held" (mv 0) (mLc (miAny (mFld cs_held "held" (mv 0))) (gmN 3) mYes (mCall m_without (mCons (mv 3) (mCons (mLst (mCons (mv 1) mNil)) mNil))) [3] finN))
  (mRet (mc (.bl true)))))))
def m_AtOnce_take_room : List D → AH → R D := mFun 2 4 b_AtOnce_take_room
/- AtOnce.shut: 0:self 1:number 2:key -/
def b_AtOnce_shut : MS :=
  (mSeq (mAsg (mMeth "AtOnce" "key" m_AtOnce_key (mv 0) (mCons (mv 1) mNil)) (gmN 2))
  (mSeq (mDrop (mCall m_need (mCons (mBin inD (mc (.str "l")) (mBin ixD (mv 2) (mc (.int (4))))) (mCons (mc (.str "right")) mNil))))
  (mDrop (mCall m_need (mCons (mAndV (mBin eqD (mBin subD (mBin ixD (mv 2) (mc (.int (2)))) (mBin ixD (mv 2) (mc (.int (1))))) (mc g_ROOM)) (mMeth "AtOnce" "take_room" m_AtOnce_take_room (mv 0) (mCons (mBin ixD (mv 2) (mc (.int (1)))) mNil))) (mCons (mc (.str "room")) mNil))))))
def m_AtOnce_shut : List D → AH → R D := mFun 2 3 b_AtOnce_shut
/- AtOnce.give_room: 0:self 1:begin -/
def b_AtOnce_give_room : MS :=
  (mSeq (mFor (mRng3 (mCons (mFld cs_first "first" (mv 0)) (mCons (mc g_CELLS) (mCons (mc g_ROOM) mNil)))) (gmN 1) (mIfS (mTb (mBin ninD (mv 1) (mFld cs_lent_ones "lent_ones" (mv 0)))) (mSeq (mDrop (mMt "list" appD (mFld cs_lent_ones "lent_ones" (mv 0)) (mCons (mv 1) mNil)))
  (mRet (mv 1))) mNx))
  (mRet (mc .non)))
def m_AtOnce_give_room : List D → AH → R D := mFun 1 2 b_AtOnce_give_room
/- AtOnce.lent: 0:self 1:begin 2:cell -/
def b_AtOnce_lent : MS :=
  (mSeq (mAsg (mMeth "AtOnce" "give_room" m_AtOnce_give_room (mv 0) mNil) (gmN 1))
  (mSeq (mIfS (mTb (mBin isD (mv 1) (mc .non))) (mRet (mc (.int (0)))) mNx)
  (mSeq (mFor (mRng2 (mCons (mv 1) (mCons (mBin addD (mv 1) (mc g_ROOM)) mNil))) (gmN 2) (mSubS (mFld cs_store "store" (mv 0)) (mv 2) (mc (.int (0)))))
  (mRet (mTup (mCons (mc g_KEY) (mCons (mv 1) (mCons (mBin addD (mv 1) (mc g_ROOM)) (mCons (mv 1) (mCons (mc g_RIGHTS) mNil))))))))))
def m_AtOnce_lent : List D → AH → R D := mFun 1 3 b_AtOnce_lent
/- AtOnce.taken_out: 0:self 1:row 2:key 3:word -/
def b_AtOnce_taken_out : MS :=
  (mSeq (mAsg (mMeth "AtOnce" "key" m_AtOnce_key (mv 0) (mCons (mBin ixD (mv 1) (mc (.int (2)))) mNil)) (gmN 2))
  (mSeq (mAsg (mMeth "AtOnce" "look" m_AtOnce_look (mv 0) (mCons (mBin ixD (mFld cs_store "store" (mv 0)) (mMeth "AtOnce" "cell_of" m_AtOnce_cell_of (mv 0) (mCons (mv 2) (mCons (mBin ixD (mv 1) (mc (.int (3)))) (mCons (mc (.str "g")) mNil))))) mNil)) (gmN 3))
  (mRet (mIf (mOr (mTb (mCall m_is_number (mCons (mv 3) mNil))) (mTb (mBin inD (mc (.str "h")) (mBin ixD (mv 2) (mc (.int (4))))))) (mv 3) (mc (.int (0)))))))
def m_AtOnce_taken_out : List D → AH → R D := mFun 2 4 b_AtOnce_taken_out
/- fewer: 0:key 1:rights 2:sign -/
def b_fewer : MS :=
  (mRet (mBin addD (mSl (mv 0) mNoPart (mPart (mc (.int (4))))) (mTup (mCons (mMt "str" joinD (mc (.str "")) (mCons (mLc (miAny (mBin ixD (mv 0) (mc (.int (4))))) (gmN 2) (mTb (mBin inD (mv 2) (mv 1))) (mv 2) [2] finF) mNil)) mNil))))
def m_fewer : List D → AH → R D := mFun 2 3 b_fewer
/- narrowed: 0:key 1:many 2:begin -/
def b_narrowed : MS :=
  (mSeq (mAsg (mBin ixD (mv 0) (mc (.int (3)))) (gmN 2))
  (mSeq (mIfS (mOr (mTb (mBin ltD (mv 1) (mc (.int (1))))) (mOr (mTb (mBin ltD (mv 2) (mBin ixD (mv 0) (mc (.int (1)))))) (mTb (mBin gtD (mBin addD (mv 2) (mv 1)) (mBin ixD (mv 0) (mc (.int (2)))))))) (mRet (mc .non)) mNx)
  (mRet (mTup (mCons (mc g_KEY) (mCons (mv 2) (mCons (mBin addD (mv 2) (mv 1)) (mCons (mv 2) (mCons (mBin ixD (mv 0) (mc (.int (4)))) mNil)))))))))
def m_narrowed : List D → AH → R D := mFun 2 3 b_narrowed
/- moved: 0:word 1:number -/
def b_moved : MS :=
  (mSeq (mIfS (mTb (mCall m_is_number (mCons (mv 0) mNil))) (mRet (mCall m_ring (mCons (mBin addD (mv 0) (mv 1)) mNil))) mNx)
  (mSeq (mIfS (mTb (mBin eqD (mBin ixD (mv 0) (mc (.int (0)))) (mc g_GATE))) (mRet (mc .non)) mNx)
  (mRet (mBin addD (mSl (mv 0) mNoPart (mPart (mc (.int (3))))) (mTup (mCons (mCall m_ring (mCons (mBin addD (mBin ixD (mv 0) (mc (.int (3)))) (mv 1)) mNil)) (mCons (mBin ixD (mv 0) (mc (.int (4)))) mNil)))))))
def m_moved : List D → AH → R D := mFun 2 2 b_moved
/- AtOnce.double: 0:self 1:word 2:row 3:one 4:other -/
def b_AtOnce_double : MS :=
  (mSeq (mPar [3, 4] (mCons (mMeth "AtOnce" "box" m_AtOnce_box (mv 0) (mCons (mBin ixD (mv 2) (mc (.int (2)))) mNil)) (mCons (mMeth "AtOnce" "box" m_AtOnce_box (mv 0) (mCons (mBin ixD (mv 2) (mc (.int (3)))) mNil)) mNil)))
  (mSeq (mIfS (mTb (mBin eqD (mv 1) (mc (.str "same")))) (mRet (mCall intD (mCons (mBin eqD (mv 3) (mv 4)) mNil))) mNx)
  (mSeq (mIfS (mTb (mBin eqD (mv 1) (mc (.str "less")))) (mSeq (mDrop (mCall m_need (mCons (mAndV (mCall m_is_number (mCons (mv 3) mNil)) (mCall m_is_number (mCons (mv 4) mNil))) (mCons (mc (.str "kind")) mNil))))
  (mRet (mCall intD (mCons (mBin ltD (mv 3) (mv 4)) mNil)))) mNx)
  (mSeq (mDrop (mCall m_need (mCons (mAndV (mBin ltD (mCall m_kind_of (mCons (mv 3) mNil)) (mc (.int (2)))) (mCall m_is_number (mCons (mv 4) mNil))) (mCons (mc (.str "kind")) mNil))))
  (mRet (mCall m_moved (mCons (mv 3) (mCons (mIf (mTb (mBin eqD (mv 1) (mc (.str "add")))) (mv 4) (mBin subD (mc (.int (0))) (mv 4))) mNil))))))))
def m_AtOnce_double : List D → AH → R D := mFun 3 5 b_AtOnce_double
/- AtOnce.worth: 0:self 1:word 2:row 3:found -/
def b_AtOnce_worth : MS :=
  (mSeq (mIfS (mTb (mBin eqD (mv 1) (mc (.str "put")))) (mRet (mBin ixD (mv 2) (mc (.int (2))))) mNx)
  (mSeq (mIfS (mTb (mBin eqD (mv 1) (mc (.str "room")))) (mRet (mMeth "AtOnce" "lent" m_AtOnce_lent (mv 0) mNil)) mNx)
  (mSeq (mIfS (mTb (mBin eqD (mv 1) (mc (.str "get")))) (mRet (mMeth "AtOnce" "taken_out" m_AtOnce_taken_out (mv 0) (mCons (mv 2) mNil))) mNx)
  (mSeq (mIfS (mTb (mBin eqD (mv 1) (mc (.str "gate")))) (mSeq (mDrop (mCall m_need (mCons (mBin ltD (mCall m_kind_of (mCons (mMeth "AtOnce" "box" m_AtOnce_box (mv 0) (mCons (mBin ixD (mv 2) (mc (.int (2)))) mNil)) mNil)) (mc (.int (2)))) (mCons (mc (.str "kind")) mNil))))
  (mRet (mTup (mCons (mc g_GATE) (mCons (mBin ixD (mv 2) (mc (.int (3)))) (mCons (mMeth "AtOnce" "box" m_AtOnce_box (mv 0) (mCons (mBin ixD (mv 2) (mc (.int (2)))) mNil)) mNil)))))) mNx)
  (mSeq (mIfS (mTb (mBin eqD (mv 1) (mc (.str "fewer")))) (mRet (mCall m_fewer (mCons (mMeth "AtOnce" "key" m_AtOnce_key (mv 0) (mCons (mBin ixD (mv 2) (mc (.int (2)))) mNil)) (mCons (mBin ixD (mv 2) (mc (.int (3)))) mNil)))) mNx)
  (mSeq (mIfS (mTb (mBin eqD (mv 1) (mc (.str "narrow")))) (mSeq (mAsg (mCall m_narrowed (mCons (mMeth "AtOnce" "key" m_AtOnce_key (mv 0) (mCons (mBin ixD (mv 2) (mc (.int (2)))) mNil)) (mCons (mMeth "AtOnce" "number" m_AtOnce_number (mv 0) (mCons (mBin ixD (mv 2) (mc (.int (3)))) mNil)) mNil))) (gmN 3))
  (mSeq (mDrop (mCall m_need (mCons (mBin isntD (mv 3) (mc .non)) (mCons (mc (.str "beyond")) mNil))))
  (mRet (mv 3)))) mNx)
  (mSeq (mIfS (mOr (mTb (mBin eqD (mv 1) (mc (.str "move")))) (mTb (mBin eqD (mv 1) (mc (.str "is"))))) (mRet (mIf (mTb (mBin eqD (mv 1) (mc (.str "move")))) (mMeth "AtOnce" "box" m_AtOnce_box (mv 0) (mCons (mBin ixD (mv 2) (mc (.int (2)))) mNil)) (mCall m_kind_of (mCons (mMeth "AtOnce" "box" m_AtOnce_box (mv 0) (mCons (mBin ixD (mv 2) (mc (.int (2)))) mNil)) mNil)))) mNx)
  (mRet (mMeth "AtOnce" "double" m_AtOnce_double (mv 0) (mCons (mv 1) (mCons (mv 2) mNil)))))))))))
def m_AtOnce_worth : List D → AH → R D := mFun 3 4 b_AtOnce_worth
/- AtOnce.done: 0:self 1:row 2:word -/
def b_AtOnce_done : MS :=
  (mSeq (mAsg (mBin ixD (mv 1) (mc (.int (0)))) (gmN 2))
  (mSeq (mIfS (mTb (mBin eqD (mv 2) (mc (.str "go")))) (mRet (mBin ixD (mv 1) (mc (.int (1))))) mNx)
  (mSeq (mIfS (mTb (mBin eqD (mv 2) (mc (.str "if")))) (mRet (mIf (mTb (mBin neD (mMeth "AtOnce" "box" m_AtOnce_box (mv 0) (mCons (mBin ixD (mv 1) (mc (.int (1)))) mNil)) (mc (.int (0))))) (mBin ixD (mv 1) (mc (.int (2)))) (mBin addD (mFld cs_here "here" (mv 0)) (mc (.int (1)))))) mNx)
  (mSeq (mIfS (mTb (mBin eqD (mv 2) (mc (.str "enter")))) (mRet (mMeth "AtOnce" "entered" m_AtOnce_entered (mv 0) (mCons (mBin ixD (mv 1) (mc (.int (1)))) mNil))) mNx)
  (mSeq (mIfS (mTb (mBin eqD (mv 2) (mc (.str "say")))) (mDrop (mMt "list" appD (mFld cs_talk "talk" (mv 0)) (mCons (mMeth "AtOnce" "number" m_AtOnce_number (mv 0) (mCons (mBin ixD (mv 1) (mc (.int (1)))) mNil)) mNil))) (mIfS (mTb (mBin eqD (mv 2) (mc (.str "set")))) (mDrop (mMeth "AtOnce" "put_in" m_AtOnce_put_in (mv 0) (mCons (mv 1) mNil))) (mIfS (mTb (mBin eqD (mv 2) (mc (.str "shut")))) (mDrop (mMeth "AtOnce" "shut" m_AtOnce_shut (mv 0) (mCons (mBin ixD (mv 1) (mc (.int (1)))) mNil))) (mSubS (mFld cs_held "held" (mv 0)) (mBin ixD (mv 1) (mc (.int (1)))) (mMeth "AtOnce" "worth" m_AtOnce_worth (mv 0) (mCons (mv 2) (mCons (mv 1) mNil)))))))
  (mRet (mBin addD (mFld cs_here "here" (mv 0)) (mc (.int (1))))))))))
def m_AtOnce_done : List D → AH → R D := mFun 2 3 b_AtOnce_done
/- AtOnce.step: 0:self 1:row 2:stop -/
def b_AtOnce_step : MS :=
  (mSeq (mAsg (mBin ixD (mFld cs_program "program" (mv 0)) (mFld cs_here "here" (mv 0))) (gmN 1))
  (mSeq (mFldS cs_steps "steps" (mv 0) (mBin addD (mFld cs_steps "steps" (mv 0)) (mc (.int (1)))))
  (mSeq (mIfS (mTb (mBin eqD (mBin ixD (mv 1) (mc (.int (0)))) (mc (.str "end")))) (mSeq (mFldS cs_end "end" (mv 0) (mc g_END))
  mRetN) mNx)
  (mSeq (mTryW "Stop" 2 (mFldS cs_here "here" (mv 0) (mMeth "AtOnce" "done" m_AtOnce_done (mv 0) (mCons (mv 1) mNil))) cs_end "end" "fault" "word" (mv 0) (mFld cs_here "here" (mv 0)))
  (mIfS (mTb (mBin eqD (mFld cs_here "here" (mv 0)) (mCall lenD (mCons (mFld cs_program "program" (mv 0)) mNil)))) (mFldS cs_end "end" (mv 0) (mc g_END)) mNx)))))
def m_AtOnce_step : List D → AH → R D := mFun 1 3 b_AtOnce_step
/- run: 0:program 1:rooms 2:cells 3:boxes 4:fuel 5:machine -/
def b_run : MS :=
  (mSeq (mDrop (mCall m_need_program (mCons (mv 0) mNil)))
  (mSeq (mDrop (mCall m_need_state (mCons (mCall lenD (mCons (mv 0) mNil)) (mCons (mv 1) (mCons (mv 2) (mCons (mv 3) mNil))))))
  (mSeq (mDrop (mCall m_need_fuel (mCons (mv 4) mNil)))
  (mSeq (mAsg (mMake "AtOnce" m_AtOnce___init__ (mCons (mv 0) (mCons (mv 1) (mCons (mv 2) (mCons (mv 3) mNil))))) (gmN 5))
  (mSeq (whG (mAnd (mTb (mBin isD (mFld cs_end "end" (mv 5)) (mc .non))) (mTb (mBin ltD (mFld cs_steps "steps" (mv 5)) (mv 4)))) (mDrop (mMeth "AtOnce" "step" m_AtOnce_step (mv 5) mNil)) fuelN)
  (mRet (mTup (mCons (mFld cs_talk "talk" (mv 5)) (mCons (mIf (mTb (mBin isD (mFld cs_end "end" (mv 5)) (mc .non))) (mc g_LONG) (mFld cs_end "end" (mv 5))) (mCons (mFld cs_steps "steps" (mv 5)) mNil))))))))))
def m_run : List D → AH → R D := mFun 5 6 b_run
/- _law_alike: 0:_law_found 1:_law_due 2:_law_k -/
def b__law_alike (g : List D → AH → R D) : MS :=
  (mSeq (mIfS (mOr (mTb (mUn (isiD "tuple") (mv 1))) (mTb (mUn (isiD "list") (mv 1)))) (mSeq (mIfS (mOr (mTb (mBin neD (mUn (isiD "tuple") (mv 0)) (mUn (isiD "tuple") (mv 1)))) (mNot (mTb (mUn (isiD2 "tuple" "list") (mv 0))))) (mRet (mc (.bl false))) mNx)
  (mSeq (mIfS (mTb (mBin neD (mCall lenD (mCons (mv 0) mNil)) (mCall lenD (mCons (mv 1) mNil)))) (mRet (mc (.bl false))) mNx)
  (mRet (mBin eqD (mLc (mRng1 (mCons (mCall lenD (mCons (mv 1) mNil)) mNil)) (gmN 2) (mNot (mTb (mCall g (mCons (mBin ixD (mv 0) (mv 2)) (mCons (mBin ixD (mv 1) (mv 2)) mNil))))) (mv 2) [2] finF) (mLst mNil))))) mNx)
  (mSeq (mIfS (mOr (mTb (mBin isD (mv 1) (mc .non))) (mTb (mBin isD (mv 0) (mc .non)))) (mRet (mAndV (mBin isD (mv 1) (mc .non)) (mBin isD (mv 0) (mc .non)))) mNx)
  (mSeq (mIfS (mOr (mTb (mUn (isiD "bool") (mv 1))) (mTb (mUn (isiD "bool") (mv 0)))) (mRet (mAndV (mUn (isiD "bool") (mv 1)) (mAndV (mUn (isiD "bool") (mv 0)) (mBin eqD (mv 0) (mv 1))))) mNx)
  (mSeq (mIfS (mTb (mUn (isiD "str") (mv 1))) (mRet (mAndV (mUn (isiD "str") (mv 0)) (mBin eqD (mv 0) (mv 1)))) mNx)
  (mRet (mAndV (mUn (isiD "int") (mv 0)) (mBin eqD (mv 0) (mv 1))))))))
def m__law_alike : Nat → List D → AH → R D
  | 0 => mBad
  | n + 1 => mFun 2 3 (b__law_alike (m__law_alike n))
/- Lazy.__init__: 0:self 1:program 2:rooms 3:cells 4:boxes 5:begin -/
def b_Lazy___init__ : MS :=
  (mSeq (mDrop (mCall m_Rows___init__ (mCons (mv 0) (mCons (mv 1) (mCons (mv 2) (mCons (mv 3) (mCons (mv 4) mNil)))))))
  (mSeq (mFldS cs_state "state" (mv 0) (mCall dictPN (mCons (mLc (mRng3 (mCons (mFld cs_first "first" (mv 0)) (mCons (mc g_CELLS) (mCons (mc g_ROOM) mNil)))) (gmN 5) mYes (mTup (mCons (mv 5) (mCons (mc (.str "free")) mNil))) [5] finF) mNil)))
  (mSeq (mFldS cs_hand "hand" (mv 0) (mc (.int (0))))
  (mFldS cs_order "order" (mv 0) (mLstN mNil)))))
def m_Lazy___init__ : List D → AH → R D := mFun 5 6 b_Lazy___init__
/- Machine.__init__: 0:self 1:program 2:rooms 3:cells 4:boxes -/
def b_Machine___init__ : MS :=
  (mSeq (mDrop (mCall m_need_program (mCons (mv 1) mNil)))
  (mSeq (mDrop (mCall m_need_state (mCons (mCall lenD (mCons (mv 1) mNil)) (mCons (mv 2) (mCons (mv 3) (mCons (mv 4) mNil))))))
  (mFldS cs_lazy "lazy" (mv 0) (mMake "Lazy" m_Lazy___init__ (mCons (mv 1) (mCons (mv 2) (mCons (mv 3) (mCons (mv 4) mNil))))))))
def m_Machine___init__ : List D → AH → R D := mFun 5 5 b_Machine___init__
/- Lazy.shut_ones: 0:self 1:begin -/
def b_Lazy_shut_ones : MS :=
  (mRet (mLc (miAny (mCall sortKD (mCons (mFld cs_state "state" (mv 0)) mNil))) (gmN 1) (mTb (mBin inD (mBin ixD (mFld cs_state "state" (mv 0)) (mv 1)) (mTup (mCons (mc (.str "shut")) (mCons (mc (.str "swept")) mNil))))) (mv 1) [1] finF))
def m_Lazy_shut_ones : List D → AH → R D := mFun 1 2 b_Lazy_shut_ones
/- Lazy.look: 0:self 1:word -/
def b_Lazy_look : MS :=
  (mRet (mCall m_without (mCons (mv 1) (mCons (mMeth "Lazy" "shut_ones" m_Lazy_shut_ones (mv 0) mNil) mNil))))
def m_Lazy_look : List D → AH → R D := mFun 2 2 b_Lazy_look
/- Lazy.box: 0:self 1:number -/
def b_Lazy_box : MS :=
  (mRet (mMeth "Lazy" "look" m_Lazy_look (mv 0) (mCons (mBin ixD (mFld cs_held "held" (mv 0)) (mv 1)) mNil)))
def m_Lazy_box : List D → AH → R D := mFun 2 2 b_Lazy_box
/- Lazy.entered: 0:self 1:number 2:gate 3:back -/
def b_Lazy_entered : MS :=
  (mSeq (mAsg (mMeth "Lazy" "box" m_Lazy_box (mv 0) (mCons (mv 1) mNil)) (gmN 2))
  (mSeq (mDrop (mCall m_need (mCons (mAndV (mBin eqD (mCall m_kind_of (mCons (mv 2) mNil)) (mc (.int (2)))) (mBin ltD (mCall m_kind_of (mCons (mMeth "Lazy" "box" m_Lazy_box (mv 0) (mCons (mBin subD (mc g_BOXES_words) (mc (.int (1)))) mNil)) mNil)) (mc (.int (2))))) (mCons (mc (.str "kind")) mNil))))
  (mSeq (mAsg (mTup (mCons (mc g_GATE) (mCons (mBin addD (mFld cs_here "here" (mv 0)) (mc (.int (1)))) (mCons (mMeth "Lazy" "box" m_Lazy_box (mv 0) (mCons (mBin subD (mc g_BOXES_words) (mc (.int (1)))) mNil)) mNil)))) (gmN 3))
  (mSeq (mSubS (mFld cs_held "held" (mv 0)) (mBin subD (mc g_BOXES_words) (mc (.int (1)))) (mBin ixD (mv 2) (mc (.int (2)))))
  (mSeq (mSubS (mFld cs_held "held" (mv 0)) (mBin subD (mc g_BOXES_words) (mc (.int (2)))) (mv 3))
  (mRet (mBin ixD (mv 2) (mc (.int (1))))))))))
def m_Lazy_entered : List D → AH → R D := mFun 2 4 b_Lazy_entered
/- Lazy.number: 0:self 1:number 2:word -/
def b_Lazy_number : MS :=
  (mSeq (mAsg (mMeth "Lazy" "box" m_Lazy_box (mv 0) (mCons (mv 1) mNil)) (gmN 2))
  (mSeq (mDrop (mCall m_need (mCons (mCall m_is_number (mCons (mv 2) mNil)) (mCons (mc (.str "kind")) mNil))))
  (mRet (mv 2))))
def m_Lazy_number : List D → AH → R D := mFun 2 3 b_Lazy_number
/- Lazy.key: 0:self 1:number 2:word -/
def b_Lazy_key : MS :=
  (mSeq (mAsg (mMeth "Lazy" "box" m_Lazy_box (mv 0) (mCons (mv 1) mNil)) (gmN 2))
  (mSeq (mDrop (mCall m_need (mCons (mBin eqD (mCall m_kind_of (mCons (mv 2) mNil)) (mc (.int (1)))) (mCons (mc (.str "kind")) mNil))))
  (mRet (mv 2))))
def m_Lazy_key : List D → AH → R D := mFun 2 3 b_Lazy_key
/- Lazy.cell_of: 0:self 1:key 2:far 3:right 4:cell -/
def b_Lazy_cell_of : MS :=
  (mSeq (mDrop (mCall m_need (mCons (mBin inD (mv 3) (mBin ixD (mv 1) (mc (.int (4))))) (mCons (mc (.str "right")) mNil))))
  (mSeq (mAsg (mBin addD (mBin ixD (mv 1) (mc (.int (3)))) (mv 2)) (gmN 4))
  (mSeq (mDrop (mCall m_need (mCons (mChain leD ltD (mBin ixD (mv 1) (mc (.int (1)))) (mv 4) (mBin ixD (mv 1) (mc (.int (2))))) (mCons (mc (.str "beyond")) mNil))))
  (mRet (mv 4)))))
def m_Lazy_cell_of : List D → AH → R D := mFun 4 5 b_Lazy_cell_of
/- Lazy.put_in: 0:self 1:row 2:key 3:word 4:cell -/
def b_Lazy_put_in : MS :=
  (mSeq (mAsg (mMeth "Lazy" "key" m_Lazy_key (mv 0) (mCons (mBin ixD (mv 1) (mc (.int (1)))) mNil)) (gmN 2))
  (mSeq (mAsg (mMeth "Lazy" "box" m_Lazy_box (mv 0) (mCons (mBin ixD (mv 1) (mc (.int (3)))) mNil)) (gmN 3))
  (mSeq (mAsg (mMeth "Lazy" "cell_of" m_Lazy_cell_of (mv 0) (mCons (mv 2) (mCons (mBin ixD (mv 1) (mc (.int (2)))) (mCons (mc (.str "s")) mNil)))) (gmN 4))
  (mSeq (mDrop (mCall m_need (mCons (mOrV (mCall m_is_number (mCons (mv 3) mNil)) (mBin inD (mc (.str "h")) (mBin ixD (mv 2) (mc (.int (4)))))) (mCons (mc (.str "right")) mNil))))
  (mSubS (mFld cs_store "store" (mv 0)) (mv 4) (mv 3))))))
def m_Lazy_put_in : List D → AH → R D := mFun 2 5 b_Lazy_put_in
/- Lazy.take_room: 0:self 1:begin 2:room -/
def b_Lazy_take_room : MS :=
  (mSeq (mIfS (mTb (mBin neD (mGet1 (mFld cs_state "state" (mv 0)) (mv 1)) (mc (.str "lent")))) (mRet (mc (.bl false))) mNx)
  (mSeq (mSubS (mFld cs_state "state" (mv 0)) (mv 1) (mc (.str "shut")))
  (mSeq (mFldS cs_order "order" (mv 0) (mLc (miAny (mFld cs_order "order" (mv 0))) (gmN 2) (mTb (mBin neD (mv 2) (mv 1))) (mv 2) [2] finN))
  (mRet (mc (.bl true))))))
def m_Lazy_take_room : List D → AH → R D := mFun 2 3 b_Lazy_take_room
/- Lazy.shut: 0:self 1:number 2:key -/
def b_Lazy_shut : MS :=
  (mSeq (mAsg (mMeth "Lazy" "key" m_Lazy_key (mv 0) (mCons (mv 1) mNil)) (gmN 2))
  (mSeq (mDrop (mCall m_need (mCons (mBin inD (mc (.str "l")) (mBin ixD (mv 2) (mc (.int (4))))) (mCons (mc (.str "right")) mNil))))
  (mDrop (mCall m_need (mCons (mAndV (mBin eqD (mBin subD (mBin ixD (mv 2) (mc (.int (2)))) (mBin ixD (mv 2) (mc (.int (1))))) (mc g_ROOM)) (mMeth "Lazy" "take_room" m_Lazy_take_room (mv 0) (mCons (mBin ixD (mv 2) (mc (.int (1)))) mNil))) (mCons (mc (.str "room")) mNil))))))
def m_Lazy_shut : List D → AH → R D := mFun 2 3 b_Lazy_shut
/- Lazy.free_rooms: 0:self 1:begin -/
def b_Lazy_free_rooms : MS :=
  (mRet (mLc (miAny (mCall sortKD (mCons (mFld cs_state "state" (mv 0)) mNil))) (gmN 1) (mTb (mBin eqD (mBin ixD (mFld cs_state "state" (mv 0)) (mv 1)) (mc (.str "free")))) (mv 1) [1] finF))
def m_Lazy_free_rooms : List D → AH → R D := mFun 1 2 b_Lazy_free_rooms
/- Lazy.begin_sweep: 0:self 1:begin -/
def b_Lazy_begin_sweep : MS :=
  (mFor (miAny (mCall listD (mCons (mFld cs_state "state" (mv 0)) mNil))) (gmN 1) (mIfS (mTb (mBin eqD (mBin ixD (mFld cs_state "state" (mv 0)) (mv 1)) (mc (.str "shut")))) (mSubS (mFld cs_state "state" (mv 0)) (mv 1) (mc (.str "swept"))) mNx))
def m_Lazy_begin_sweep : List D → AH → R D := mFun 1 2 b_Lazy_begin_sweep
/- Lazy.end_sweep: 0:self 1:begin -/
def b_Lazy_end_sweep : MS :=
  (mFor (miAny (mCall listD (mCons (mFld cs_state "state" (mv 0)) mNil))) (gmN 1) (mIfS (mTb (mBin eqD (mBin ixD (mFld cs_state "state" (mv 0)) (mv 1)) (mc (.str "swept")))) (mSubS (mFld cs_state "state" (mv 0)) (mv 1) (mc (.str "free"))) mNx))
def m_Lazy_end_sweep : List D → AH → R D := mFun 1 2 b_Lazy_end_sweep
/- Lazy.sweep: 0:self 1:many 2:turn -/
def b_Lazy_sweep : MS :=
  (mFor (mRng1 (mCons (mv 1) mNil)) (gmN 2) (mSeq (mIfS (mTb (mBin eqD (mFld cs_hand "hand" (mv 0)) (mc (.int (0))))) (mDrop (mMeth "Lazy" "begin_sweep" m_Lazy_begin_sweep (mv 0) mNil)) mNx)
  (mSeq (mIfS (mTb (mBin ltD (mFld cs_hand "hand" (mv 0)) (mc g_CELLS))) (mSubS (mFld cs_store "store" (mv 0)) (mFld cs_hand "hand" (mv 0)) (mMeth "Lazy" "look" m_Lazy_look (mv 0) (mCons (mBin ixD (mFld cs_store "store" (mv 0)) (mFld cs_hand "hand" (mv 0))) mNil))) (mSubS (mFld cs_held "held" (mv 0)) (mBin subD (mFld cs_hand "hand" (mv 0)) (mc g_CELLS)) (mMeth "Lazy" "look" m_Lazy_look (mv 0) (mCons (mBin ixD (mFld cs_held "held" (mv 0)) (mBin subD (mFld cs_hand "hand" (mv 0)) (mc g_CELLS))) mNil))))
  (mSeq (mFldS cs_hand "hand" (mv 0) (mBin modD (mBin addD (mFld cs_hand "hand" (mv 0)) (mc (.int (1)))) (mc g_ALL)))
  (mIfS (mTb (mBin eqD (mFld cs_hand "hand" (mv 0)) (mc (.int (0))))) (mDrop (mMeth "Lazy" "end_sweep" m_Lazy_end_sweep (mv 0) mNil)) mNx)))))
def m_Lazy_sweep : List D → AH → R D := mFun 2 3 b_Lazy_sweep
/- Lazy.give_room: 0:self 1:turn 2:begin -/
def b_Lazy_give_room : MS :=
  (mSeq (mFor (mRng1 (mCons (mc (.int (2))) mNil)) (gmN 1) (mIfS (mTb (mBin eqD (mMeth "Lazy" "free_rooms" m_Lazy_free_rooms (mv 0) mNil) (mLst mNil))) (mDrop (mMeth "Lazy" "sweep" m_Lazy_sweep (mv 0) (mCons (mBin subD (mc g_ALL) (mFld cs_hand "hand" (mv 0))) mNil))) mNx))
  (mSeq (mIfS (mTb (mBin eqD (mMeth "Lazy" "free_rooms" m_Lazy_free_rooms (mv 0) mNil) (mLst mNil))) (mRet (mc .non)) mNx)
  (mSeq (mAsg (mBin ixD (mMeth "Lazy" "free_rooms" m_Lazy_free_rooms (mv 0) mNil) (mc (.int (0)))) (gmN 2))
  (mSeq (mSubS (mFld cs_state "state" (mv 0)) (mv 2) (mc (.str "lent")))
  (mSeq (mDrop (mMt "list" appD (mFld cs_order "order" (mv 0)) (mCons (mv 2) mNil)))
  (mRet (mv 2)))))))
def m_Lazy_give_room : List D → AH → R D := mFun 1 3 b_Lazy_give_room
/- Lazy.lent: 0:self 1:begin 2:cell -/
def b_Lazy_lent : MS :=
  (mSeq (mAsg (mMeth "Lazy" "give_room" m_Lazy_give_room (mv 0) mNil) (gmN 1))
  (mSeq (mIfS (mTb (mBin isD (mv 1) (mc .non))) (mRet (mc (.int (0)))) mNx)
  (mSeq (mFor (mRng2 (mCons (mv 1) (mCons (mBin addD (mv 1) (mc g_ROOM)) mNil))) (gmN 2) (mSubS (mFld cs_store "store" (mv 0)) (mv 2) (mc (.int (0)))))
  (mRet (mTup (mCons (mc g_KEY) (mCons (mv 1) (mCons (mBin addD (mv 1) (mc g_ROOM)) (mCons (mv 1) (mCons (mc g_RIGHTS) mNil))))))))))
def m_Lazy_lent : List D → AH → R D := mFun 1 3 b_Lazy_lent
/- Lazy.taken_out: 0:self 1:row 2:key 3:word -/
def b_Lazy_taken_out : MS :=
  (mSeq (mAsg (mMeth "Lazy" "key" m_Lazy_key (mv 0) (mCons (mBin ixD (mv 1) (mc (.int (2)))) mNil)) (gmN 2))
  (mSeq (mAsg (mMeth "Lazy" "look" m_Lazy_look (mv 0) (mCons (mBin ixD (mFld cs_store "store" (mv 0)) (mMeth "Lazy" "cell_of" m_Lazy_cell_of (mv 0) (mCons (mv 2) (mCons (mBin ixD (mv 1) (mc (.int (3)))) (mCons (mc (.str "g")) mNil))))) mNil)) (gmN 3))
  (mRet (mIf (mOr (mTb (mCall m_is_number (mCons (mv 3) mNil))) (mTb (mBin inD (mc (.str "h")) (mBin ixD (mv 2) (mc (.int (4))))))) (mv 3) (mc (.int (0)))))))
def m_Lazy_taken_out : List D → AH → R D := mFun 2 4 b_Lazy_taken_out
/- Lazy.double: 0:self 1:word 2:row 3:one 4:other -/
def b_Lazy_double : MS :=
  (mSeq (mPar [3, 4] (mCons (mMeth "Lazy" "box" m_Lazy_box (mv 0) (mCons (mBin ixD (mv 2) (mc (.int (2)))) mNil)) (mCons (mMeth "Lazy" "box" m_Lazy_box (mv 0) (mCons (mBin ixD (mv 2) (mc (.int (3)))) mNil)) mNil)))
  (mSeq (mIfS (mTb (mBin eqD (mv 1) (mc (.str "same")))) (mRet (mCall intD (mCons (mBin eqD (mv 3) (mv 4)) mNil))) mNx)
  (mSeq (mIfS (mTb (mBin eqD (mv 1) (mc (.str "less")))) (mSeq (mDrop (mCall m_need (mCons (mAndV (mCall m_is_number (mCons (mv 3) mNil)) (mCall m_is_number (mCons (mv 4) mNil))) (mCons (mc (.str "kind")) mNil))))
  (mRet (mCall intD (mCons (mBin ltD (mv 3) (mv 4)) mNil)))) mNx)
  (mSeq (mDrop (mCall m_need (mCons (mAndV (mBin ltD (mCall m_kind_of (mCons (mv 3) mNil)) (mc (.int (2)))) (mCall m_is_number (mCons (mv 4) mNil))) (mCons (mc (.str "kind")) mNil))))
  (mRet (mCall m_moved (mCons (mv 3) (mCons (mIf (mTb (mBin eqD (mv 1) (mc (.str "add")))) (mv 4) (mBin subD (mc (.int (0))) (mv 4))) mNil))))))))
def m_Lazy_double : List D → AH → R D := mFun 3 5 b_Lazy_double
/- Lazy.worth: 0:self 1:word 2:row 3:found -/
def b_Lazy_worth : MS :=
  (mSeq (mIfS (mTb (mBin eqD (mv 1) (mc (.str "put")))) (mRet (mBin ixD (mv 2) (mc (.int (2))))) mNx)
  (mSeq (mIfS (mTb (mBin eqD (mv 1) (mc (.str "room")))) (mRet (mMeth "Lazy" "lent" m_Lazy_lent (mv 0) mNil)) mNx)
  (mSeq (mIfS (mTb (mBin eqD (mv 1) (mc (.str "get")))) (mRet (mMeth "Lazy" "taken_out" m_Lazy_taken_out (mv 0) (mCons (mv 2) mNil))) mNx)
  (mSeq (mIfS (mTb (mBin eqD (mv 1) (mc (.str "gate")))) (mSeq (mDrop (mCall m_need (mCons (mBin ltD (mCall m_kind_of (mCons (mMeth "Lazy" "box" m_Lazy_box (mv 0) (mCons (mBin ixD (mv 2) (mc (.int (2)))) mNil)) mNil)) (mc (.int (2)))) (mCons (mc (.str "kind")) mNil))))
  (mRet (mTup (mCons (mc g_GATE) (mCons (mBin ixD (mv 2) (mc (.int (3)))) (mCons (mMeth "Lazy" "box" m_Lazy_box (mv 0) (mCons (mBin ixD (mv 2) (mc (.int (2)))) mNil)) mNil)))))) mNx)
  (mSeq (mIfS (mTb (mBin eqD (mv 1) (mc (.str "fewer")))) (mRet (mCall m_fewer (mCons (mMeth "Lazy" "key" m_Lazy_key (mv 0) (mCons (mBin ixD (mv 2) (mc (.int (2)))) mNil)) (mCons (mBin ixD (mv 2) (mc (.int (3)))) mNil)))) mNx)
  (mSeq (mIfS (mTb (mBin eqD (mv 1) (mc (.str "narrow")))) (mSeq (mAsg (mCall m_narrowed (mCons (mMeth "Lazy" "key" m_Lazy_key (mv 0) (mCons (mBin ixD (mv 2) (mc (.int (2)))) mNil)) (mCons (mMeth "Lazy" "number" m_Lazy_number (mv 0) (mCons (mBin ixD (mv 2) (mc (.int (3)))) mNil)) mNil))) (gmN 3))
  (mSeq (mDrop (mCall m_need (mCons (mBin isntD (mv 3) (mc .non)) (mCons (mc (.str "beyond")) mNil))))
  (mRet (mv 3)))) mNx)
  (mSeq (mIfS (mOr (mTb (mBin eqD (mv 1) (mc (.str "move")))) (mTb (mBin eqD (mv 1) (mc (.str "is"))))) (mRet (mIf (mTb (mBin eqD (mv 1) (mc (.str "move")))) (mMeth "Lazy" "box" m_Lazy_box (mv 0) (mCons (mBin ixD (mv 2) (mc (.int (2)))) mNil)) (mCall m_kind_of (mCons (mMeth "Lazy" "box" m_Lazy_box (mv 0) (mCons (mBin ixD (mv 2) (mc (.int (2)))) mNil)) mNil)))) mNx)
  (mRet (mMeth "Lazy" "double" m_Lazy_double (mv 0) (mCons (mv 1) (mCons (mv 2) mNil)))))))))))
def m_Lazy_worth : List D → AH → R D := mFun 3 4 b_Lazy_worth
/- Lazy.done: 0:self 1:row 2:word -/
def b_Lazy_done : MS :=
  (mSeq (mAsg (mBin ixD (mv 1) (mc (.int (0)))) (gmN 2))
  (mSeq (mIfS (mTb (mBin eqD (mv 2) (mc (.str "go")))) (mRet (mBin ixD (mv 1) (mc (.int (1))))) mNx)
  (mSeq (mIfS (mTb (mBin eqD (mv 2) (mc (.str "if")))) (mRet (mIf (mTb (mBin neD (mMeth "Lazy" "box" m_Lazy_box (mv 0) (mCons (mBin ixD (mv 1) (mc (.int (1)))) mNil)) (mc (.int (0))))) (mBin ixD (mv 1) (mc (.int (2)))) (mBin addD (mFld cs_here "here" (mv 0)) (mc (.int (1)))))) mNx)
  (mSeq (mIfS (mTb (mBin eqD (mv 2) (mc (.str "enter")))) (mRet (mMeth "Lazy" "entered" m_Lazy_entered (mv 0) (mCons (mBin ixD (mv 1) (mc (.int (1)))) mNil))) mNx)
  (mSeq (mIfS (mTb (mBin eqD (mv 2) (mc (.str "say")))) (mDrop (mMt "list" appD (mFld cs_talk "talk" (mv 0)) (mCons (mMeth "Lazy" "number" m_Lazy_number (mv 0) (mCons (mBin ixD (mv 1) (mc (.int (1)))) mNil)) mNil))) (mIfS (mTb (mBin eqD (mv 2) (mc (.str "set")))) (mDrop (mMeth "Lazy" "put_in" m_Lazy_put_in (mv 0) (mCons (mv 1) mNil))) (mIfS (mTb (mBin eqD (mv 2) (mc (.str "shut")))) (mDrop (mMeth "Lazy" "shut" m_Lazy_shut (mv 0) (mCons (mBin ixD (mv 1) (mc (.int (1)))) mNil))) (mSubS (mFld cs_held "held" (mv 0)) (mBin ixD (mv 1) (mc (.int (1)))) (mMeth "Lazy" "worth" m_Lazy_worth (mv 0) (mCons (mv 2) (mCons (mv 1) mNil)))))))
  (mRet (mBin addD (mFld cs_here "here" (mv 0)) (mc (.int (1))))))))))
def m_Lazy_done : List D → AH → R D := mFun 2 3 b_Lazy_done
/- Lazy.step: 0:self 1:row 2:stop -/
def b_Lazy_step : MS :=
  (mSeq (mAsg (mBin ixD (mFld cs_program "program" (mv 0)) (mFld cs_here "here" (mv 0))) (gmN 1))
  (mSeq (mFldS cs_steps "steps" (mv 0) (mBin addD (mFld cs_steps "steps" (mv 0)) (mc (.int (1)))))
  (mSeq (mIfS (mTb (mBin eqD (mBin ixD (mv 1) (mc (.int (0)))) (mc (.str "end")))) (mSeq (mFldS cs_end "end" (mv 0) (mc g_END))
  mRetN) mNx)
  (mSeq (mTryW "Stop" 2 (mFldS cs_here "here" (mv 0) (mMeth "Lazy" "done" m_Lazy_done (mv 0) (mCons (mv 1) mNil))) cs_end "end" "fault" "word" (mv 0) (mFld cs_here "here" (mv 0)))
  (mIfS (mTb (mBin eqD (mFld cs_here "here" (mv 0)) (mCall lenD (mCons (mFld cs_program "program" (mv 0)) mNil)))) (mFldS cs_end "end" (mv 0) (mc g_END)) mNx)))))
def m_Lazy_step : List D → AH → R D := mFun 1 3 b_Lazy_step
/- Machine.step: 0:self 1:here -/
def b_Machine_step : MS :=
  (mSeq (mIfS (mTb (mBin isntD (mFld cs_end "end" (mFld cs_lazy "lazy" (mv 0))) (mc .non))) mNever mNx)
  (mSeq (mAsg (mFld cs_here "here" (mFld cs_lazy "lazy" (mv 0))) (gmN 1))
  (mSeq (mDrop (mMeth "Lazy" "step" m_Lazy_step (mFld cs_lazy "lazy" (mv 0)) mNil))
  (mRet (mv 1)))))
def m_Machine_step : List D → AH → R D := mFun 1 2 b_Machine_step
/- Machine.ended: 0:self -/
def b_Machine_ended : MS :=
  (mRet (mFld cs_end "end" (mFld cs_lazy "lazy" (mv 0))))
def m_Machine_ended : List D → AH → R D := mFun 1 1 b_Machine_ended
/- Machine.cells: 0:self 1:word -/
def b_Machine_cells : MS :=
  (mRet (mLc (miAny (mFld cs_store "store" (mFld cs_lazy "lazy" (mv 0)))) (gmN 1) mYes (mMeth "Lazy" "look" m_Lazy_look (mFld cs_lazy "lazy" (mv 0)) (mCons (mv 1) mNil)) [1] finF))
def m_Machine_cells : List D → AH → R D := mFun 1 2 b_Machine_cells
/- Machine.said: 0:self -/
def b_Machine_said : MS :=
  (mRet (mCall listD (mCons (mFld cs_talk "talk" (mFld cs_lazy "lazy" (mv 0))) mNil)))
def m_Machine_said : List D → AH → R D := mFun 1 1 b_Machine_said
/- law: 0:_law_script 1:_law_row 2:_law_turn 3:_law_program 4:_law_cells 5:_law_said 6:_law_end 7:_law_steps 8:_law_now 9:_law_rows 10:_law_origins 11:_law_boxes 12:_law_found 13:_law_told 14:_law_machine 15:_law_step 16:_law_cell 17:_law_k -/
def b_law : MS :=
  (mSeq (mAsg (mLstN (mCons (mv 0) (mCons (mc (.int (0))) (mCons (mc (.int (0))) (mCons (mc (.int (0))) mNil))))) (gmN 1))
  (mSeq (mFor (mRng1 (mCons (mc (.int (4))) mNil)) (gmN 2) (mSeq (mAsg (mCall m__law_plain (mCons (mv 1) (mCons (mBin ixD (mLst (mCons (mc (.int (8))) (mCons (mc (.int (30))) mNil))) (mCall m__law_taken (mCons (mv 1) (mCons (mc (.int (2))) mNil)))) mNil))) (gmN 3))
  (mSeq (mAsg (mLc (mRng1 (mCons (mc (.int (64))) mNil)) (gmN 16) mYes (mCall m__law_number (mCons (mv 1) mNil)) [16] finF) (gmN 4))
  (mSeq (mAsg (mCall m_run_places (mCons (mv 3) (mCons (mv 4) (mCons (mc (.int (150))) mNil)))) (gmTup 4 (gmCons (gmN 5) (gmCons (gmN 6) (gmCons (gmN 7) (gmCons (gmN 8) gmNil))))))
  (mSeq (mAsg (mCall m_keyed (mCons (mv 3) mNil)) (gmTup 2 (gmCons (gmN 9) (gmCons (gmN 10) gmNil))))
  (mSeq (mIfS (mOr (mTb (mBin neD (mCall lenD (mCons (mv 9) mNil)) (mCall lenD (mCons (mv 10) mNil)))) (mTb (mBin neD (mLc (miAny (mv 10)) (gmN 17) (mNot (mTb (mChain leD ltD (mc (.int (0))) (mv 17) (mCall lenD (mCons (mv 3) mNil))))) (mv 17) [17] finF) (mLst mNil)))) (mRet (mc (.bl false))) mNx)
  (mSeq (mAsg (mBin addD (mBin mulD (mLst (mCons (mc (.int (0))) mNil)) (mc (.int (7)))) (mLst (mCons (mTup (mCons (mc (.str "key")) (mCons (mc (.int (0))) (mCons (mc (.int (64))) (mCons (mc (.int (0))) (mCons (mc (.str "gs")) mNil)))))) mNil))) (gmN 11))
  (mIfS (mTb (mBin neD (mv 6) (mTup (mCons (mc (.str "long")) mNil)))) (mSeq (mAsg (mCall m_run (mCons (mv 9) (mCons (mc (.int (0))) (mCons (mv 4) (mCons (mv 11) (mCons (mc (.int (3000))) mNil)))))) (gmN 12))
  (mSeq (mAsg (mBin ixD (mv 12) (mc (.int (1)))) (gmN 13))
  (mSeq (mIfS (mTb (mBin eqD (mBin ixD (mv 13) (mc (.int (0)))) (mc (.str "fault")))) (mAsg (mBin addD (mSl (mv 13) mNoPart (mPart (mc (.int (2))))) (mTup (mCons (mBin ixD (mv 10) (mBin ixD (mv 13) (mc (.int (2))))) mNil))) (gmN 13)) mNx)
  (mSeq (mIfS (mNot (mTb (mCall (m__law_alike 4) (mCons (mTup (mCons (mBin ixD (mv 12) (mc (.int (0)))) (mCons (mv 13) mNil))) (mCons (mTup (mCons (mv 5) (mCons (mv 6) mNil))) mNil))))) (mRet (mc (.bl false))) mNx)
  (mSeq (mAsg (mMake "Machine" m_Machine___init__ (mCons (mv 9) (mCons (mc (.int (0))) (mCons (mv 4) (mCons (mv 11) mNil))))) (gmN 14))
  (mSeq (mFor (mRng1 (mCons (mBin ixD (mv 12) (mc (.int (2)))) mNil)) (gmN 15) (mDrop (mMeth "Machine" "step" m_Machine_step (mv 14) mNil)))
  (mIfS (mOr (mTb (mBin isD (mMeth "Machine" "ended" m_Machine_ended (mv 14) mNil) (mc .non))) (mNot (mTb (mCall (m__law_alike 4) (mCons (mLst (mCons (mMeth "Machine" "cells" m_Machine_cells (mv 14) mNil) (mCons (mMeth "Machine" "said" m_Machine_said (mv 14) mNil) mNil))) (mCons (mLst (mCons (mv 8) (mCons (mv 5) mNil))) mNil)))))) (mRet (mc (.bl false))) mNx))))))) (mSeq (mAsg (mCall m_run (mCons (mv 9) (mCons (mc (.int (0))) (mCons (mv 4) (mCons (mv 11) (mCons (mc (.int (3000))) mNil)))))) (gmN 12))
  (mIfS (mTb (mBin neD (mSl (mBin ixD (mv 12) (mc (.int (0)))) mNoPart (mPart (mCall lenD (mCons (mv 5) mNil)))) (mv 5))) (mRet (mc (.bl false))) mNx))))))))))
  (mRet (mc (.bl true)))))
def m_law : List D → AH → R D := mFun 1 18 b_law
end K16

set_option Elab.async false
set_option linter.all false
set_option maxRecDepth 100000
set_option maxHeartbeats 4000000
namespace K16
open PySem L2 Tg
def top (i : Nat) : Stmt := PySem.Challenge.pw_tagmachine_k16_whole_the_same_by_one_key.main.body.getD i (.Pass ⟨0, 0, 0, 0⟩)
abbrev s__law_taken : Stmt := top 68
abbrev n__law_taken : List Str := ["_law_row", "_law_many", "_law_found", "_law_cell"]
abbrev p__law_taken : List Str := ["_law_row", "_law_many"]
abbrev s__law_number : Stmt := top 70
abbrev n__law_number : List Str := ["_law_row", "_law_way"]
abbrev p__law_number : List Str := ["_law_row"]
abbrev s__law_plain_row : Stmt := top 71
abbrev n__law_plain_row : List Str := ["_law_row", "_law_at", "_law_rows", "_law_words", "_law_word", "_law_r", "_law_s", "_law_t", "_law_goal", "_law_some"]
abbrev p__law_plain_row : List Str := ["_law_row", "_law_at", "_law_rows"]
abbrev s__law_plain : Stmt := top 72
abbrev n__law_plain : List Str := ["_law_row", "_law_most", "_law_rows", "_law_found", "_law_at", "_law_one"]
abbrev p__law_plain : List Str := ["_law_row", "_law_most"]
abbrev s_are_rights : Stmt := top 19
abbrev n_are_rights : List Str := ["part", "sign"]
abbrev p_are_rights : List Str := ["part"]
abbrev s_is_number : Stmt := top 17
abbrev n_is_number : List Str := ["word"]
abbrev p_is_number : List Str := ["word"]
abbrev s_is_within : Stmt := top 18
abbrev n_is_within : List Str := ["number", "low", "high"]
abbrev p_is_within : List Str := ["number", "low", "high"]
abbrev s_is_part : Stmt := top 37
abbrev n_is_part : List Str := ["part", "sort", "rows", "bounds"]
abbrev p_is_part : List Str := ["part", "sort", "rows"]
abbrev s_is_row : Stmt := top 38
abbrev n_is_row : List Str := ["row", "rows", "form", "k"]
abbrev p_is_row : List Str := ["row", "rows"]
abbrev s_need_program : Stmt := top 39
abbrev n_need_program : List Str := ["program", "number"]
abbrev p_need_program : List Str := ["program"]
abbrev s_is_plain_marked : Stmt := top 53
abbrev n_is_plain_marked : List Str := ["row", "boxes", "box"]
abbrev p_is_plain_marked : List Str := ["row"]
abbrev s_need_plain : Stmt := top 55
abbrev n_need_plain : List Str := ["program", "number"]
abbrev p_need_plain : List Str := ["program"]
abbrev s_need_numbers : Stmt := top 56
abbrev n_need_numbers : List Str := ["cells", "place"]
abbrev p_need_numbers : List Str := ["cells"]
abbrev s_need_fuel : Stmt := top 40
abbrev n_need_fuel : List Str := ["fuel"]
abbrev p_need_fuel : List Str := ["fuel"]
abbrev s_Plain___init__ : Stmt := inClass (top 57) 0
abbrev n_Plain___init__ : List Str := ["self", "program", "cells"]
abbrev p_Plain___init__ : List Str := ["self", "program", "cells"]
abbrev s_ring : Stmt := top 16
abbrev n_ring : List Str := ["number"]
abbrev p_ring : List Str := ["number"]
abbrev s_Plain_double : Stmt := inClass (top 57) 3
abbrev n_Plain_double : List Str := ["self", "word", "one", "other"]
abbrev p_Plain_double : List Str := ["self", "word", "one", "other"]
abbrev s_Plain_deed : Stmt := inClass (top 57) 2
abbrev n_Plain_deed : List Str := ["self", "word", "row", "boxes"]
abbrev p_Plain_deed : List Str := ["self", "word", "row"]
abbrev s_Plain_step : Stmt := inClass (top 57) 1
abbrev n_Plain_step : List Str := ["self", "row", "word", "here"]
abbrev p_Plain_step : List Str := ["self"]
abbrev s_run_places : Stmt := top 58
abbrev n_run_places : List Str := ["program", "cells", "fuel", "plain"]
abbrev p_run_places : List Str := ["program", "cells", "fuel"]
abbrev s_keyed : Stmt := top 59
abbrev n_keyed : List Str := ["program", "begins", "origins", "number", "rows", "row"]
abbrev p_keyed : List Str := ["program"]
abbrev s_is_key : Stmt := top 20
abbrev n_is_key : List Str := ["word", "most", "begin", "end", "at", "rights"]
abbrev p_is_key : List Str := ["word", "most"]
abbrev s_is_plain_words : Stmt := top 21
abbrev n_is_plain_words : List Str := ["word", "most"]
abbrev p_is_plain_words : List Str := ["word", "most"]
abbrev s_is_word : Stmt := top 23
abbrev n_is_word : List Str := ["word", "most", "rows"]
abbrev p_is_word : List Str := ["word", "most", "rows"]
abbrev s_need_words : Stmt := top 24
abbrev n_need_words : List Str := ["words", "many", "most", "rows", "before", "place"]
abbrev p_need_words : List Str := ["words", "many", "most", "rows", "before"]
abbrev s_need_state : Stmt := top 25
abbrev n_need_state : List Str := ["rows", "rooms", "cells", "boxes", "most"]
abbrev p_need_state : List Str := ["rows", "rooms", "cells", "boxes"]
abbrev s_Rows___init__ : Stmt := inClass (top 46) 0
abbrev n_Rows___init__ : List Str := ["self", "program", "rooms", "cells", "boxes"]
abbrev p_Rows___init__ : List Str := ["self", "program", "rooms", "cells", "boxes"]
abbrev s_AtOnce___init__ : Stmt := inClass (top 65) 0
abbrev n_AtOnce___init__ : List Str := ["self", "program", "rooms", "cells", "boxes"]
abbrev p_AtOnce___init__ : List Str := ["self", "program", "rooms", "cells", "boxes"]
abbrev s_AtOnce_look : Stmt := inClass (top 46) 1
abbrev n_AtOnce_look : List Str := ["self", "word"]
abbrev p_AtOnce_look : List Str := ["self", "word"]
abbrev s_AtOnce_box : Stmt := inClass (top 46) 4
abbrev n_AtOnce_box : List Str := ["self", "number"]
abbrev p_AtOnce_box : List Str := ["self", "number"]
abbrev s_Stop___init__ : Stmt := inClass (top 44) 0
abbrev n_Stop___init__ : List Str := ["self", "word"]
abbrev p_Stop___init__ : List Str := ["self", "word"]
abbrev s_need : Stmt := top 45
abbrev n_need : List Str := ["is_good", "word"]
abbrev p_need : List Str := ["is_good", "word"]
abbrev s_kind_of : Stmt := top 26
abbrev n_kind_of : List Str := ["word"]
abbrev p_kind_of : List Str := ["word"]
abbrev s_AtOnce_entered : Stmt := inClass (top 46) 14
abbrev n_AtOnce_entered : List Str := ["self", "number", "gate", "back"]
abbrev p_AtOnce_entered : List Str := ["self", "number"]
abbrev s_AtOnce_number : Stmt := inClass (top 46) 5
abbrev n_AtOnce_number : List Str := ["self", "number", "word"]
abbrev p_AtOnce_number : List Str := ["self", "number"]
abbrev s_AtOnce_key : Stmt := inClass (top 46) 6
abbrev n_AtOnce_key : List Str := ["self", "number", "word"]
abbrev p_AtOnce_key : List Str := ["self", "number"]
abbrev s_AtOnce_cell_of : Stmt := inClass (top 46) 11
abbrev n_AtOnce_cell_of : List Str := ["self", "key", "far", "right", "cell"]
abbrev p_AtOnce_cell_of : List Str := ["self", "key", "far", "right"]
abbrev s_AtOnce_put_in : Stmt := inClass (top 46) 13
abbrev n_AtOnce_put_in : List Str := ["self", "row", "key", "word", "cell"]
abbrev p_AtOnce_put_in : List Str := ["self", "row"]
abbrev s_inner : Stmt := top 27
abbrev n_inner : List Str := ["word"]
abbrev p_inner : List Str := ["word"]
abbrev s_without : Stmt := top 28
abbrev n_without : List Str := ["word", "shut", "key", "begin"]
abbrev p_without : List Str := ["word", "shut"]
abbrev s_AtOnce_take_room : Stmt := inClass (top 65) 2
abbrev n_AtOnce_take_room : List Str := ["self", "begin", "room", "word"]
abbrev p_AtOnce_take_room : List Str := ["self", "begin"]
abbrev s_AtOnce_shut : Stmt := inClass (top 46) 16
abbrev n_AtOnce_shut : List Str := ["self", "number", "key"]
abbrev p_AtOnce_shut : List Str := ["self", "number"]
abbrev s_AtOnce_give_room : Stmt := inClass (top 65) 1
abbrev n_AtOnce_give_room : List Str := ["self", "begin"]
abbrev p_AtOnce_give_room : List Str := ["self"]
abbrev s_AtOnce_lent : Stmt := inClass (top 46) 15
abbrev n_AtOnce_lent : List Str := ["self", "begin", "cell"]
abbrev p_AtOnce_lent : List Str := ["self"]
abbrev s_AtOnce_taken_out : Stmt := inClass (top 46) 12
abbrev n_AtOnce_taken_out : List Str := ["self", "row", "key", "word"]
abbrev p_AtOnce_taken_out : List Str := ["self", "row"]
abbrev s_fewer : Stmt := top 31
abbrev n_fewer : List Str := ["key", "rights", "sign"]
abbrev p_fewer : List Str := ["key", "rights"]
abbrev s_narrowed : Stmt := top 30
abbrev n_narrowed : List Str := ["key", "many", "begin"]
abbrev p_narrowed : List Str := ["key", "many"]
abbrev s_moved : Stmt := top 29
abbrev n_moved : List Str := ["word", "number"]
abbrev p_moved : List Str := ["word", "number"]
abbrev s_AtOnce_double : Stmt := inClass (top 46) 10
abbrev n_AtOnce_double : List Str := ["self", "word", "row", "one", "other"]
abbrev p_AtOnce_double : List Str := ["self", "word", "row"]
abbrev s_AtOnce_worth : Stmt := inClass (top 46) 9
abbrev n_AtOnce_worth : List Str := ["self", "word", "row", "found"]
abbrev p_AtOnce_worth : List Str := ["self", "word", "row"]
abbrev s_AtOnce_done : Stmt := inClass (top 46) 8
abbrev n_AtOnce_done : List Str := ["self", "row", "word"]
abbrev p_AtOnce_done : List Str := ["self", "row"]
abbrev s_AtOnce_step : Stmt := inClass (top 46) 7
abbrev n_AtOnce_step : List Str := ["self", "row", "stop"]
abbrev p_AtOnce_step : List Str := ["self"]
abbrev s_run : Stmt := top 66
abbrev n_run : List Str := ["program", "rooms", "cells", "boxes", "fuel", "machine"]
abbrev p_run : List Str := ["program", "rooms", "cells", "boxes", "fuel"]
abbrev s__law_alike : Stmt := top 69
abbrev n__law_alike : List Str := ["_law_found", "_law_due", "_law_k"]
abbrev p__law_alike : List Str := ["_law_found", "_law_due"]
abbrev s_Lazy___init__ : Stmt := inClass (top 62) 0
abbrev n_Lazy___init__ : List Str := ["self", "program", "rooms", "cells", "boxes", "begin"]
abbrev p_Lazy___init__ : List Str := ["self", "program", "rooms", "cells", "boxes"]
abbrev s_Machine___init__ : Stmt := inClass (top 63) 0
abbrev n_Machine___init__ : List Str := ["self", "program", "rooms", "cells", "boxes"]
abbrev p_Machine___init__ : List Str := ["self", "program", "rooms", "cells", "boxes"]
abbrev s_Lazy_shut_ones : Stmt := inClass (top 62) 1
abbrev n_Lazy_shut_ones : List Str := ["self", "begin"]
abbrev p_Lazy_shut_ones : List Str := ["self"]
abbrev s_Lazy_look : Stmt := inClass (top 62) 2
abbrev n_Lazy_look : List Str := ["self", "word"]
abbrev p_Lazy_look : List Str := ["self", "word"]
abbrev s_Lazy_box : Stmt := inClass (top 46) 4
abbrev n_Lazy_box : List Str := ["self", "number"]
abbrev p_Lazy_box : List Str := ["self", "number"]
abbrev s_Lazy_entered : Stmt := inClass (top 46) 14
abbrev n_Lazy_entered : List Str := ["self", "number", "gate", "back"]
abbrev p_Lazy_entered : List Str := ["self", "number"]
abbrev s_Lazy_number : Stmt := inClass (top 46) 5
abbrev n_Lazy_number : List Str := ["self", "number", "word"]
abbrev p_Lazy_number : List Str := ["self", "number"]
abbrev s_Lazy_key : Stmt := inClass (top 46) 6
abbrev n_Lazy_key : List Str := ["self", "number", "word"]
abbrev p_Lazy_key : List Str := ["self", "number"]
abbrev s_Lazy_cell_of : Stmt := inClass (top 46) 11
abbrev n_Lazy_cell_of : List Str := ["self", "key", "far", "right", "cell"]
abbrev p_Lazy_cell_of : List Str := ["self", "key", "far", "right"]
abbrev s_Lazy_put_in : Stmt := inClass (top 46) 13
abbrev n_Lazy_put_in : List Str := ["self", "row", "key", "word", "cell"]
abbrev p_Lazy_put_in : List Str := ["self", "row"]
abbrev s_Lazy_take_room : Stmt := inClass (top 62) 5
abbrev n_Lazy_take_room : List Str := ["self", "begin", "room"]
abbrev p_Lazy_take_room : List Str := ["self", "begin"]
abbrev s_Lazy_shut : Stmt := inClass (top 46) 16
abbrev n_Lazy_shut : List Str := ["self", "number", "key"]
abbrev p_Lazy_shut : List Str := ["self", "number"]
abbrev s_Lazy_free_rooms : Stmt := inClass (top 62) 3
abbrev n_Lazy_free_rooms : List Str := ["self", "begin"]
abbrev p_Lazy_free_rooms : List Str := ["self"]
abbrev s_Lazy_begin_sweep : Stmt := inClass (top 62) 7
abbrev n_Lazy_begin_sweep : List Str := ["self", "begin"]
abbrev p_Lazy_begin_sweep : List Str := ["self"]
abbrev s_Lazy_end_sweep : Stmt := inClass (top 62) 8
abbrev n_Lazy_end_sweep : List Str := ["self", "begin"]
abbrev p_Lazy_end_sweep : List Str := ["self"]
abbrev s_Lazy_sweep : Stmt := inClass (top 62) 6
abbrev n_Lazy_sweep : List Str := ["self", "many", "turn"]
abbrev p_Lazy_sweep : List Str := ["self", "many"]
abbrev s_Lazy_give_room : Stmt := inClass (top 62) 4
abbrev n_Lazy_give_room : List Str := ["self", "turn", "begin"]
abbrev p_Lazy_give_room : List Str := ["self"]
abbrev s_Lazy_lent : Stmt := inClass (top 46) 15
abbrev n_Lazy_lent : List Str := ["self", "begin", "cell"]
abbrev p_Lazy_lent : List Str := ["self"]
abbrev s_Lazy_taken_out : Stmt := inClass (top 46) 12
abbrev n_Lazy_taken_out : List Str := ["self", "row", "key", "word"]
abbrev p_Lazy_taken_out : List Str := ["self", "row"]
abbrev s_Lazy_double : Stmt := inClass (top 46) 10
abbrev n_Lazy_double : List Str := ["self", "word", "row", "one", "other"]
abbrev p_Lazy_double : List Str := ["self", "word", "row"]
abbrev s_Lazy_worth : Stmt := inClass (top 46) 9
abbrev n_Lazy_worth : List Str := ["self", "word", "row", "found"]
abbrev p_Lazy_worth : List Str := ["self", "word", "row"]
abbrev s_Lazy_done : Stmt := inClass (top 46) 8
abbrev n_Lazy_done : List Str := ["self", "row", "word"]
abbrev p_Lazy_done : List Str := ["self", "row"]
abbrev s_Lazy_step : Stmt := inClass (top 46) 7
abbrev n_Lazy_step : List Str := ["self", "row", "stop"]
abbrev p_Lazy_step : List Str := ["self"]
abbrev s_Machine_step : Stmt := inClass (top 63) 1
abbrev n_Machine_step : List Str := ["self", "here"]
abbrev p_Machine_step : List Str := ["self"]
abbrev s_Machine_ended : Stmt := inClass (top 63) 4
abbrev n_Machine_ended : List Str := ["self"]
abbrev p_Machine_ended : List Str := ["self"]
abbrev s_Machine_cells : Stmt := inClass (top 63) 5
abbrev n_Machine_cells : List Str := ["self", "word"]
abbrev p_Machine_cells : List Str := ["self"]
abbrev s_Machine_said : Stmt := inClass (top 63) 3
abbrev n_Machine_said : List Str := ["self"]
abbrev p_Machine_said : List Str := ["self"]
abbrev s_law : Stmt := top 73
abbrev n_law : List Str := ["_law_script", "_law_row", "_law_turn", "_law_program", "_law_cells", "_law_said", "_law_end", "_law_steps", "_law_now", "_law_rows", "_law_origins", "_law_boxes", "_law_found", "_law_told", "_law_machine", "_law_step", "_law_cell", "_law_k"]
abbrev p_law : List Str := ["_law_script"]
structure Txt (K : PySem.W.Frag) (w : World) (mg : Str → Option Value) : Prop where
  t__law_taken : TF K mg "_law_taken" "_law_taken" s__law_taken p__law_taken
  t__law_number : TF K mg "_law_number" "_law_number" s__law_number p__law_number
  t__law_plain_row : TF K mg "_law_plain_row" "_law_plain_row" s__law_plain_row p__law_plain_row
  t__law_plain : TF K mg "_law_plain" "_law_plain" s__law_plain p__law_plain
  t_are_rights : TF K mg "are_rights" "are_rights" s_are_rights p_are_rights
  t_is_number : TF K mg "is_number" "is_number" s_is_number p_is_number
  t_is_within : TF K mg "is_within" "is_within" s_is_within p_is_within
  t_is_part : TF K mg "is_part" "is_part" s_is_part p_is_part
  t_is_row : TF K mg "is_row" "is_row" s_is_row p_is_row
  t_need_program : TF K mg "need_program" "need_program" s_need_program p_need_program
  t_is_plain_marked : TFA K mg "is_plain_marked" "is_plain" "is_plain" s_is_plain_marked p_is_plain_marked
  t_need_plain : TF K mg "need_plain" "need_plain" s_need_plain p_need_plain
  t_need_numbers : TF K mg "need_numbers" "need_numbers" s_need_numbers p_need_numbers
  t_need_fuel : TF K mg "need_fuel" "need_fuel" s_need_fuel p_need_fuel
  t_Plain___init__ : TI K mg "Plain" "Plain.__init__" s_Plain___init__ p_Plain___init__
  t_ring : TF K mg "ring" "ring" s_ring p_ring
  t_Plain_double : TM K mg "Plain" "double" "Plain.double" s_Plain_double p_Plain_double
  t_Plain_deed : TM K mg "Plain" "deed" "Plain.deed" s_Plain_deed p_Plain_deed
  t_Plain_step : TM K mg "Plain" "step" "Plain.step" s_Plain_step p_Plain_step
  t_run_places : TF K mg "run_places" "run_places" s_run_places p_run_places
  t_keyed : TF K mg "keyed" "keyed" s_keyed p_keyed
  t_is_key : TF K mg "is_key" "is_key" s_is_key p_is_key
  t_is_plain_words : TFA K mg "is_plain_words" "is_plain" "is_plain" s_is_plain_words p_is_plain_words
  t_is_word : TF K mg "is_word" "is_word" s_is_word p_is_word
  t_need_words : TF K mg "need_words" "need_words" s_need_words p_need_words
  t_need_state : TF K mg "need_state" "need_state" s_need_state p_need_state
  t_Rows___init__ : TC K mg "Rows" "__init__" "Rows.__init__" s_Rows___init__ p_Rows___init__
  t_AtOnce___init__ : TI K mg "AtOnce" "AtOnce.__init__" s_AtOnce___init__ p_AtOnce___init__
  t_AtOnce_look : TM K mg "AtOnce" "look" "Rows.look" s_AtOnce_look p_AtOnce_look
  t_AtOnce_box : TM K mg "AtOnce" "box" "Rows.box" s_AtOnce_box p_AtOnce_box
  t_Stop___init__ : TX K mg "Stop" "Exception" "word" "Stop.__init__" s_Stop___init__ p_Stop___init__
  t_need : TF K mg "need" "need" s_need p_need
  t_kind_of : TF K mg "kind_of" "kind_of" s_kind_of p_kind_of
  t_AtOnce_entered : TM K mg "AtOnce" "entered" "Rows.entered" s_AtOnce_entered p_AtOnce_entered
  t_AtOnce_number : TM K mg "AtOnce" "number" "Rows.number" s_AtOnce_number p_AtOnce_number
  t_AtOnce_key : TM K mg "AtOnce" "key" "Rows.key" s_AtOnce_key p_AtOnce_key
  t_AtOnce_cell_of : TM K mg "AtOnce" "cell_of" "Rows.cell_of" s_AtOnce_cell_of p_AtOnce_cell_of
  t_AtOnce_put_in : TM K mg "AtOnce" "put_in" "Rows.put_in" s_AtOnce_put_in p_AtOnce_put_in
  t_inner : TF K mg "inner" "inner" s_inner p_inner
  t_without : TF K mg "without" "without" s_without p_without
  t_AtOnce_take_room : TM K mg "AtOnce" "take_room" "AtOnce.take_room" s_AtOnce_take_room p_AtOnce_take_room
  t_AtOnce_shut : TM K mg "AtOnce" "shut" "Rows.shut" s_AtOnce_shut p_AtOnce_shut
  t_AtOnce_give_room : TM K mg "AtOnce" "give_room" "AtOnce.give_room" s_AtOnce_give_room p_AtOnce_give_room
  t_AtOnce_lent : TM K mg "AtOnce" "lent" "Rows.lent" s_AtOnce_lent p_AtOnce_lent
  t_AtOnce_taken_out : TM K mg "AtOnce" "taken_out" "Rows.taken_out" s_AtOnce_taken_out p_AtOnce_taken_out
  t_fewer : TF K mg "fewer" "fewer" s_fewer p_fewer
  t_narrowed : TF K mg "narrowed" "narrowed" s_narrowed p_narrowed
  t_moved : TF K mg "moved" "moved" s_moved p_moved
  t_AtOnce_double : TM K mg "AtOnce" "double" "Rows.double" s_AtOnce_double p_AtOnce_double
  t_AtOnce_worth : TM K mg "AtOnce" "worth" "Rows.worth" s_AtOnce_worth p_AtOnce_worth
  t_AtOnce_done : TM K mg "AtOnce" "done" "Rows.done" s_AtOnce_done p_AtOnce_done
  t_AtOnce_step : TM K mg "AtOnce" "step" "Rows.step" s_AtOnce_step p_AtOnce_step
  t_run : TF K mg "run" "run" s_run p_run
  t__law_alike : TF K mg "_law_alike" "_law_alike" s__law_alike p__law_alike
  t_Lazy___init__ : TI K mg "Lazy" "Lazy.__init__" s_Lazy___init__ p_Lazy___init__
  t_Machine___init__ : TI K mg "Machine" "Machine.__init__" s_Machine___init__ p_Machine___init__
  t_Lazy_shut_ones : TM K mg "Lazy" "shut_ones" "Lazy.shut_ones" s_Lazy_shut_ones p_Lazy_shut_ones
  t_Lazy_look : TM K mg "Lazy" "look" "Lazy.look" s_Lazy_look p_Lazy_look
  t_Lazy_box : TM K mg "Lazy" "box" "Rows.box" s_Lazy_box p_Lazy_box
  t_Lazy_entered : TM K mg "Lazy" "entered" "Rows.entered" s_Lazy_entered p_Lazy_entered
  t_Lazy_number : TM K mg "Lazy" "number" "Rows.number" s_Lazy_number p_Lazy_number
  t_Lazy_key : TM K mg "Lazy" "key" "Rows.key" s_Lazy_key p_Lazy_key
  t_Lazy_cell_of : TM K mg "Lazy" "cell_of" "Rows.cell_of" s_Lazy_cell_of p_Lazy_cell_of
  t_Lazy_put_in : TM K mg "Lazy" "put_in" "Rows.put_in" s_Lazy_put_in p_Lazy_put_in
  t_Lazy_take_room : TM K mg "Lazy" "take_room" "Lazy.take_room" s_Lazy_take_room p_Lazy_take_room
  t_Lazy_shut : TM K mg "Lazy" "shut" "Rows.shut" s_Lazy_shut p_Lazy_shut
  t_Lazy_free_rooms : TM K mg "Lazy" "free_rooms" "Lazy.free_rooms" s_Lazy_free_rooms p_Lazy_free_rooms
  t_Lazy_begin_sweep : TM K mg "Lazy" "begin_sweep" "Lazy.begin_sweep" s_Lazy_begin_sweep p_Lazy_begin_sweep
  t_Lazy_end_sweep : TM K mg "Lazy" "end_sweep" "Lazy.end_sweep" s_Lazy_end_sweep p_Lazy_end_sweep
  t_Lazy_sweep : TM K mg "Lazy" "sweep" "Lazy.sweep" s_Lazy_sweep p_Lazy_sweep
  t_Lazy_give_room : TM K mg "Lazy" "give_room" "Lazy.give_room" s_Lazy_give_room p_Lazy_give_room
  t_Lazy_lent : TM K mg "Lazy" "lent" "Rows.lent" s_Lazy_lent p_Lazy_lent
  t_Lazy_taken_out : TM K mg "Lazy" "taken_out" "Rows.taken_out" s_Lazy_taken_out p_Lazy_taken_out
  t_Lazy_double : TM K mg "Lazy" "double" "Rows.double" s_Lazy_double p_Lazy_double
  t_Lazy_worth : TM K mg "Lazy" "worth" "Rows.worth" s_Lazy_worth p_Lazy_worth
  t_Lazy_done : TM K mg "Lazy" "done" "Rows.done" s_Lazy_done p_Lazy_done
  t_Lazy_step : TM K mg "Lazy" "step" "Rows.step" s_Lazy_step p_Lazy_step
  t_Machine_step : TM K mg "Machine" "step" "Machine.step" s_Machine_step p_Machine_step
  t_Machine_ended : TM K mg "Machine" "ended" "Machine.ended" s_Machine_ended p_Machine_ended
  t_Machine_cells : TM K mg "Machine" "cells" "Machine.cells" s_Machine_cells p_Machine_cells
  t_Machine_said : TM K mg "Machine" "said" "Machine.said" s_Machine_said p_Machine_said
  t_law : TL K mg "law" s_law "_law_script"
  g_ALL : GDat K mg "ALL" g_ALL
  g_BOXES_marked : GDat K mg "BOXES_marked" g_BOXES_marked
  g_BOXES_words : GDat K mg "BOXES_words" g_BOXES_words
  g_CELLS : GDat K mg "CELLS" g_CELLS
  g_END : GDat K mg "END" g_END
  g_FORMS : GTab K w mg "FORMS" tb_FORMS
  g_GATE : GDat K mg "GATE" g_GATE
  g_HALF : GDat K mg "HALF" g_HALF
  g_KEY : GDat K mg "KEY" g_KEY
  g_LONG : GDat K mg "LONG" g_LONG
  g_MOST_FUEL : GDat K mg "MOST_FUEL" g_MOST_FUEL
  g_MOST_PLAIN : GDat K mg "MOST_PLAIN" g_MOST_PLAIN
  g_MOST_ROOMS : GDat K mg "MOST_ROOMS" g_MOST_ROOMS
  g_MOST_ROWS : GDat K mg "MOST_ROWS" g_MOST_ROWS
  g_OFFSET : GDat K mg "OFFSET" g_OFFSET
  g_PLACE : GDat K mg "PLACE" g_PLACE
  g_RIGHTS : GDat K mg "RIGHTS" g_RIGHTS
  g_ROOM : GDat K mg "ROOM" g_ROOM
  g_WHOLE : GDat K mg "WHOLE" g_WHOLE
  g_WORDS : GDat K mg "WORDS" g_WORDS
  k_Stop_word : XCat K mg "Stop" "word"
  f_end : Fds K mg cs_end "end"
  f_first : Fds K mg cs_first "first"
  f_hand : Fds K mg cs_hand "hand"
  f_held : Fds K mg cs_held "held"
  f_here : Fds K mg cs_here "here"
  f_lazy : Fds K mg cs_lazy "lazy"
  f_lent_ones : Fds K mg cs_lent_ones "lent_ones"
  f_order : Fds K mg cs_order "order"
  f_program : Fds K mg cs_program "program"
  f_state : Fds K mg cs_state "state"
  f_steps : Fds K mg cs_steps "steps"
  f_store : Fds K mg cs_store "store"
  f_talk : Fds K mg cs_talk "talk"
  z_bool : mg "bool" = none
  z_dict : mg "dict" = none
  z_int : mg "int" = none
  z_isinstance : mg "isinstance" = none
  z_len : mg "len" = none
  z_list : mg "list" = none
  z_max : mg "max" = none
  z_range : mg "range" = none
  z_sorted : mg "sorted" = none
  z_str : mg "str" = none
  z_tuple : mg "tuple" = none
section
variable {P : Program} {w : World} {K : PySem.W.Frag} {mg : Str → Option Value} {base : Heap}
theorem sc__law_taken : FnScope n__law_taken p__law_taken (defScope s__law_taken) := ⟨rfl, rfl, rfl, by decide +kernel, rfl, by decide +kernel, by decide +kernel⟩
theorem d__law_taken (T : Txt K w mg) : Dfn P w K mg base "_law_taken" 1 m__law_taken := dfn_of T.t__law_taken sc__law_taken fun f cd A outer s H E hr => ⟨_, by
  unfold b__law_taken
  exact
  (sscons
  (sifS (tcmp op_gt oGtS (six hr (sv 0) sint) sint (nomark _)) (sscons
  (sset 2 (sc__law_taken).nd (sop op_mod oModS (six hr (sv 0) sint) (sv 1)))
  (sscons
  (ssub hr (sv 0) sint (sop op_fdiv oFdivS (six hr (sv 0) sint) (sv 1)))
  (ssone
  (sret (sv 2))))) ssnil)
  (sscons
  (ssub hr (sv 0) sint (sop oAdd oAddS (six hr (sv 0) sint) sint))
  (sscons
  (sifS (tcmp op_gt oGtS (six hr (sv 0) sint) (sbuilt oLen oLenS T.z_len (acons (six hr (sv 0) sint) anil)) (nomark _)) (sscons
  (ssub hr (sv 0) sint (sop op_mod oModS (sop oAdd oAddS (sop oMul oMulS (six hr (sv 0) sint) sint) sint) sint))
  (ssone
  (sret (sop op_mod oModS (sop op_fdiv oFdivS (six hr (sv 0) sint) sint) (sv 1))))) ssnil)
  (sscons
  (sset 3 (sc__law_taken).nd (six hr (six hr (sv 0) sint) (sop op_sub oSubS (six hr (sv 0) sint) sint)))
  (sscons
  (ssub hr (sv 0) sint (sop op_mod oModS (sop oAdd oAddS (sop oAdd oAddS (sop oMul oMulS (six hr (sv 0) sint) sint) (sv 3)) sint) sint))
  (sscons
  (sifS (tcmp op_ge oGeS (sv 3) (sop op_pow oPowS sint sint) (nomark _)) (ssone
  (ssub hr (sv 0) sint (sop op_fdiv oFdivS (sv 3) (sv 1)))) ssnil)
  (ssone
  (sret (sop op_mod oModS (sv 3) (sv 1))))))))))⟩
theorem sc__law_number : FnScope n__law_number p__law_number (defScope s__law_number) := ⟨rfl, rfl, rfl, by decide +kernel, rfl, by decide +kernel, by decide +kernel⟩
theorem d__law_number (T : Txt K w mg) : Dfn P w K mg base "_law_number" 2 m__law_number := dfn_of T.t__law_number sc__law_number fun f cd A outer s H E hr => ⟨_, by
  unfold b__law_number
  exact
  (sscons
  (sset 1 (sc__law_number).nd (scall (d__law_taken T) hr (by decide) tkF (acons (sv 0) (acons sint anil))))
  (sscons
  (sifS (tcmp op_lt oLtS (sv 1) sint (nomark _)) (ssone
  (sret (six hr (slst (acons (scall (d__law_taken T) hr (by decide) tkF (acons (sv 0) (acons sint anil))) (acons (scall (d__law_taken T) hr (by decide) tkF (acons (sv 0) (acons sint anil))) (acons (sop op_sub oSubS (scall (d__law_taken T) hr (by decide) tkF (acons (sv 0) (acons sint anil))) sint) (acons sint anil))))) (sv 1)))) ssnil)
  (ssone
  (sret (six hr (slst (acons (sop op_sub oSubS (scall (d__law_taken T) hr (by decide) tkF (acons (sv 0) (acons sint anil))) sint) (acons (six hr (slst (acons sint (acons (sop op_sub oSubS sint sint) anil))) (scall (d__law_taken T) hr (by decide) tkF (acons (sv 0) (acons sint anil)))) anil))) (sop op_sub oSubS (sv 1) sint))))))⟩
theorem sc__law_plain_row : FnScope n__law_plain_row p__law_plain_row (defScope s__law_plain_row) := ⟨rfl, rfl, rfl, by decide +kernel, rfl, by decide +kernel, by decide +kernel⟩
theorem d__law_plain_row (T : Txt K w mg) : Dfn P w K mg base "_law_plain_row" 3 m__law_plain_row := dfn_of T.t__law_plain_row sc__law_plain_row fun f cd A outer s H E hr => ⟨_, by
  unfold b__law_plain_row
  exact
  (sscons
  (sset 3 (sc__law_plain_row).nd (slst (acons sstr (acons sstr (acons sstr (acons sstr (acons sstr (acons sstr (acons sstr (acons sstr (acons sstr (acons sstr (acons sstr (acons sstr (acons sstr (acons sstr (acons sstr anil)))))))))))))))))
  (sscons
  (sset 4 (sc__law_plain_row).nd (six hr (sop oAdd oAddS (sv 3) (slst (acons sstr (acons sstr anil)))) (scall (d__law_taken T) hr (by decide) tkF (acons (sv 0) (acons sint anil)))))
  (sscons
  (sparT (i := 5) (j := 6) (l := 7) rfl (sc__law_plain_row).nd (acons (scall (d__law_taken T) hr (by decide) tkF (acons (sv 0) (acons sint anil))) (acons (scall (d__law_taken T) hr (by decide) tkF (acons (sv 0) (acons sint anil))) (acons (scall (d__law_taken T) hr (by decide) tkF (acons (sv 0) (acons sint anil))) anil))))
  (sscons
  (sset 8 (sc__law_plain_row).nd (scall (d__law_taken T) hr (by decide) tkF (acons (sv 0) (acons (sv 2) anil))))
  (sscons
  (sifS (tcmp (oIn hr) oInS (sv 4) (stup (acons sstr (acons sstr (acons sstr (acons sstr anil))))) (by with_unfolding_all rfl)) (ssone
  (sret (stup (acons (sv 4) (acons (sv 5) (acons (sv 6) (acons (sv 7) anil))))))) ssnil)
  (sscons
  (sset 9 (sc__law_plain_row).nd (sdctN (spcons sstr (stup (acons (sv 5) (acons (six hr (slst (acons (scall (d__law_taken T) hr (by decide) tkF (acons (sv 0) (acons sint anil))) (acons (scall (d__law_number T) hr (by decide) tkF (acons (sv 0) anil)) anil))) (scall (d__law_taken T) hr (by decide) tkF (acons (sv 0) (acons sint anil)))) anil))) (spcons sstr (stup (acons (sv 5) (acons (sv 6) anil))) (spcons sstr (stup (acons (sv 5) (acons (sv 6) (acons sint anil)))) spnil)))))
  (sscons
  (sexpr (smt PySem.F.plainAttrs_dict PySem.F.slot_dict_update PySem.F.type_dict_update (mt_upd rfl) oUpdS (sv 9) (acons (slst (acons (stup (acons sstr (acons (stup (acons (sv 5) (acons sint (acons (sv 6) anil)))) anil))) (acons (stup (acons sstr (acons (stup (acons (sv 5) anil)) anil))) (acons (stup (acons sstr (acons (stup (acons (sv 8) anil)) anil))) (acons (stup (acons sstr (acons (stup (acons (sv 5) (acons (sv 8) anil))) anil))) (acons (stup (acons sstr (acons (stup anil) anil))) anil)))))) anil)))
  (ssone
  (sret (sop oAdd oAddS (stup (acons (sv 4) anil)) (six hr (sv 9) (sv 4))))))))))))⟩
theorem sc__law_plain : FnScope n__law_plain p__law_plain (defScope s__law_plain) := ⟨rfl, rfl, rfl, by decide +kernel, rfl, by decide +kernel, by decide +kernel⟩
theorem d__law_plain (T : Txt K w mg) : Dfn P w K mg base "_law_plain" 4 m__law_plain := dfn_of T.t__law_plain sc__law_plain fun f cd A outer s H E hr => ⟨_, by
  unfold b__law_plain
  exact
  (sscons
  (sset 2 (sc__law_plain).nd (sop oAdd oAddS sint (scall (d__law_taken T) hr (by decide) tkF (acons (sv 0) (acons (sv 1) anil)))))
  (sscons
  (by (refine' ssetLc 3 (own := [("_law_at", 4)]) fin_f rfl (sc__law_plain).nd ?hi0 ?ok0 ?hg0 ?ht0 ?he0 ?hw0); (case hi0 => exact (irng1 T.z_range (acons (sv 2) anil))); (case ok0 => exact blkOk_by (own := [("_law_at", 4)]) (N := n__law_plain) (sc := (defScope s__law_plain)) (by decide +kernel)); (case hg0 => exact fun _ _ _ _ _ => sg_fix (gname (i := 4) (sc__law_plain).nd) (by first | exact rfl | (dsimp only [Cx.blk] <;> exact rfl))); (case ht0 => exact fun _ _ _ _ _ => sts_fix stsnil (by first | exact rfl | (dsimp only [Cx.blk] <;> exact rfl))); (case he0 => exact fun _ _ _ _ _ => se_fix (scall (d__law_plain_row T) (by exact hr) (by decide) takes0 (acons (sv 0) (acons (sv 4) (acons (sv 2) anil)))) (by first | exact rfl | (dsimp only [Cx.blk] <;> exact rfl))); (case hw0 => decide))
  (ssone
  (sret (styp call_tuple_of oTupS T.z_tuple (acons (by (refine' slc (own := [("_law_one", 5)]) fin_f rfl (sc__law_plain).nd ?hi0 ?ok0 ?hg0 ?ht0 ?he0 ?hw0); (case hi0 => exact (iany (sv 3))); (case ok0 => exact blkOk_by (own := [("_law_one", 5)]) (N := n__law_plain) (sc := (defScope s__law_plain)) (by decide +kernel)); (case hg0 => exact fun _ _ _ _ _ => sg_fix (gname (i := 5) (sc__law_plain).nd) (by first | exact rfl | (dsimp only [Cx.blk] <;> exact rfl))); (case ht0 => exact fun _ _ _ _ _ => sts_fix stsnil (by first | exact rfl | (dsimp only [Cx.blk] <;> exact rfl))); (case he0 => exact fun _ _ _ _ _ => se_fix (sif (twd (wand (tcmp (oEq (by exact hr)) oEqS (sv 5) (stup (acons sstr anil)) (nomark _)) (wand1 (tcmp op_gt oGtS (scall (d__law_taken T) (by exact hr) (by decide) takes0 (acons (sv 0) (acons sint anil))) sint (nomark _))))) (stup (acons sstr (acons sint anil))) (sv 5)) (by first | exact rfl | (dsimp only [Cx.blk] <;> exact rfl))); (case hw0 => decide)) anil))))))⟩
theorem sc_are_rights : FnScope n_are_rights p_are_rights (defScope s_are_rights) := ⟨rfl, rfl, rfl, by decide +kernel, rfl, by decide +kernel, by decide +kernel⟩
theorem d_are_rights (T : Txt K w mg) : Dfn P w K mg base "are_rights" 1 m_are_rights := dfn_of T.t_are_rights sc_are_rights fun f cd A outer s H E hr => ⟨_, by
  unfold b_are_rights
  exact
  (ssone
  (sret (sand (sisi (T := "str") (by decide) T.z_isinstance T.z_str (sv 0)) (sone (scmp (oEq hr) oEqS (sv 0) (smt PySem.F.plainAttrs_str PySem.F.slot_str_join PySem.F.type_str_join mt_join oJoinS sstr (acons (by (refine' slc (own := [("sign", 1)]) fin_f rfl (sc_are_rights).nd ?hi0 ?ok0 ?hg0 ?ht0 ?he0 ?hw0); (case hi0 => exact (iany (sglob T.g_RIGHTS))); (case ok0 => exact blkOk_by (own := [("sign", 1)]) (N := n_are_rights) (sc := (defScope s_are_rights)) (by decide +kernel)); (case hg0 => exact fun _ _ _ _ _ => sg_fix (gname (i := 1) (sc_are_rights).nd) (by first | exact rfl | (dsimp only [Cx.blk] <;> exact rfl))); (case ht0 => exact fun _ _ _ _ _ => sts_fix (stsone (tcmp (oIn (by exact hr)) oInS (sv 1) (sv 0) (by with_unfolding_all rfl))) (by first | exact rfl | (dsimp only [Cx.blk] <;> exact rfl))); (case he0 => exact fun _ _ _ _ _ => se_fix (sv 1) (by first | exact rfl | (dsimp only [Cx.blk] <;> exact rfl))); (case hw0 => decide)) anil)) (nomark _))))))⟩
theorem sc_is_number : FnScope n_is_number p_is_number (defScope s_is_number) := ⟨rfl, rfl, rfl, by decide +kernel, rfl, by decide +kernel, by decide +kernel⟩
theorem d_is_number (T : Txt K w mg) : Dfn P w K mg base "is_number" 1 m_is_number := dfn_of T.t_is_number sc_is_number fun f cd A outer s H E hr => ⟨_, by
  unfold b_is_number
  exact
  (ssone
  (sret (sand (sisi (T := "int") (by decide) T.z_isinstance T.z_int (sv 0)) (sone (snot (sisi (T := "bool") (by decide) T.z_isinstance T.z_bool (sv 0)))))))⟩
theorem sc_is_within : FnScope n_is_within p_is_within (defScope s_is_within) := ⟨rfl, rfl, rfl, by decide +kernel, rfl, by decide +kernel, by decide +kernel⟩
theorem d_is_within (T : Txt K w mg) : Dfn P w K mg base "is_within" 2 m_is_within := dfn_of T.t_is_within sc_is_within fun f cd A outer s H E hr => ⟨_, by
  unfold b_is_within
  exact
  (ssone
  (sret (sand (scall (d_is_number T) hr (by decide) tkF (acons (sv 0) anil)) (sone (schain op_le op_lt oLeS oLtS (sv 1) (sv 0) (sv 2))))))⟩
theorem sc_is_part : FnScope n_is_part p_is_part (defScope s_is_part) := ⟨rfl, rfl, rfl, by decide +kernel, rfl, by decide +kernel, by decide +kernel⟩
theorem d_is_part (T : Txt K w mg) : Dfn P w K mg base "is_part" 3 m_is_part := dfn_of T.t_is_part sc_is_part fun f cd A outer s H E hr => ⟨_, by
  unfold b_is_part
  exact
  (sscons
  (sifS (tcmp (oEq hr) oEqS (sv 1) sstr (nomark _)) (ssone
  (sret (scall (d_are_rights T) hr (by decide) tkF (acons (sv 0) anil)))) ssnil)
  (sscons
  (sset 3 (sc_is_part).nd (sdct (spcons sstr (stup (acons sint (acons (sglob T.g_BOXES_words) anil))) (spcons sstr (stup (acons (sop op_sub oSubS sint (sglob T.g_HALF)) (acons (sglob T.g_HALF) anil))) (spcons sstr (stup (acons (sop op_sub oSubS sint (sglob T.g_OFFSET)) (acons (sglob T.g_OFFSET) anil))) (spcons sstr (stup (acons sint (acons (sop oAdd oAddS (sv 2) sint) anil))) (spcons sstr (stup (acons sint (acons (sv 2) anil))) spnil)))))))
  (ssone
  (sret (scall (d_is_within T) hr (by decide) tkF (acons (sv 0) (acons (six hr (six hr (sv 3) (sv 1)) sint) (acons (six hr (six hr (sv 3) (sv 1)) sint) anil))))))))⟩
theorem sc_is_row : FnScope n_is_row p_is_row (defScope s_is_row) := ⟨rfl, rfl, rfl, by decide +kernel, rfl, by decide +kernel, by decide +kernel⟩
theorem d_is_row (T : Txt K w mg) : Dfn P w K mg base "is_row" 4 m_is_row := dfn_of T.t_is_row sc_is_row fun f cd A outer s H E hr => ⟨_, by
  unfold b_is_row
  exact
  (sscons
  (sifS (twd (wor (tnot (tval (sisi (T := "tuple") (by decide) T.z_isinstance T.z_tuple (sv 0)))) (wor (tcmp (oEq hr) oEqS (sv 0) (stup anil) (nomark _)) (wor (tnot (tval (sisi (T := "str") (by decide) T.z_isinstance T.z_str (six hr (sv 0) sint)))) (wor1 (tknin T.g_FORMS (six hr (sv 0) sint))))))) (ssone
  (sret sbl)) ssnil)
  (sscons
  (sset 2 (sc_is_row).nd (skix T.g_FORMS (six hr (sv 0) sint)))
  (sscons
  (sifS (tcmp (oNe hr) oNeS (sbuilt oLen oLenS T.z_len (acons (sv 0) anil)) (sop oAdd oAddS (sbuilt oLen oLenS T.z_len (acons (sv 2) anil)) sint) (nomark _)) (ssone
  (sret sbl)) ssnil)
  (ssone
  (sret (scmp (oEq hr) oEqS (by (refine' slc (own := [("k", 3)]) fin_f rfl (sc_is_row).nd ?hi0 ?ok0 ?hg0 ?ht0 ?he0 ?hw0); (case hi0 => exact (irng1 T.z_range (acons (sbuilt oLen oLenS T.z_len (acons (sv 2) anil)) anil))); (case ok0 => exact blkOk_by (own := [("k", 3)]) (N := n_is_row) (sc := (defScope s_is_row)) (by decide +kernel)); (case hg0 => exact fun _ _ _ _ _ => sg_fix (gname (i := 3) (sc_is_row).nd) (by first | exact rfl | (dsimp only [Cx.blk] <;> exact rfl))); (case ht0 => exact fun _ _ _ _ _ => sts_fix (stsone (tnot (tval (scall (d_is_part T) (by exact hr) (by decide) takes0 (acons (six (by exact hr) (sv 0) (sop oAdd oAddS (sv 3) sint)) (acons (six (by exact hr) (sv 2) (sv 3)) (acons (sv 1) anil))))))) (by first | exact rfl | (dsimp only [Cx.blk] <;> exact rfl))); (case he0 => exact fun _ _ _ _ _ => se_fix (sv 3) (by first | exact rfl | (dsimp only [Cx.blk] <;> exact rfl))); (case hw0 => decide)) (slst anil) (nomark _)))))))⟩
theorem sc_need_program : FnScope n_need_program p_need_program (defScope s_need_program) := ⟨rfl, rfl, rfl, by decide +kernel, rfl, by decide +kernel, by decide +kernel⟩
theorem d_need_program (T : Txt K w mg) : Dfn P w K mg base "need_program" 5 m_need_program := dfn_of T.t_need_program sc_need_program fun f cd A outer s H E hr => ⟨_, by
  unfold b_need_program
  exact
  (sscons
  (sifS (twd (wor (tnot (tval (sisi (T := "tuple") (by decide) T.z_isinstance T.z_tuple (sv 0)))) (wor1 (tcmp (oEq hr) oEqS (sv 0) (stup anil) (nomark _))))) (ssone
  snever) ssnil)
  (ssone
  (sfor psF rfl (irng1 T.z_range (acons (sbuilt oLen oLenS T.z_len (acons (sv 0) anil)) anil)) (gname (i := 1) (sc_need_program).nd) (ssone
  (sifS (twd (wor (tcmp op_ge oGeS (sv 1) (sglob T.g_MOST_ROWS) (nomark _)) (wor1 (tnot (tval (scall (d_is_row T) hr (by decide) tkF (acons (six hr (sv 0) (sv 1)) (acons (sbuilt oLen oLenS T.z_len (acons (sv 0) anil)) anil)))))))) (ssone
  snever) ssnil)))))⟩
theorem sc_is_plain_marked : FnScope n_is_plain_marked p_is_plain_marked (defScope s_is_plain_marked) := ⟨rfl, rfl, rfl, by decide +kernel, rfl, by decide +kernel, by decide +kernel⟩
theorem d_is_plain_marked (T : Txt K w mg) : Dfn P w K mg base "is_plain_marked" 1 m_is_plain_marked := dfn_ofA T.t_is_plain_marked sc_is_plain_marked fun f cd A outer s H E hr => ⟨_, by
  unfold b_is_plain_marked
  exact
  (sscons
  (sifS (tcmp (oNIn hr) oNInS (six hr (sv 0) sint) (sglob T.g_WORDS) (by with_unfolding_all rfl)) (ssone
  (sret sbl)) ssnil)
  (sscons
  (sifS (tcmp (oEq hr) oEqS (six hr (sv 0) sint) sstr (nomark _)) (ssone
  (sret (sand (scmp (oEq hr) oEqS (six hr (sv 0) sint) sint (nomark _)) (sone (scmp op_lt oLtS (sbuilt (oMax rfl) oMaxS T.z_max (acons (ssl (sv 0) (osome sint) (osome sint)) anil)) (sglob T.g_BOXES_marked) (nomark _)))))) ssnil)
  (sscons
  (sifS (tcmp (oEq hr) oEqS (six hr (sv 0) sint) sstr (nomark _)) (ssone
  (sret (sand (scmp (oEq hr) oEqS (six hr (sv 0) sint) sint (nomark _)) (sone (scmp op_lt oLtS (sbuilt (oMax rfl) oMaxS T.z_max (acons (six hr (sv 0) sint) (acons (six hr (sv 0) sint) anil))) (sglob T.g_BOXES_marked) (nomark _)))))) ssnil)
  (sscons
  (sset 1 (sc_is_plain_marked).nd (sget2 hr (sdct (spcons sstr (ssl (sv 0) (osome sint) (osome sint)) (spcons sstr (stup anil) (spcons sstr (stup anil) (spcons sstr (ssl (sv 0) (osome sint) (osome sint)) spnil))))) (six hr (sv 0) sint) (ssl (sv 0) (osome sint) onone)))
  (ssone
  (sret (scmp (oEq hr) oEqS (by (refine' slc (own := [("box", 2)]) fin_f rfl (sc_is_plain_marked).nd ?hi0 ?ok0 ?hg0 ?ht0 ?he0 ?hw0); (case hi0 => exact (iany (sv 1))); (case ok0 => exact blkOk_by (own := [("box", 2)]) (N := n_is_plain_marked) (sc := (defScope s_is_plain_marked)) (by decide +kernel)); (case hg0 => exact fun _ _ _ _ _ => sg_fix (gname (i := 2) (sc_is_plain_marked).nd) (by first | exact rfl | (dsimp only [Cx.blk] <;> exact rfl))); (case ht0 => exact fun _ _ _ _ _ => sts_fix (stsone (tcmp op_ge oGeS (sv 2) (sglob T.g_BOXES_marked) (nomark _))) (by first | exact rfl | (dsimp only [Cx.blk] <;> exact rfl))); (case he0 => exact fun _ _ _ _ _ => se_fix (sv 2) (by first | exact rfl | (dsimp only [Cx.blk] <;> exact rfl))); (case hw0 => decide)) (slst anil) (nomark _))))))))⟩
theorem sc_need_plain : FnScope n_need_plain p_need_plain (defScope s_need_plain) := ⟨rfl, rfl, rfl, by decide +kernel, rfl, by decide +kernel, by decide +kernel⟩
theorem d_need_plain (T : Txt K w mg) : Dfn P w K mg base "need_plain" 6 m_need_plain := dfn_of T.t_need_plain sc_need_plain fun f cd A outer s H E hr => ⟨_, by
  unfold b_need_plain
  exact
  (sscons
  (sexpr (scall (d_need_program T) hr (by decide) tkF (acons (sv 0) anil)))
  (ssone
  (sfor psF rfl (irng1 T.z_range (acons (sbuilt oLen oLenS T.z_len (acons (sv 0) anil)) anil)) (gname (i := 1) (sc_need_plain).nd) (ssone
  (sifS (twd (wor (tcmp op_ge oGeS (sv 1) (sglob T.g_MOST_PLAIN) (nomark _)) (wor1 (tnot (tval (scall (d_is_plain_marked T) hr (by decide) tkF (acons (six hr (sv 0) (sv 1)) anil))))))) (ssone
  snever) ssnil)))))⟩
theorem sc_need_numbers : FnScope n_need_numbers p_need_numbers (defScope s_need_numbers) := ⟨rfl, rfl, rfl, by decide +kernel, rfl, by decide +kernel, by decide +kernel⟩
theorem d_need_numbers (T : Txt K w mg) : Dfn P w K mg base "need_numbers" 3 m_need_numbers := dfn_of T.t_need_numbers sc_need_numbers fun f cd A outer s H E hr => ⟨_, by
  unfold b_need_numbers
  exact
  (ssone
  (sfor psF rfl (irng1 T.z_range (acons (sbuilt (oMax rfl) oMaxS T.z_max (acons (sglob T.g_CELLS) (acons (sbuilt oLen oLenS T.z_len (acons (sv 0) anil)) anil))) anil)) (gname (i := 1) (sc_need_numbers).nd) (ssone
  (sifS (twd (wor (tcmp op_ge oGeS (sv 1) (sbuilt oLen oLenS T.z_len (acons (sv 0) anil)) (nomark _)) (wor (tcmp op_ge oGeS (sv 1) (sglob T.g_CELLS) (nomark _)) (wor1 (tnot (tval (scall (d_is_within T) hr (by decide) tkF (acons (six hr (sv 0) (sv 1)) (acons (sop op_sub oSubS sint (sglob T.g_HALF)) (acons (sglob T.g_HALF) anil)))))))))) (ssone
  snever) ssnil))))⟩
theorem sc_need_fuel : FnScope n_need_fuel p_need_fuel (defScope s_need_fuel) := ⟨rfl, rfl, rfl, by decide +kernel, rfl, by decide +kernel, by decide +kernel⟩
theorem d_need_fuel (T : Txt K w mg) : Dfn P w K mg base "need_fuel" 3 m_need_fuel := dfn_of T.t_need_fuel sc_need_fuel fun f cd A outer s H E hr => ⟨_, by
  unfold b_need_fuel
  exact
  (ssone
  (sifS (tnot (tval (scall (d_is_within T) hr (by decide) tkF (acons (sv 0) (acons sint (acons (sop oAdd oAddS (sglob T.g_MOST_FUEL) sint) anil)))))) (ssone
  snever) ssnil))⟩
theorem sc_Plain___init__ : FnScope n_Plain___init__ p_Plain___init__ (defScope s_Plain___init__) := ⟨rfl, rfl, rfl, by decide +kernel, rfl, by decide +kernel, by decide +kernel⟩
theorem d_Plain___init__ (T : Txt K w mg) : Mkr P w K mg base "Plain" 1 m_Plain___init__ := mkr_of T.t_Plain___init__ sc_Plain___init__ fun f cd A outer s H E hr => ⟨_, by
  unfold b_Plain___init__
  exact
  (sscons
  (sfldS T.f_program (sv 0) (sv 1))
  (sscons
  (sfldS T.f_store (sv 0) (styp (oList rfl) oListNS T.z_list (acons (sv 2) anil)))
  (sscons
  (sfldS T.f_held (sv 0) (sop oMul oMulNS (slst (acons sint anil)) (sglob T.g_BOXES_marked)))
  (sscons
  (sfldS T.f_here (sv 0) sint)
  (sscons
  (sfldS T.f_talk (sv 0) (slstN anil))
  (sscons
  (sfldS T.f_steps (sv 0) sint)
  (ssone
  (sfldS T.f_end (sv 0) snon))))))))⟩
theorem sc_ring : FnScope n_ring p_ring (defScope s_ring) := ⟨rfl, rfl, rfl, by decide +kernel, rfl, by decide +kernel, by decide +kernel⟩
theorem d_ring (T : Txt K w mg) : Dfn P w K mg base "ring" 1 m_ring := dfn_of T.t_ring sc_ring fun f cd A outer s H E hr => ⟨_, by
  unfold b_ring
  exact
  (ssone
  (sret (sop op_sub oSubS (sop op_mod oModS (sop oAdd oAddS (sv 0) (sglob T.g_HALF)) (sop oMul oMulS sint (sglob T.g_HALF))) (sglob T.g_HALF))))⟩
theorem sc_Plain_double : FnScope n_Plain_double p_Plain_double (defScope s_Plain_double) := ⟨rfl, rfl, rfl, by decide +kernel, rfl, by decide +kernel, by decide +kernel⟩
theorem d_Plain_double (T : Txt K w mg) : Mtd P w K mg base "Plain" "double" 2 m_Plain_double := mtd_of T.t_Plain_double sc_Plain_double fun f cd A outer s H E hr => ⟨_, by
  unfold b_Plain_double
  exact
  (sscons
  (sifS (tcmp (oIn hr) oInS (sv 1) (stup (acons sstr (acons sstr anil))) (by with_unfolding_all rfl)) (ssone
  (sret (styp oInt oIntS T.z_int (acons (sif (tcmp (oEq hr) oEqS (sv 1) sstr (nomark _)) (scmp op_lt oLtS (sv 2) (sv 3) (nomark _)) (scmp (oEq hr) oEqS (sv 2) (sv 3) (nomark _))) anil)))) ssnil)
  (ssone
  (sret (scall (d_ring T) hr (by decide) tkF (acons (sif (tcmp (oEq hr) oEqS (sv 1) sstr (nomark _)) (sop oAdd oAddS (sv 2) (sv 3)) (sop op_sub oSubS (sv 2) (sv 3))) anil)))))⟩
theorem sc_Plain_deed : FnScope n_Plain_deed p_Plain_deed (defScope s_Plain_deed) := ⟨rfl, rfl, rfl, by decide +kernel, rfl, by decide +kernel, by decide +kernel⟩
theorem d_Plain_deed (T : Txt K w mg) : Mtd P w K mg base "Plain" "deed" 3 m_Plain_deed := mtd_of T.t_Plain_deed sc_Plain_deed fun f cd A outer s H E hr => ⟨_, by
  unfold b_Plain_deed
  exact
  (sscons
  (sset 3 (sc_Plain_deed).nd (sfld T.f_held (sv 0)))
  (ssone
  (sifS (tcmp (oEq hr) oEqS (sv 1) sstr (nomark _)) (ssone
  (sexpr (smt PySem.F.plainAttrs_list PySem.F.slot_list_append PySem.F.type_list_append mt_append oAppS (sfld T.f_talk (sv 0)) (acons (six hr (sv 3) (six hr (sv 2) sint)) anil)))) (ssone
  (sifS (tcmp (oEq hr) oEqS (sv 1) sstr (nomark _)) (ssone
  (ssub hr (sfld T.f_store (sv 0)) (six hr (sv 3) (six hr (sv 2) sint)) (six hr (sv 3) (six hr (sv 2) sint)))) (ssone
  (sifS (tcmp (oEq hr) oEqS (sv 1) sstr (nomark _)) (ssone
  (ssub hr (sv 3) (six hr (sv 2) sint) (six hr (sfld T.f_store (sv 0)) (six hr (sv 3) (six hr (sv 2) sint))))) (ssone
  (sifS (tcmp (oEq hr) oEqS (sv 1) sstr (nomark _)) (ssone
  (ssub hr (sv 3) (six hr (sv 2) sint) (six hr (sv 2) sint))) (ssone
  (sifS (tcmp (oEq hr) oEqS (sv 1) sstr (nomark _)) (ssone
  (ssub hr (sv 3) (six hr (sv 2) sint) (six hr (sv 3) (six hr (sv 2) sint)))) (ssone
  (sifS (tcmp (oNe hr) oNeS (sv 1) sstr (nomark _)) (ssone
  (ssub hr (sv 3) (six hr (sv 2) sint) (smeth (d_Plain_double T) hr (by decide) tkF (sv 0) (acons (sv 1) (acons (six hr (sv 3) (six hr (sv 2) sint)) (acons (six hr (sv 3) (six hr (sv 2) sint)) anil)))))) ssnil)))))))))))))⟩
theorem sc_Plain_step : FnScope n_Plain_step p_Plain_step (defScope s_Plain_step) := ⟨rfl, rfl, rfl, by decide +kernel, rfl, by decide +kernel, by decide +kernel⟩
theorem d_Plain_step (T : Txt K w mg) : Mtd P w K mg base "Plain" "step" 4 m_Plain_step := mtd_of T.t_Plain_step sc_Plain_step fun f cd A outer s H E hr => ⟨_, by
  unfold b_Plain_step
  exact
  (sscons
  (sset 1 (sc_Plain_step).nd (six hr (sfld T.f_program (sv 0)) (sfld T.f_here (sv 0))))
  (sscons
  (sset 2 (sc_Plain_step).nd (six hr (sv 1) sint))
  (sscons
  (sfldS T.f_steps (sv 0) (sop oAdd oAddS (sfld T.f_steps (sv 0)) sint))
  (sscons
  (sset 3 (sc_Plain_step).nd (sfld T.f_here (sv 0)))
  (sscons
  (sfldS T.f_here (sv 0) (sop oAdd oAddS (sv 3) sint))
  (sscons
  (sifS (tcmp (oEq hr) oEqS (sv 2) sstr (nomark _)) (sscons
  (sfldS T.f_end (sv 0) (sglob T.g_END))
  (ssone
  sretN)) ssnil)
  (sscons
  (sifS (twd (wor (tcmp (oEq hr) oEqS (sv 2) sstr (nomark _)) (wor1 (twd (wand (tcmp (oEq hr) oEqS (sv 2) sstr (nomark _)) (wand1 (tcmp (oNe hr) oNeS (six hr (sfld T.f_held (sv 0)) (six hr (sv 1) sint)) sint (nomark _)))))))) (ssone
  (sfldS T.f_here (sv 0) (six hr (sv 1) (sun un_neg oNegS sint)))) (ssone
  (sifS (twd (wand (tcmp (oIn hr) oInS (sv 2) (stup (acons sstr (acons sstr anil))) (by with_unfolding_all rfl)) (wand1 (tnot (tchain op_le op_lt oLeS oLtS sint (six hr (sfld T.f_held (sv 0)) (sif (tcmp (oEq hr) oEqS (sv 2) sstr (nomark _)) (six hr (sv 1) sint) (six hr (sv 1) sint))) (sglob T.g_CELLS)))))) (sscons
  (sfldS T.f_end (sv 0) (stup (acons sstr (acons sstr (acons (sv 3) anil)))))
  (ssone
  sretN)) (ssone
  (sexpr (smeth (d_Plain_deed T) hr (by decide) tkF (sv 0) (acons (sv 2) (acons (sv 1) anil))))))))
  (ssone
  (sifS (tcmp (oEq hr) oEqS (sfld T.f_here (sv 0)) (sbuilt oLen oLenS T.z_len (acons (sfld T.f_program (sv 0)) anil)) (nomark _)) (ssone
  (sfldS T.f_end (sv 0) (sglob T.g_END))) ssnil)))))))))⟩
theorem sc_run_places : FnScope n_run_places p_run_places (defScope s_run_places) := ⟨rfl, rfl, rfl, by decide +kernel, rfl, by decide +kernel, by decide +kernel⟩
theorem d_run_places (T : Txt K w mg) : Dfn P w K mg base "run_places" 7 m_run_places := dfn_of T.t_run_places sc_run_places fun f cd A outer s H E hr => ⟨_, by
  unfold b_run_places
  exact
  (sscons
  (sexpr (scall (d_need_plain T) hr (by decide) tkF (acons (sv 0) anil)))
  (sscons
  (sexpr (scall (d_need_numbers T) hr (by decide) tkF (acons (sv 1) anil)))
  (sscons
  (sexpr (scall (d_need_fuel T) hr (by decide) tkF (acons (sv 2) anil)))
  (sscons
  (sset 3 (sc_run_places).nd (smake (d_Plain___init__ T) hr (by decide) tkF (acons (sv 0) (acons (sv 1) anil))))
  (sscons
  (swh fuelN psF (twd (wand (tcmp op_isN oIsS (sfld T.f_end (sv 3)) snon (nomark _)) (wand1 (tcmp op_lt oLtS (sfld T.f_steps (sv 3)) (sv 2) (nomark _))))) (ssone
  (sexpr (smeth0 (d_Plain_step T) hr (by decide) tkF (sv 3)))))
  (ssone
  (sret (stup (acons (sfld T.f_talk (sv 3)) (acons (sif (tcmp op_isN oIsS (sfld T.f_end (sv 3)) snon (nomark _)) (sglob T.g_LONG) (sfld T.f_end (sv 3))) (acons (sfld T.f_steps (sv 3)) (acons (sfld T.f_store (sv 3)) anil))))))))))))⟩
theorem sc_keyed : FnScope n_keyed p_keyed (defScope s_keyed) := ⟨rfl, rfl, rfl, by decide +kernel, rfl, by decide +kernel, by decide +kernel⟩
theorem d_keyed (T : Txt K w mg) : Dfn P w K mg base "keyed" 7 m_keyed := dfn_of T.t_keyed sc_keyed fun f cd A outer s H E hr => ⟨_, by
  unfold b_keyed
  exact
  (sscons
  (sexpr (scall (d_need_plain T) hr (by decide) tkF (acons (sv 0) anil)))
  (sscons
  (sset 1 (sc_keyed).nd (slstN anil))
  (sscons
  (sset 2 (sc_keyed).nd (slstN anil))
  (sscons
  (sfor psF rfl (irng1 T.z_range (acons (sbuilt oLen oLenS T.z_len (acons (sv 0) anil)) anil)) (gname (i := 3) (sc_keyed).nd) (sscons
  (sexpr (smt PySem.F.plainAttrs_list PySem.F.slot_list_append PySem.F.type_list_append mt_append oAppS (sv 1) (acons (sbuilt oLen oLenS T.z_len (acons (sv 2) anil)) anil)))
  (ssone
  (sexpr (smt PySem.F.plainAttrs_list PySem.F.slot_list_extend PySem.F.type_list_extend mt_extend oExtS (sv 2) (acons (sop oMul oMulS (slst (acons (sv 3) anil)) (sif (tcmp (oIn hr) oInS (six hr (six hr (sv 0) (sv 3)) sint) (stup (acons sstr (acons sstr anil))) (by with_unfolding_all rfl)) sint sint)) anil))))))
  (sscons
  (sset 4 (sc_keyed).nd (slstN anil))
  (sscons
  (sfor psF rfl (iany (sv 0)) (gname (i := 5) (sc_keyed).nd) (ssone
  (sifS (tcmp (oEq hr) oEqS (six hr (sv 5) sint) sstr (nomark _)) (ssone
  (sexpr (smt PySem.F.plainAttrs_list PySem.F.slot_list_extend PySem.F.type_list_extend mt_extend oExtS (sv 4) (acons (slst (acons (stup (acons sstr (acons (sglob T.g_PLACE) (acons (sglob T.g_WHOLE) (acons (six hr (sv 5) sint) anil))))) (acons (stup (acons sstr (acons (six hr (sv 5) sint) (acons (sglob T.g_PLACE) (acons sint anil))))) anil))) anil)))) (ssone
  (sifS (tcmp (oEq hr) oEqS (six hr (sv 5) sint) sstr (nomark _)) (ssone
  (sexpr (smt PySem.F.plainAttrs_list PySem.F.slot_list_extend PySem.F.type_list_extend mt_extend oExtS (sv 4) (acons (slst (acons (stup (acons sstr (acons (sglob T.g_PLACE) (acons (sglob T.g_WHOLE) (acons (six hr (sv 5) sint) anil))))) (acons (stup (acons sstr (acons (sglob T.g_PLACE) (acons sint (acons (six hr (sv 5) sint) anil))))) anil))) anil)))) (ssone
  (sifS (tcmp (oIn hr) oInS (six hr (sv 5) sint) (stup (acons sstr (acons sstr anil))) (by with_unfolding_all rfl)) (ssone
  (sexpr (smt PySem.F.plainAttrs_list PySem.F.slot_list_append PySem.F.type_list_append mt_append oAppS (sv 4) (acons (sop oAdd oAddS (ssl (sv 5) onone (osome (sun un_neg oNegS sint))) (stup (acons (six hr (sv 1) (six hr (sv 5) (sun un_neg oNegS sint))) anil))) anil)))) (ssone
  (sexpr (smt PySem.F.plainAttrs_list PySem.F.slot_list_append PySem.F.type_list_append mt_append oAppS (sv 4) (acons (sv 5) anil)))))))))))
  (ssone
  (sret (stup (acons (styp call_tuple_of oTupS T.z_tuple (acons (sv 4) anil)) (acons (styp call_tuple_of oTupS T.z_tuple (acons (sv 2) anil)) anil)))))))))))⟩
theorem sc_is_key : FnScope n_is_key p_is_key (defScope s_is_key) := ⟨rfl, rfl, rfl, by decide +kernel, rfl, by decide +kernel, by decide +kernel⟩
theorem d_is_key (T : Txt K w mg) : Dfn P w K mg base "is_key" 3 m_is_key := dfn_of T.t_is_key sc_is_key fun f cd A outer s H E hr => ⟨_, by
  unfold b_is_key
  exact
  (sscons
  (sifS (twd (wor (tnot (tval (sisi (T := "tuple") (by decide) T.z_isinstance T.z_tuple (sv 0)))) (wor (tcmp (oNe hr) oNeS (sbuilt oLen oLenS T.z_len (acons (sv 0) anil)) sint (nomark _)) (wor1 (tcmp (oNe hr) oNeS (six hr (sv 0) sint) (sglob T.g_KEY) (nomark _)))))) (ssone
  (sret sbl)) ssnil)
  (sscons
  (sasg (ssl (sv 0) (osome sint) onone) (gtup rfl (gcons (gname (i := 2) (sc_is_key).nd) (gcons (gname (i := 3) (sc_is_key).nd) (gcons (gname (i := 4) (sc_is_key).nd) (gcons (gname (i := 5) (sc_is_key).nd) gnil))))))
  (sscons
  (sifS (twd (wor (tnot (tval (scall (d_is_within T) hr (by decide) tkF (acons (sv 2) (acons sint (acons (sv 1) anil)))))) (wor1 (tnot (tval (scall (d_is_within T) hr (by decide) tkF (acons (sv 3) (acons (sop oAdd oAddS (sv 2) sint) (acons (sop oAdd oAddS (sv 1) sint) anil))))))))) (ssone
  (sret sbl)) ssnil)
  (ssone
  (sret (sand (scall (d_is_within T) hr (by decide) tkF (acons (sv 4) (acons (sop op_sub oSubS sint (sglob T.g_HALF)) (acons (sglob T.g_HALF) anil)))) (sone (scall (d_are_rights T) hr (by decide) tkF (acons (sv 5) anil)))))))))⟩
theorem sc_is_plain_words : FnScope n_is_plain_words p_is_plain_words (defScope s_is_plain_words) := ⟨rfl, rfl, rfl, by decide +kernel, rfl, by decide +kernel, by decide +kernel⟩
theorem d_is_plain_words (T : Txt K w mg) : Dfn P w K mg base "is_plain_words" 4 m_is_plain_words := dfn_ofA T.t_is_plain_words sc_is_plain_words fun f cd A outer s H E hr => ⟨_, by
  unfold b_is_plain_words
  exact
  (ssone
  (sret (sor (scall (d_is_within T) hr (by decide) tkF (acons (sv 0) (acons (sop op_sub oSubS sint (sglob T.g_HALF)) (acons (sglob T.g_HALF) anil)))) (sone (scall (d_is_key T) hr (by decide) tkF (acons (sv 0) (acons (sv 1) anil)))))))⟩
theorem sc_is_word : FnScope n_is_word p_is_word (defScope s_is_word) := ⟨rfl, rfl, rfl, by decide +kernel, rfl, by decide +kernel, by decide +kernel⟩
theorem d_is_word (T : Txt K w mg) : Dfn P w K mg base "is_word" 5 m_is_word := dfn_of T.t_is_word sc_is_word fun f cd A outer s H E hr => ⟨_, by
  unfold b_is_word
  exact
  (sscons
  (sifS (tval (scall (d_is_plain_words T) hr (by decide) tkF (acons (sv 0) (acons (sv 1) anil)))) (ssone
  (sret sbl)) ssnil)
  (sscons
  (sifS (twd (wor (tnot (tval (sisi (T := "tuple") (by decide) T.z_isinstance T.z_tuple (sv 0)))) (wor (tcmp (oNe hr) oNeS (sbuilt oLen oLenS T.z_len (acons (sv 0) anil)) sint (nomark _)) (wor1 (tcmp (oNe hr) oNeS (six hr (sv 0) sint) (sglob T.g_GATE) (nomark _)))))) (ssone
  (sret sbl)) ssnil)
  (ssone
  (sret (sand (scall (d_is_within T) hr (by decide) tkF (acons (six hr (sv 0) sint) (acons sint (acons (sop oAdd oAddS (sv 2) sint) anil)))) (sone (scall (d_is_plain_words T) hr (by decide) tkF (acons (six hr (sv 0) sint) (acons (sv 1) anil)))))))))⟩
theorem sc_need_words : FnScope n_need_words p_need_words (defScope s_need_words) := ⟨rfl, rfl, rfl, by decide +kernel, rfl, by decide +kernel, by decide +kernel⟩
theorem d_need_words (T : Txt K w mg) : Dfn P w K mg base "need_words" 6 m_need_words := dfn_of T.t_need_words sc_need_words fun f cd A outer s H E hr => ⟨_, by
  unfold b_need_words
  exact
  (sscons
  (sfor psF rfl (irng1 T.z_range (acons (sv 1) anil)) (gname (i := 5) (sc_need_words).nd) (ssone
  (sifS (twd (wor (tcmp op_ge oGeS (sv 5) (sbuilt oLen oLenS T.z_len (acons (sv 0) anil)) (nomark _)) (wor1 (tnot (tval (scall (d_is_word T) hr (by decide) tkF (acons (six hr (sv 0) (sv 5)) (acons (sv 2) (acons (sv 3) anil))))))))) (ssone
  snever) ssnil)))
  (ssone
  (sifS (tcmp op_gt oGtS (sbuilt oLen oLenS T.z_len (acons (sv 0) anil)) (sv 1) (nomark _)) (ssone
  snever) ssnil)))⟩
theorem sc_need_state : FnScope n_need_state p_need_state (defScope s_need_state) := ⟨rfl, rfl, rfl, by decide +kernel, rfl, by decide +kernel, by decide +kernel⟩
theorem d_need_state (T : Txt K w mg) : Dfn P w K mg base "need_state" 7 m_need_state := dfn_of T.t_need_state sc_need_state fun f cd A outer s H E hr => ⟨_, by
  unfold b_need_state
  exact
  (sscons
  (sifS (tnot (tval (scall (d_is_within T) hr (by decide) tkF (acons (sv 1) (acons sint (acons (sop oAdd oAddS (sglob T.g_MOST_ROOMS) sint) anil)))))) (ssone
  snever) ssnil)
  (sscons
  (sset 4 (sc_need_state).nd (sop op_sub oSubS (sglob T.g_CELLS) (sop oMul oMulS (sglob T.g_ROOM) (sv 1))))
  (sscons
  (sexpr (scall (d_need_words T) hr (by decide) tkF (acons (sv 2) (acons (sv 4) (acons (sv 4) (acons (sv 0) (acons sint anil)))))))
  (ssone
  (sexpr (scall (d_need_words T) hr (by decide) tkF (acons (sv 3) (acons (sglob T.g_BOXES_words) (acons (sv 4) (acons (sv 0) (acons (sv 4) anil)))))))))))⟩
theorem sc_Rows___init__ : FnScope n_Rows___init__ p_Rows___init__ (defScope s_Rows___init__) := ⟨rfl, rfl, rfl, by decide +kernel, rfl, by decide +kernel, by decide +kernel⟩
theorem d_Rows___init__ (T : Txt K w mg) : Cfn P w K mg base "Rows" "__init__" 1 m_Rows___init__ := cfn_of T.t_Rows___init__ sc_Rows___init__ fun f cd A outer s H E hr => ⟨_, by
  unfold b_Rows___init__
  exact
  (sscons
  (sfldS T.f_program (sv 0) (sv 1))
  (sscons
  (sfldS T.f_first (sv 0) (sop op_sub oSubS (sglob T.g_CELLS) (sop oMul oMulS (sglob T.g_ROOM) (sv 2))))
  (sscons
  (sfldS T.f_store (sv 0) (sop oAdd oAddNS (styp (oList rfl) oListS T.z_list (acons (sv 3) anil)) (sop oMul oMulS (slst (acons sint anil)) (sop oMul oMulS (sglob T.g_ROOM) (sv 2)))))
  (sscons
  (sfldS T.f_held (sv 0) (styp (oList rfl) oListNS T.z_list (acons (sv 4) anil)))
  (sscons
  (sfldS T.f_here (sv 0) sint)
  (sscons
  (sfldS T.f_talk (sv 0) (slstN anil))
  (sscons
  (sfldS T.f_steps (sv 0) sint)
  (ssone
  (sfldS T.f_end (sv 0) snon)))))))))⟩
theorem sc_AtOnce___init__ : FnScope n_AtOnce___init__ p_AtOnce___init__ (defScope s_AtOnce___init__) := ⟨rfl, rfl, rfl, by decide +kernel, rfl, by decide +kernel, by decide +kernel⟩
theorem d_AtOnce___init__ (T : Txt K w mg) : Mkr P w K mg base "AtOnce" 2 m_AtOnce___init__ := mkr_of T.t_AtOnce___init__ sc_AtOnce___init__ fun f cd A outer s H E hr => ⟨_, by
  unfold b_AtOnce___init__
  exact
  (sscons
  (sexpr (scfn (d_Rows___init__ T) hr (by decide) tkF (acons (sv 0) (acons (sv 1) (acons (sv 2) (acons (sv 3) (acons (sv 4) anil)))))))
  (ssone
  (sfldS T.f_lent_ones (sv 0) (slstN anil))))⟩
theorem sc_AtOnce_look : FnScope n_AtOnce_look p_AtOnce_look (defScope s_AtOnce_look) := ⟨rfl, rfl, rfl, by decide +kernel, rfl, by decide +kernel, by decide +kernel⟩
theorem d_AtOnce_look (T : Txt K w mg) : Mtd P w K mg base "AtOnce" "look" 1 m_AtOnce_look := mtd_of T.t_AtOnce_look sc_AtOnce_look fun f cd A outer s H E hr => ⟨_, by
  unfold b_AtOnce_look
  exact
  (ssone
  (sret (sv 1)))⟩
theorem sc_AtOnce_box : FnScope n_AtOnce_box p_AtOnce_box (defScope s_AtOnce_box) := ⟨rfl, rfl, rfl, by decide +kernel, rfl, by decide +kernel, by decide +kernel⟩
theorem d_AtOnce_box (T : Txt K w mg) : Mtd P w K mg base "AtOnce" "box" 2 m_AtOnce_box := mtd_of T.t_AtOnce_box sc_AtOnce_box fun f cd A outer s H E hr => ⟨_, by
  unfold b_AtOnce_box
  exact
  (ssone
  (sret (smeth (d_AtOnce_look T) hr (by decide) tkF (sv 0) (acons (six hr (sfld T.f_held (sv 0)) (sv 1)) anil))))⟩
theorem sc_Stop___init__ : FnScope n_Stop___init__ p_Stop___init__ (defScope s_Stop___init__) := ⟨rfl, rfl, rfl, by decide +kernel, rfl, by decide +kernel, by decide +kernel⟩
theorem d_Stop___init__ (T : Txt K w mg) : Xmk P w K mg base "Stop" "word" 1 := xmk_of T.t_Stop___init__ sc_Stop___init__ fun C B newId initId bmB fI cdv A outer s H E xc hb no => pss_cons (ps_expr (pe_xin hb xc rfl (pa_cons (sv (Wx := fun _ _ _ _ => False) 0).pe (pa_cons (sv (Wx := fun _ _ _ _ => False) 1).pe pa_nil)))) (pss_one (ps_xst xc no (sv (Wx := fun _ _ _ _ => False) 0).pe (sv (Wx := fun _ _ _ _ => False) 1).pe))
theorem sc_need : FnScope n_need p_need (defScope s_need) := ⟨rfl, rfl, rfl, by decide +kernel, rfl, by decide +kernel, by decide +kernel⟩
theorem d_need (T : Txt K w mg) : Dfn P w K mg base "need" 3 m_need := dfn_of T.t_need sc_need fun f cd A outer s H E hr => ⟨_, by
  unfold b_need
  exact
  (ssone
  (sifS (tnot (tval (sv 0))) (ssone
  (sraise rfl (d_Stop___init__ T) hr (by decide) tkF (sv 1))) ssnil))⟩
theorem sc_kind_of : FnScope n_kind_of p_kind_of (defScope s_kind_of) := ⟨rfl, rfl, rfl, by decide +kernel, rfl, by decide +kernel, by decide +kernel⟩
theorem d_kind_of (T : Txt K w mg) : Dfn P w K mg base "kind_of" 2 m_kind_of := dfn_of T.t_kind_of sc_kind_of fun f cd A outer s H E hr => ⟨_, by
  unfold b_kind_of
  exact
  (ssone
  (sret (sif (tval (scall (d_is_number T) hr (by decide) tkF (acons (sv 0) anil))) sint (six hr (sdct (spcons (sglob T.g_KEY) sint (spcons (sglob T.g_GATE) sint spnil))) (six hr (sv 0) sint)))))⟩
theorem sc_AtOnce_entered : FnScope n_AtOnce_entered p_AtOnce_entered (defScope s_AtOnce_entered) := ⟨rfl, rfl, rfl, by decide +kernel, rfl, by decide +kernel, by decide +kernel⟩
theorem d_AtOnce_entered (T : Txt K w mg) : Mtd P w K mg base "AtOnce" "entered" 4 m_AtOnce_entered := mtd_of T.t_AtOnce_entered sc_AtOnce_entered fun f cd A outer s H E hr => ⟨_, by
  unfold b_AtOnce_entered
  exact
  (sscons
  (sset 2 (sc_AtOnce_entered).nd (smeth (d_AtOnce_box T) hr (by decide) tkF (sv 0) (acons (sv 1) anil)))
  (sscons
  (sexpr (scall (d_need T) hr (by decide) tkF (acons (sand (scmp (oEq hr) oEqS (scall (d_kind_of T) hr (by decide) tkF (acons (sv 2) anil)) sint (nomark _)) (sone (scmp op_lt oLtS (scall (d_kind_of T) hr (by decide) tkF (acons (smeth (d_AtOnce_box T) hr (by decide) tkF (sv 0) (acons (sop op_sub oSubS (sglob T.g_BOXES_words) sint) anil)) anil)) sint (nomark _)))) (acons sstr anil))))
  (sscons
  (sset 3 (sc_AtOnce_entered).nd (stup (acons (sglob T.g_GATE) (acons (sop oAdd oAddS (sfld T.f_here (sv 0)) sint) (acons (smeth (d_AtOnce_box T) hr (by decide) tkF (sv 0) (acons (sop op_sub oSubS (sglob T.g_BOXES_words) sint) anil)) anil)))))
  (sscons
  (ssub hr (sfld T.f_held (sv 0)) (sop op_sub oSubS (sglob T.g_BOXES_words) sint) (six hr (sv 2) sint))
  (sscons
  (ssub hr (sfld T.f_held (sv 0)) (sop op_sub oSubS (sglob T.g_BOXES_words) sint) (sv 3))
  (ssone
  (sret (six hr (sv 2) sint))))))))⟩
theorem sc_AtOnce_number : FnScope n_AtOnce_number p_AtOnce_number (defScope s_AtOnce_number) := ⟨rfl, rfl, rfl, by decide +kernel, rfl, by decide +kernel, by decide +kernel⟩
theorem d_AtOnce_number (T : Txt K w mg) : Mtd P w K mg base "AtOnce" "number" 4 m_AtOnce_number := mtd_of T.t_AtOnce_number sc_AtOnce_number fun f cd A outer s H E hr => ⟨_, by
  unfold b_AtOnce_number
  exact
  (sscons
  (sset 2 (sc_AtOnce_number).nd (smeth (d_AtOnce_box T) hr (by decide) tkF (sv 0) (acons (sv 1) anil)))
  (sscons
  (sexpr (scall (d_need T) hr (by decide) tkF (acons (scall (d_is_number T) hr (by decide) tkF (acons (sv 2) anil)) (acons sstr anil))))
  (ssone
  (sret (sv 2)))))⟩
theorem sc_AtOnce_key : FnScope n_AtOnce_key p_AtOnce_key (defScope s_AtOnce_key) := ⟨rfl, rfl, rfl, by decide +kernel, rfl, by decide +kernel, by decide +kernel⟩
theorem d_AtOnce_key (T : Txt K w mg) : Mtd P w K mg base "AtOnce" "key" 4 m_AtOnce_key := mtd_of T.t_AtOnce_key sc_AtOnce_key fun f cd A outer s H E hr => ⟨_, by
  unfold b_AtOnce_key
  exact
  (sscons
  (sset 2 (sc_AtOnce_key).nd (smeth (d_AtOnce_box T) hr (by decide) tkF (sv 0) (acons (sv 1) anil)))
  (sscons
  (sexpr (scall (d_need T) hr (by decide) tkF (acons (scmp (oEq hr) oEqS (scall (d_kind_of T) hr (by decide) tkF (acons (sv 2) anil)) sint (nomark _)) (acons sstr anil))))
  (ssone
  (sret (sv 2)))))⟩
theorem sc_AtOnce_cell_of : FnScope n_AtOnce_cell_of p_AtOnce_cell_of (defScope s_AtOnce_cell_of) := ⟨rfl, rfl, rfl, by decide +kernel, rfl, by decide +kernel, by decide +kernel⟩
theorem d_AtOnce_cell_of (T : Txt K w mg) : Mtd P w K mg base "AtOnce" "cell_of" 4 m_AtOnce_cell_of := mtd_of T.t_AtOnce_cell_of sc_AtOnce_cell_of fun f cd A outer s H E hr => ⟨_, by
  unfold b_AtOnce_cell_of
  exact
  (sscons
  (sexpr (scall (d_need T) hr (by decide) tkF (acons (scmp (oIn hr) oInS (sv 3) (six hr (sv 1) sint) (by with_unfolding_all rfl)) (acons sstr anil))))
  (sscons
  (sset 4 (sc_AtOnce_cell_of).nd (sop oAdd oAddS (six hr (sv 1) sint) (sv 2)))
  (sscons
  (sexpr (scall (d_need T) hr (by decide) tkF (acons (schain op_le op_lt oLeS oLtS (six hr (sv 1) sint) (sv 4) (six hr (sv 1) sint)) (acons sstr anil))))
  (ssone
  (sret (sv 4))))))⟩
theorem sc_AtOnce_put_in : FnScope n_AtOnce_put_in p_AtOnce_put_in (defScope s_AtOnce_put_in) := ⟨rfl, rfl, rfl, by decide +kernel, rfl, by decide +kernel, by decide +kernel⟩
theorem d_AtOnce_put_in (T : Txt K w mg) : Mtd P w K mg base "AtOnce" "put_in" 5 m_AtOnce_put_in := mtd_of T.t_AtOnce_put_in sc_AtOnce_put_in fun f cd A outer s H E hr => ⟨_, by
  unfold b_AtOnce_put_in
  exact
  (sscons
  (sset 2 (sc_AtOnce_put_in).nd (smeth (d_AtOnce_key T) hr (by decide) tkF (sv 0) (acons (six hr (sv 1) sint) anil)))
  (sscons
  (sset 3 (sc_AtOnce_put_in).nd (smeth (d_AtOnce_box T) hr (by decide) tkF (sv 0) (acons (six hr (sv 1) sint) anil)))
  (sscons
  (sset 4 (sc_AtOnce_put_in).nd (smeth (d_AtOnce_cell_of T) hr (by decide) tkF (sv 0) (acons (sv 2) (acons (six hr (sv 1) sint) (acons sstr anil)))))
  (sscons
  (sexpr (scall (d_need T) hr (by decide) tkF (acons (sor (scall (d_is_number T) hr (by decide) tkF (acons (sv 3) anil)) (sone (scmp (oIn hr) oInS sstr (six hr (sv 2) sint) (by with_unfolding_all rfl)))) (acons sstr anil))))
  (ssone
  (ssub hr (sfld T.f_store (sv 0)) (sv 4) (sv 3)))))))⟩
theorem sc_inner : FnScope n_inner p_inner (defScope s_inner) := ⟨rfl, rfl, rfl, by decide +kernel, rfl, by decide +kernel, by decide +kernel⟩
theorem d_inner (T : Txt K w mg) : ∀ n : Nat, Dfn P w K mg base "inner" (2 + n) (m_inner n)
  | 0 => dfn_bad T.t_inner
  | n + 1 => by
    have dg := d_inner T n
    exact dfn_of T.t_inner sc_inner (fun f cd A outer s H E hr => ⟨_, by
  unfold b_inner
  exact
  (sscons
  (sifS (tcmp (oEq hr) oEqS (scall (d_kind_of T) hr (Nat.le_trans (by decide) (Nat.le_add_right _ _)) tkF (acons (sv 0) anil)) sint (nomark _)) (ssone
  (sret (scall dg hr (Nat.le_refl _) tkF (acons (six hr (sv 0) sint) anil)))) ssnil)
  (ssone
  (sret (sif (tcmp (oEq hr) oEqS (scall (d_kind_of T) hr (Nat.le_trans (by decide) (Nat.le_add_right _ _)) tkF (acons (sv 0) anil)) sint (nomark _)) (sv 0) snon))))⟩)
theorem sc_without : FnScope n_without p_without (defScope s_without) := ⟨rfl, rfl, rfl, by decide +kernel, rfl, by decide +kernel, by decide +kernel⟩
theorem d_without (T : Txt K w mg) : Dfn P w K mg base "without" 6 m_without := dfn_of T.t_without sc_without fun f cd A outer s H E hr => ⟨_, by
  unfold b_without
  exact
  (sscons
  (sset 2 (sc_without).nd (scall (d_inner T 2) hr (by decide) tkF (acons (sv 0) anil)))
  (sscons
  (sifS (twd (wor (tcmp op_isN oIsS (sv 2) snon (nomark _)) (wor1 (tcmp (oEq hr) oEqS (by (refine' slc (own := [("begin", 3)]) fin_f rfl (sc_without).nd ?hi0 ?ok0 ?hg0 ?ht0 ?he0 ?hw0); (case hi0 => exact (iany (sv 1))); (case ok0 => exact blkOk_by (own := [("begin", 3)]) (N := n_without) (sc := (defScope s_without)) (by decide +kernel)); (case hg0 => exact fun _ _ _ _ _ => sg_fix (gname (i := 3) (sc_without).nd) (by first | exact rfl | (dsimp only [Cx.blk] <;> exact rfl))); (case ht0 => exact fun _ _ _ _ _ => sts_fix (stsone (tchain op_le op_lt oLeS oLtS (sv 3) (six (by exact hr) (sv 2) sint) (sop oAdd oAddS (sv 3) (sglob T.g_ROOM)))) (by first | exact rfl | (dsimp only [Cx.blk] <;> exact rfl))); (case he0 => exact fun _ _ _ _ _ => se_fix (sv 3) (by first | exact rfl | (dsimp only [Cx.blk] <;> exact rfl))); (case hw0 => decide)) (slst anil) (nomark _))))) (ssone
  (sret (sv 0))) ssnil)
  (ssone
  (sret (sif (tcmp (oEq hr) oEqS (six hr (sv 0) sint) (sglob T.g_KEY) (nomark _)) sint (stup (acons (sglob T.g_GATE) (acons (six hr (sv 0) sint) (acons sint anil)))))))))⟩
theorem sc_AtOnce_take_room : FnScope n_AtOnce_take_room p_AtOnce_take_room (defScope s_AtOnce_take_room) := ⟨rfl, rfl, rfl, by decide +kernel, rfl, by decide +kernel, by decide +kernel⟩
theorem d_AtOnce_take_room (T : Txt K w mg) : Mtd P w K mg base "AtOnce" "take_room" 7 m_AtOnce_take_room := mtd_of T.t_AtOnce_take_room sc_AtOnce_take_room fun f cd A outer s H E hr => ⟨_, by
  unfold b_AtOnce_take_room
  exact
  (sscons
  (sifS (tcmp (oNIn hr) oNInS (sv 1) (sfld T.f_lent_ones (sv 0)) (by with_unfolding_all rfl)) (ssone
  (sret sbl)) ssnil)
  (sscons
  (sfldS T.f_lent_ones (sv 0) (by (refine' slc (own := [("room", 2)]) fin_n rfl (sc_AtOnce_take_room).nd ?hi0 ?ok0 ?hg0 ?ht0 ?he0 ?hw0); (case hi0 => exact (iany (sfld T.f_lent_ones (sv 0)))); (case ok0 => exact blkOk_by (own := [("room", 2)]) (N := n_AtOnce_take_room) (sc := (defScope s_AtOnce_take_room)) (by decide +kernel)); (case hg0 => exact fun _ _ _ _ _ => sg_fix (gname (i := 2) (sc_AtOnce_take_room).nd) (by first | exact rfl | (dsimp only [Cx.blk] <;> exact rfl))); (case ht0 => exact fun _ _ _ _ _ => sts_fix (stsone (tcmp (oNe (by exact hr)) oNeS (sv 2) (sv 1) (nomark _))) (by first | exact rfl | (dsimp only [Cx.blk] <;> exact rfl))); (case he0 => exact fun _ _ _ _ _ => se_fix (sv 2) (by first | exact rfl | (dsimp only [Cx.blk] <;> exact rfl))); (case hw0 => decide)))
  (sscons
  (sfldS T.f_store (sv 0) (by (refine' slc (own := [("word", 3)]) fin_n rfl (sc_AtOnce_take_room).nd ?hi0 ?ok0 ?hg0 ?ht0 ?he0 ?hw0); (case hi0 => exact (iany (sfld T.f_store (sv 0)))); (case ok0 => exact blkOk_by (own := [("word", 3)]) (N := n_AtOnce_take_room) (sc := (defScope s_AtOnce_take_room)) (by decide +kernel)); (case hg0 => exact fun _ _ _ _ _ => sg_fix (gname (i := 3) (sc_AtOnce_take_room).nd) (by first | exact rfl | (dsimp only [Cx.blk] <;> exact rfl))); (case ht0 => exact fun _ _ _ _ _ => sts_fix stsnil (by first | exact rfl | (dsimp only [Cx.blk] <;> exact rfl))); (case he0 => exact fun _ _ _ _ _ => se_fix (scall (d_without T) (by exact hr) (by decide) takes0 (acons (sv 3) (acons (slst (acons (sv 1) anil)) anil))) (by first | exact rfl | (dsimp only [Cx.blk] <;> exact rfl))); (case hw0 => decide)))
  (sscons
  (sfldS T.f_held (sv 0) (by (refine' slc (own := [("word", 3)]) fin_n rfl (sc_AtOnce_take_room).nd ?hi0 ?ok0 ?hg0 ?ht0 ?he0 ?hw0); (case hi0 => exact (iany (sfld T.f_held (sv 0)))); (case ok0 => exact blkOk_by (own := [("word", 3)]) (N := n_AtOnce_take_room) (sc := (defScope s_AtOnce_take_room)) (by decide +kernel)); (case hg0 => exact fun _ _ _ _ _ => sg_fix (gname (i := 3) (sc_AtOnce_take_room).nd) (by first | exact rfl | (dsimp only [Cx.blk] <;> exact rfl))); (case ht0 => exact fun _ _ _ _ _ => sts_fix stsnil (by first | exact rfl | (dsimp only [Cx.blk] <;> exact rfl))); (case he0 => exact fun _ _ _ _ _ => se_fix (scall (d_without T) (by exact hr) (by decide) takes0 (acons (sv 3) (acons (slst (acons (sv 1) anil)) anil))) (by first | exact rfl | (dsimp only [Cx.blk] <;> exact rfl))); (case hw0 => decide)))
  (ssone
  (sret sbl))))))⟩
theorem sc_AtOnce_shut : FnScope n_AtOnce_shut p_AtOnce_shut (defScope s_AtOnce_shut) := ⟨rfl, rfl, rfl, by decide +kernel, rfl, by decide +kernel, by decide +kernel⟩
theorem d_AtOnce_shut (T : Txt K w mg) : Mtd P w K mg base "AtOnce" "shut" 8 m_AtOnce_shut := mtd_of T.t_AtOnce_shut sc_AtOnce_shut fun f cd A outer s H E hr => ⟨_, by
  unfold b_AtOnce_shut
  exact
  (sscons
  (sset 2 (sc_AtOnce_shut).nd (smeth (d_AtOnce_key T) hr (by decide) tkF (sv 0) (acons (sv 1) anil)))
  (sscons
  (sexpr (scall (d_need T) hr (by decide) tkF (acons (scmp (oIn hr) oInS sstr (six hr (sv 2) sint) (by with_unfolding_all rfl)) (acons sstr anil))))
  (ssone
  (sexpr (scall (d_need T) hr (by decide) tkF (acons (sand (scmp (oEq hr) oEqS (sop op_sub oSubS (six hr (sv 2) sint) (six hr (sv 2) sint)) (sglob T.g_ROOM) (nomark _)) (sone (smeth (d_AtOnce_take_room T) hr (by decide) tkF (sv 0) (acons (six hr (sv 2) sint) anil)))) (acons sstr anil)))))))⟩
theorem sc_AtOnce_give_room : FnScope n_AtOnce_give_room p_AtOnce_give_room (defScope s_AtOnce_give_room) := ⟨rfl, rfl, rfl, by decide +kernel, rfl, by decide +kernel, by decide +kernel⟩
theorem d_AtOnce_give_room (T : Txt K w mg) : Mtd P w K mg base "AtOnce" "give_room" 1 m_AtOnce_give_room := mtd_of T.t_AtOnce_give_room sc_AtOnce_give_room fun f cd A outer s H E hr => ⟨_, by
  unfold b_AtOnce_give_room
  exact
  (sscons
  (sfor psF rfl (irng3 T.z_range (acons (sfld T.f_first (sv 0)) (acons (sglob T.g_CELLS) (acons (sglob T.g_ROOM) anil)))) (gname (i := 1) (sc_AtOnce_give_room).nd) (ssone
  (sifS (tcmp (oNIn hr) oNInS (sv 1) (sfld T.f_lent_ones (sv 0)) (by with_unfolding_all rfl)) (sscons
  (sexpr (smt PySem.F.plainAttrs_list PySem.F.slot_list_append PySem.F.type_list_append mt_append oAppS (sfld T.f_lent_ones (sv 0)) (acons (sv 1) anil)))
  (ssone
  (sret (sv 1)))) ssnil)))
  (ssone
  (sret snon)))⟩
theorem sc_AtOnce_lent : FnScope n_AtOnce_lent p_AtOnce_lent (defScope s_AtOnce_lent) := ⟨rfl, rfl, rfl, by decide +kernel, rfl, by decide +kernel, by decide +kernel⟩
theorem d_AtOnce_lent (T : Txt K w mg) : Mtd P w K mg base "AtOnce" "lent" 2 m_AtOnce_lent := mtd_of T.t_AtOnce_lent sc_AtOnce_lent fun f cd A outer s H E hr => ⟨_, by
  unfold b_AtOnce_lent
  exact
  (sscons
  (sset 1 (sc_AtOnce_lent).nd (smeth0 (d_AtOnce_give_room T) hr (by decide) tkF (sv 0)))
  (sscons
  (sifS (tcmp op_isN oIsS (sv 1) snon (nomark _)) (ssone
  (sret sint)) ssnil)
  (sscons
  (sfor psF rfl (irng2 T.z_range (acons (sv 1) (acons (sop oAdd oAddS (sv 1) (sglob T.g_ROOM)) anil))) (gname (i := 2) (sc_AtOnce_lent).nd) (ssone
  (ssub hr (sfld T.f_store (sv 0)) (sv 2) sint)))
  (ssone
  (sret (stup (acons (sglob T.g_KEY) (acons (sv 1) (acons (sop oAdd oAddS (sv 1) (sglob T.g_ROOM)) (acons (sv 1) (acons (sglob T.g_RIGHTS) anil)))))))))))⟩
theorem sc_AtOnce_taken_out : FnScope n_AtOnce_taken_out p_AtOnce_taken_out (defScope s_AtOnce_taken_out) := ⟨rfl, rfl, rfl, by decide +kernel, rfl, by decide +kernel, by decide +kernel⟩
theorem d_AtOnce_taken_out (T : Txt K w mg) : Mtd P w K mg base "AtOnce" "taken_out" 5 m_AtOnce_taken_out := mtd_of T.t_AtOnce_taken_out sc_AtOnce_taken_out fun f cd A outer s H E hr => ⟨_, by
  unfold b_AtOnce_taken_out
  exact
  (sscons
  (sset 2 (sc_AtOnce_taken_out).nd (smeth (d_AtOnce_key T) hr (by decide) tkF (sv 0) (acons (six hr (sv 1) sint) anil)))
  (sscons
  (sset 3 (sc_AtOnce_taken_out).nd (smeth (d_AtOnce_look T) hr (by decide) tkF (sv 0) (acons (six hr (sfld T.f_store (sv 0)) (smeth (d_AtOnce_cell_of T) hr (by decide) tkF (sv 0) (acons (sv 2) (acons (six hr (sv 1) sint) (acons sstr anil))))) anil)))
  (ssone
  (sret (sif (twd (wor (tval (scall (d_is_number T) hr (by decide) tkF (acons (sv 3) anil))) (wor1 (tcmp (oIn hr) oInS sstr (six hr (sv 2) sint) (by with_unfolding_all rfl))))) (sv 3) sint)))))⟩
theorem sc_fewer : FnScope n_fewer p_fewer (defScope s_fewer) := ⟨rfl, rfl, rfl, by decide +kernel, rfl, by decide +kernel, by decide +kernel⟩
theorem d_fewer (T : Txt K w mg) : Dfn P w K mg base "fewer" 1 m_fewer := dfn_of T.t_fewer sc_fewer fun f cd A outer s H E hr => ⟨_, by
  unfold b_fewer
  exact
  (ssone
  (sret (sop oAdd oAddS (ssl (sv 0) onone (osome sint)) (stup (acons (smt PySem.F.plainAttrs_str PySem.F.slot_str_join PySem.F.type_str_join mt_join oJoinS sstr (acons (by (refine' slc (own := [("sign", 2)]) fin_f rfl (sc_fewer).nd ?hi0 ?ok0 ?hg0 ?ht0 ?he0 ?hw0); (case hi0 => exact (iany (six hr (sv 0) sint))); (case ok0 => exact blkOk_by (own := [("sign", 2)]) (N := n_fewer) (sc := (defScope s_fewer)) (by decide +kernel)); (case hg0 => exact fun _ _ _ _ _ => sg_fix (gname (i := 2) (sc_fewer).nd) (by first | exact rfl | (dsimp only [Cx.blk] <;> exact rfl))); (case ht0 => exact fun _ _ _ _ _ => sts_fix (stsone (tcmp (oIn (by exact hr)) oInS (sv 2) (sv 1) (by with_unfolding_all rfl))) (by first | exact rfl | (dsimp only [Cx.blk] <;> exact rfl))); (case he0 => exact fun _ _ _ _ _ => se_fix (sv 2) (by first | exact rfl | (dsimp only [Cx.blk] <;> exact rfl))); (case hw0 => decide)) anil)) anil)))))⟩
theorem sc_narrowed : FnScope n_narrowed p_narrowed (defScope s_narrowed) := ⟨rfl, rfl, rfl, by decide +kernel, rfl, by decide +kernel, by decide +kernel⟩
theorem d_narrowed (T : Txt K w mg) : Dfn P w K mg base "narrowed" 1 m_narrowed := dfn_of T.t_narrowed sc_narrowed fun f cd A outer s H E hr => ⟨_, by
  unfold b_narrowed
  exact
  (sscons
  (sset 2 (sc_narrowed).nd (six hr (sv 0) sint))
  (sscons
  (sifS (twd (wor (tcmp op_lt oLtS (sv 1) sint (nomark _)) (wor (tcmp op_lt oLtS (sv 2) (six hr (sv 0) sint) (nomark _)) (wor1 (tcmp op_gt oGtS (sop oAdd oAddS (sv 2) (sv 1)) (six hr (sv 0) sint) (nomark _)))))) (ssone
  (sret snon)) ssnil)
  (ssone
  (sret (stup (acons (sglob T.g_KEY) (acons (sv 2) (acons (sop oAdd oAddS (sv 2) (sv 1)) (acons (sv 2) (acons (six hr (sv 0) sint) anil))))))))))⟩
theorem sc_moved : FnScope n_moved p_moved (defScope s_moved) := ⟨rfl, rfl, rfl, by decide +kernel, rfl, by decide +kernel, by decide +kernel⟩
theorem d_moved (T : Txt K w mg) : Dfn P w K mg base "moved" 2 m_moved := dfn_of T.t_moved sc_moved fun f cd A outer s H E hr => ⟨_, by
  unfold b_moved
  exact
  (sscons
  (sifS (tval (scall (d_is_number T) hr (by decide) tkF (acons (sv 0) anil))) (ssone
  (sret (scall (d_ring T) hr (by decide) tkF (acons (sop oAdd oAddS (sv 0) (sv 1)) anil)))) ssnil)
  (sscons
  (sifS (tcmp (oEq hr) oEqS (six hr (sv 0) sint) (sglob T.g_GATE) (nomark _)) (ssone
  (sret snon)) ssnil)
  (ssone
  (sret (sop oAdd oAddS (ssl (sv 0) onone (osome sint)) (stup (acons (scall (d_ring T) hr (by decide) tkF (acons (sop oAdd oAddS (six hr (sv 0) sint) (sv 1)) anil)) (acons (six hr (sv 0) sint) anil))))))))⟩
theorem sc_AtOnce_double : FnScope n_AtOnce_double p_AtOnce_double (defScope s_AtOnce_double) := ⟨rfl, rfl, rfl, by decide +kernel, rfl, by decide +kernel, by decide +kernel⟩
theorem d_AtOnce_double (T : Txt K w mg) : Mtd P w K mg base "AtOnce" "double" 4 m_AtOnce_double := mtd_of T.t_AtOnce_double sc_AtOnce_double fun f cd A outer s H E hr => ⟨_, by
  unfold b_AtOnce_double
  exact
  (sscons
  (spar2 (i := 3) (j := 4) rfl (sc_AtOnce_double).nd (acons (smeth (d_AtOnce_box T) hr (by decide) tkF (sv 0) (acons (six hr (sv 2) sint) anil)) (acons (smeth (d_AtOnce_box T) hr (by decide) tkF (sv 0) (acons (six hr (sv 2) sint) anil)) anil)))
  (sscons
  (sifS (tcmp (oEq hr) oEqS (sv 1) sstr (nomark _)) (ssone
  (sret (styp oInt oIntS T.z_int (acons (scmp (oEq hr) oEqS (sv 3) (sv 4) (nomark _)) anil)))) ssnil)
  (sscons
  (sifS (tcmp (oEq hr) oEqS (sv 1) sstr (nomark _)) (sscons
  (sexpr (scall (d_need T) hr (by decide) tkF (acons (sand (scall (d_is_number T) hr (by decide) tkF (acons (sv 3) anil)) (sone (scall (d_is_number T) hr (by decide) tkF (acons (sv 4) anil)))) (acons sstr anil))))
  (ssone
  (sret (styp oInt oIntS T.z_int (acons (scmp op_lt oLtS (sv 3) (sv 4) (nomark _)) anil))))) ssnil)
  (sscons
  (sexpr (scall (d_need T) hr (by decide) tkF (acons (sand (scmp op_lt oLtS (scall (d_kind_of T) hr (by decide) tkF (acons (sv 3) anil)) sint (nomark _)) (sone (scall (d_is_number T) hr (by decide) tkF (acons (sv 4) anil)))) (acons sstr anil))))
  (ssone
  (sret (scall (d_moved T) hr (by decide) tkF (acons (sv 3) (acons (sif (tcmp (oEq hr) oEqS (sv 1) sstr (nomark _)) (sv 4) (sop op_sub oSubS sint (sv 4))) anil)))))))))⟩
theorem sc_AtOnce_worth : FnScope n_AtOnce_worth p_AtOnce_worth (defScope s_AtOnce_worth) := ⟨rfl, rfl, rfl, by decide +kernel, rfl, by decide +kernel, by decide +kernel⟩
theorem d_AtOnce_worth (T : Txt K w mg) : Mtd P w K mg base "AtOnce" "worth" 6 m_AtOnce_worth := mtd_of T.t_AtOnce_worth sc_AtOnce_worth fun f cd A outer s H E hr => ⟨_, by
  unfold b_AtOnce_worth
  exact
  (sscons
  (sifS (tcmp (oEq hr) oEqS (sv 1) sstr (nomark _)) (ssone
  (sret (six hr (sv 2) sint))) ssnil)
  (sscons
  (sifS (tcmp (oEq hr) oEqS (sv 1) sstr (nomark _)) (ssone
  (sret (smeth0 (d_AtOnce_lent T) hr (by decide) tkF (sv 0)))) ssnil)
  (sscons
  (sifS (tcmp (oEq hr) oEqS (sv 1) sstr (nomark _)) (ssone
  (sret (smeth (d_AtOnce_taken_out T) hr (by decide) tkF (sv 0) (acons (sv 2) anil)))) ssnil)
  (sscons
  (sifS (tcmp (oEq hr) oEqS (sv 1) sstr (nomark _)) (sscons
  (sexpr (scall (d_need T) hr (by decide) tkF (acons (scmp op_lt oLtS (scall (d_kind_of T) hr (by decide) tkF (acons (smeth (d_AtOnce_box T) hr (by decide) tkF (sv 0) (acons (six hr (sv 2) sint) anil)) anil)) sint (nomark _)) (acons sstr anil))))
  (ssone
  (sret (stup (acons (sglob T.g_GATE) (acons (six hr (sv 2) sint) (acons (smeth (d_AtOnce_box T) hr (by decide) tkF (sv 0) (acons (six hr (sv 2) sint) anil)) anil))))))) ssnil)
  (sscons
  (sifS (tcmp (oEq hr) oEqS (sv 1) sstr (nomark _)) (ssone
  (sret (scall (d_fewer T) hr (by decide) tkF (acons (smeth (d_AtOnce_key T) hr (by decide) tkF (sv 0) (acons (six hr (sv 2) sint) anil)) (acons (six hr (sv 2) sint) anil))))) ssnil)
  (sscons
  (sifS (tcmp (oEq hr) oEqS (sv 1) sstr (nomark _)) (sscons
  (sset 3 (sc_AtOnce_worth).nd (scall (d_narrowed T) hr (by decide) tkF (acons (smeth (d_AtOnce_key T) hr (by decide) tkF (sv 0) (acons (six hr (sv 2) sint) anil)) (acons (smeth (d_AtOnce_number T) hr (by decide) tkF (sv 0) (acons (six hr (sv 2) sint) anil)) anil))))
  (sscons
  (sexpr (scall (d_need T) hr (by decide) tkF (acons (scmp op_notN oIsntS (sv 3) snon (nomark _)) (acons sstr anil))))
  (ssone
  (sret (sv 3))))) ssnil)
  (sscons
  (sifS (twd (wor (tcmp (oEq hr) oEqS (sv 1) sstr (nomark _)) (wor1 (tcmp (oEq hr) oEqS (sv 1) sstr (nomark _))))) (ssone
  (sret (sif (tcmp (oEq hr) oEqS (sv 1) sstr (nomark _)) (smeth (d_AtOnce_box T) hr (by decide) tkF (sv 0) (acons (six hr (sv 2) sint) anil)) (scall (d_kind_of T) hr (by decide) tkF (acons (smeth (d_AtOnce_box T) hr (by decide) tkF (sv 0) (acons (six hr (sv 2) sint) anil)) anil))))) ssnil)
  (ssone
  (sret (smeth (d_AtOnce_double T) hr (by decide) tkF (sv 0) (acons (sv 1) (acons (sv 2) anil))))))))))))⟩
theorem sc_AtOnce_done : FnScope n_AtOnce_done p_AtOnce_done (defScope s_AtOnce_done) := ⟨rfl, rfl, rfl, by decide +kernel, rfl, by decide +kernel, by decide +kernel⟩
theorem d_AtOnce_done (T : Txt K w mg) : Mtd P w K mg base "AtOnce" "done" 9 m_AtOnce_done := mtd_of T.t_AtOnce_done sc_AtOnce_done fun f cd A outer s H E hr => ⟨_, by
  unfold b_AtOnce_done
  exact
  (sscons
  (sset 2 (sc_AtOnce_done).nd (six hr (sv 1) sint))
  (sscons
  (sifS (tcmp (oEq hr) oEqS (sv 2) sstr (nomark _)) (ssone
  (sret (six hr (sv 1) sint))) ssnil)
  (sscons
  (sifS (tcmp (oEq hr) oEqS (sv 2) sstr (nomark _)) (ssone
  (sret (sif (tcmp (oNe hr) oNeS (smeth (d_AtOnce_box T) hr (by decide) tkF (sv 0) (acons (six hr (sv 1) sint) anil)) sint (nomark _)) (six hr (sv 1) sint) (sop oAdd oAddS (sfld T.f_here (sv 0)) sint)))) ssnil)
  (sscons
  (sifS (tcmp (oEq hr) oEqS (sv 2) sstr (nomark _)) (ssone
  (sret (smeth (d_AtOnce_entered T) hr (by decide) tkF (sv 0) (acons (six hr (sv 1) sint) anil)))) ssnil)
  (sscons
  (sifS (tcmp (oEq hr) oEqS (sv 2) sstr (nomark _)) (ssone
  (sexpr (smt PySem.F.plainAttrs_list PySem.F.slot_list_append PySem.F.type_list_append mt_append oAppS (sfld T.f_talk (sv 0)) (acons (smeth (d_AtOnce_number T) hr (by decide) tkF (sv 0) (acons (six hr (sv 1) sint) anil)) anil)))) (ssone
  (sifS (tcmp (oEq hr) oEqS (sv 2) sstr (nomark _)) (ssone
  (sexpr (smeth (d_AtOnce_put_in T) hr (by decide) tkF (sv 0) (acons (sv 1) anil)))) (ssone
  (sifS (tcmp (oEq hr) oEqS (sv 2) sstr (nomark _)) (ssone
  (sexpr (smeth (d_AtOnce_shut T) hr (by decide) tkF (sv 0) (acons (six hr (sv 1) sint) anil)))) (ssone
  (ssub hr (sfld T.f_held (sv 0)) (six hr (sv 1) sint) (smeth (d_AtOnce_worth T) hr (by decide) tkF (sv 0) (acons (sv 2) (acons (sv 1) anil))))))))))
  (ssone
  (sret (sop oAdd oAddS (sfld T.f_here (sv 0)) sint))))))))⟩
theorem sc_AtOnce_step : FnScope n_AtOnce_step p_AtOnce_step (defScope s_AtOnce_step) := ⟨rfl, rfl, rfl, by decide +kernel, rfl, by decide +kernel, by decide +kernel⟩
theorem d_AtOnce_step (T : Txt K w mg) : Mtd P w K mg base "AtOnce" "step" 10 m_AtOnce_step := mtd_of T.t_AtOnce_step sc_AtOnce_step fun f cd A outer s H E hr => ⟨_, by
  unfold b_AtOnce_step
  exact
  (sscons
  (sset 1 (sc_AtOnce_step).nd (six hr (sfld T.f_program (sv 0)) (sfld T.f_here (sv 0))))
  (sscons
  (sfldS T.f_steps (sv 0) (sop oAdd oAddS (sfld T.f_steps (sv 0)) sint))
  (sscons
  (sifS (tcmp (oEq hr) oEqS (six hr (sv 1) sint) sstr (nomark _)) (sscons
  (sfldS T.f_end (sv 0) (sglob T.g_END))
  (ssone
  sretN)) ssnil)
  (sscons
  (by (refine' stryW (c := "Stop") (i := 2) (mb := (mFldS cs_here "here" (mv 0) (mMeth "AtOnce" "done" m_AtOnce_done (mv 0) (mCons (mv 1) mNil)))) rfl (sc_AtOnce_step).nd T.k_Stop_word T.f_end tkF ?hbT ?hoT ?hhT); (case hbT => exact fun Wz pnz xez htk hpf => ss_fixS (ssone   (sfldS T.f_here (sv 0) (smeth (d_AtOnce_done T) (by exact hr) (by decide) htk (sv 0) (acons (sv 1) anil)))) (by first | exact rfl | (dsimp only [Cx.tr] <;> exact rfl))); (case hoT => exact fun _ _ _ => se_fix (sv 0) (by first | exact rfl | (dsimp only [Cx.suite] <;> exact rfl))); (case hhT => exact fun _ _ _ => se_fix (sfld T.f_here (sv 0)) (by first | exact rfl | (dsimp only [Cx.suite] <;> exact rfl))))
  (ssone
  (sifS (tcmp (oEq hr) oEqS (sfld T.f_here (sv 0)) (sbuilt oLen oLenS T.z_len (acons (sfld T.f_program (sv 0)) anil)) (nomark _)) (ssone
  (sfldS T.f_end (sv 0) (sglob T.g_END))) ssnil))))))⟩
theorem sc_run : FnScope n_run p_run (defScope s_run) := ⟨rfl, rfl, rfl, by decide +kernel, rfl, by decide +kernel, by decide +kernel⟩
theorem d_run (T : Txt K w mg) : Dfn P w K mg base "run" 11 m_run := dfn_of T.t_run sc_run fun f cd A outer s H E hr => ⟨_, by
  unfold b_run
  exact
  (sscons
  (sexpr (scall (d_need_program T) hr (by decide) tkF (acons (sv 0) anil)))
  (sscons
  (sexpr (scall (d_need_state T) hr (by decide) tkF (acons (sbuilt oLen oLenS T.z_len (acons (sv 0) anil)) (acons (sv 1) (acons (sv 2) (acons (sv 3) anil))))))
  (sscons
  (sexpr (scall (d_need_fuel T) hr (by decide) tkF (acons (sv 4) anil)))
  (sscons
  (sset 5 (sc_run).nd (smake (d_AtOnce___init__ T) hr (by decide) tkF (acons (sv 0) (acons (sv 1) (acons (sv 2) (acons (sv 3) anil))))))
  (sscons
  (swh fuelN psF (twd (wand (tcmp op_isN oIsS (sfld T.f_end (sv 5)) snon (nomark _)) (wand1 (tcmp op_lt oLtS (sfld T.f_steps (sv 5)) (sv 4) (nomark _))))) (ssone
  (sexpr (smeth0 (d_AtOnce_step T) hr (by decide) tkF (sv 5)))))
  (ssone
  (sret (stup (acons (sfld T.f_talk (sv 5)) (acons (sif (tcmp op_isN oIsS (sfld T.f_end (sv 5)) snon (nomark _)) (sglob T.g_LONG) (sfld T.f_end (sv 5))) (acons (sfld T.f_steps (sv 5)) anil)))))))))))⟩
theorem sc__law_alike : FnScope n__law_alike p__law_alike (defScope s__law_alike) := ⟨rfl, rfl, rfl, by decide +kernel, rfl, by decide +kernel, by decide +kernel⟩
theorem d__law_alike (T : Txt K w mg) : ∀ n : Nat, Dfn P w K mg base "_law_alike" (0 + n) (m__law_alike n)
  | 0 => dfn_bad T.t__law_alike
  | n + 1 => by
    have dg := d__law_alike T n
    exact dfn_of T.t__law_alike sc__law_alike (fun f cd A outer s H E hr => ⟨_, by
  unfold b__law_alike
  exact
  (sscons
  (sifS (twd (wor (tval (sisi (T := "tuple") (by decide) T.z_isinstance T.z_tuple (sv 1))) (wor1 (tval (sisi (T := "list") (by decide) T.z_isinstance T.z_list (sv 1)))))) (sscons
  (sifS (twd (wor (tcmp (oNe hr) oNeS (sisi (T := "tuple") (by decide) T.z_isinstance T.z_tuple (sv 0)) (sisi (T := "tuple") (by decide) T.z_isinstance T.z_tuple (sv 1)) (nomark _)) (wor1 (tnot (tval (sisi2 (T := "tuple") (U := "list") (by decide) (by decide) T.z_isinstance T.z_tuple T.z_list (sv 0))))))) (ssone
  (sret sbl)) ssnil)
  (sscons
  (sifS (tcmp (oNe hr) oNeS (sbuilt oLen oLenS T.z_len (acons (sv 0) anil)) (sbuilt oLen oLenS T.z_len (acons (sv 1) anil)) (nomark _)) (ssone
  (sret sbl)) ssnil)
  (ssone
  (sret (scmp (oEq hr) oEqS (by (refine' slc (own := [("_law_k", 2)]) fin_f rfl (sc__law_alike).nd ?hi0 ?ok0 ?hg0 ?ht0 ?he0 ?hw0); (case hi0 => exact (irng1 T.z_range (acons (sbuilt oLen oLenS T.z_len (acons (sv 1) anil)) anil))); (case ok0 => exact blkOk_by (own := [("_law_k", 2)]) (N := n__law_alike) (sc := (defScope s__law_alike)) (by decide +kernel)); (case hg0 => exact fun _ _ _ _ _ => sg_fix (gname (i := 2) (sc__law_alike).nd) (by first | exact rfl | (dsimp only [Cx.blk] <;> exact rfl))); (case ht0 => exact fun _ _ _ _ _ => sts_fix (stsone (tnot (tval (scall dg (by exact hr) (Nat.le_refl _) takes0 (acons (six (by exact hr) (sv 0) (sv 2)) (acons (six (by exact hr) (sv 1) (sv 2)) anil)))))) (by first | exact rfl | (dsimp only [Cx.blk] <;> exact rfl))); (case he0 => exact fun _ _ _ _ _ => se_fix (sv 2) (by first | exact rfl | (dsimp only [Cx.blk] <;> exact rfl))); (case hw0 => decide)) (slst anil) (nomark _)))))) ssnil)
  (sscons
  (sifS (twd (wor (tcmp op_isN oIsS (sv 1) snon (nomark _)) (wor1 (tcmp op_isN oIsS (sv 0) snon (nomark _))))) (ssone
  (sret (sand (scmp op_isN oIsS (sv 1) snon (nomark _)) (sone (scmp op_isN oIsS (sv 0) snon (nomark _)))))) ssnil)
  (sscons
  (sifS (twd (wor (tval (sisi (T := "bool") (by decide) T.z_isinstance T.z_bool (sv 1))) (wor1 (tval (sisi (T := "bool") (by decide) T.z_isinstance T.z_bool (sv 0)))))) (ssone
  (sret (sand (sisi (T := "bool") (by decide) T.z_isinstance T.z_bool (sv 1)) (sand (sisi (T := "bool") (by decide) T.z_isinstance T.z_bool (sv 0)) (sone (scmp (oEq hr) oEqS (sv 0) (sv 1) (nomark _))))))) ssnil)
  (sscons
  (sifS (tval (sisi (T := "str") (by decide) T.z_isinstance T.z_str (sv 1))) (ssone
  (sret (sand (sisi (T := "str") (by decide) T.z_isinstance T.z_str (sv 0)) (sone (scmp (oEq hr) oEqS (sv 0) (sv 1) (nomark _)))))) ssnil)
  (ssone
  (sret (sand (sisi (T := "int") (by decide) T.z_isinstance T.z_int (sv 0)) (sone (scmp (oEq hr) oEqS (sv 0) (sv 1) (nomark _))))))))))⟩)
theorem sc_Lazy___init__ : FnScope n_Lazy___init__ p_Lazy___init__ (defScope s_Lazy___init__) := ⟨rfl, rfl, rfl, by decide +kernel, rfl, by decide +kernel, by decide +kernel⟩
theorem d_Lazy___init__ (T : Txt K w mg) : Mkr P w K mg base "Lazy" 2 m_Lazy___init__ := mkr_of T.t_Lazy___init__ sc_Lazy___init__ fun f cd A outer s H E hr => ⟨_, by
  unfold b_Lazy___init__
  exact
  (sscons
  (sexpr (scfn (d_Rows___init__ T) hr (by decide) tkF (acons (sv 0) (acons (sv 1) (acons (sv 2) (acons (sv 3) (acons (sv 4) anil)))))))
  (sscons
  (sfldS T.f_state (sv 0) (styp (oDictP rfl) oDictPNS T.z_dict (acons (by (refine' slc (own := [("begin", 5)]) fin_f rfl (sc_Lazy___init__).nd ?hi0 ?ok0 ?hg0 ?ht0 ?he0 ?hw0); (case hi0 => exact (irng3 T.z_range (acons (sfld T.f_first (sv 0)) (acons (sglob T.g_CELLS) (acons (sglob T.g_ROOM) anil))))); (case ok0 => exact blkOk_by (own := [("begin", 5)]) (N := n_Lazy___init__) (sc := (defScope s_Lazy___init__)) (by decide +kernel)); (case hg0 => exact fun _ _ _ _ _ => sg_fix (gname (i := 5) (sc_Lazy___init__).nd) (by first | exact rfl | (dsimp only [Cx.blk] <;> exact rfl))); (case ht0 => exact fun _ _ _ _ _ => sts_fix stsnil (by first | exact rfl | (dsimp only [Cx.blk] <;> exact rfl))); (case he0 => exact fun _ _ _ _ _ => se_fix (stup (acons (sv 5) (acons sstr anil))) (by first | exact rfl | (dsimp only [Cx.blk] <;> exact rfl))); (case hw0 => decide)) anil)))
  (sscons
  (sfldS T.f_hand (sv 0) sint)
  (ssone
  (sfldS T.f_order (sv 0) (slstN anil))))))⟩
theorem sc_Machine___init__ : FnScope n_Machine___init__ p_Machine___init__ (defScope s_Machine___init__) := ⟨rfl, rfl, rfl, by decide +kernel, rfl, by decide +kernel, by decide +kernel⟩
theorem d_Machine___init__ (T : Txt K w mg) : Mkr P w K mg base "Machine" 8 m_Machine___init__ := mkr_of T.t_Machine___init__ sc_Machine___init__ fun f cd A outer s H E hr => ⟨_, by
  unfold b_Machine___init__
  exact
  (sscons
  (sexpr (scall (d_need_program T) hr (by decide) tkF (acons (sv 1) anil)))
  (sscons
  (sexpr (scall (d_need_state T) hr (by decide) tkF (acons (sbuilt oLen oLenS T.z_len (acons (sv 1) anil)) (acons (sv 2) (acons (sv 3) (acons (sv 4) anil))))))
  (ssone
  (sfldS T.f_lazy (sv 0) (smake (d_Lazy___init__ T) hr (by decide) tkF (acons (sv 1) (acons (sv 2) (acons (sv 3) (acons (sv 4) anil)))))))))⟩
theorem sc_Lazy_shut_ones : FnScope n_Lazy_shut_ones p_Lazy_shut_ones (defScope s_Lazy_shut_ones) := ⟨rfl, rfl, rfl, by decide +kernel, rfl, by decide +kernel, by decide +kernel⟩
theorem d_Lazy_shut_ones (T : Txt K w mg) : Mtd P w K mg base "Lazy" "shut_ones" 1 m_Lazy_shut_ones := mtd_of T.t_Lazy_shut_ones sc_Lazy_shut_ones fun f cd A outer s H E hr => ⟨_, by
  unfold b_Lazy_shut_ones
  exact
  (ssone
  (sret (by (refine' slc (own := [("begin", 1)]) fin_f rfl (sc_Lazy_shut_ones).nd ?hi0 ?ok0 ?hg0 ?ht0 ?he0 ?hw0); (case hi0 => exact (iany (sbuilt (oSrtK rfl) oSrtKS T.z_sorted (acons (sfld T.f_state (sv 0)) anil)))); (case ok0 => exact blkOk_by (own := [("begin", 1)]) (N := n_Lazy_shut_ones) (sc := (defScope s_Lazy_shut_ones)) (by decide +kernel)); (case hg0 => exact fun _ _ _ _ _ => sg_fix (gname (i := 1) (sc_Lazy_shut_ones).nd) (by first | exact rfl | (dsimp only [Cx.blk] <;> exact rfl))); (case ht0 => exact fun _ _ _ _ _ => sts_fix (stsone (tcmp (oIn (by exact hr)) oInS (six (by exact hr) (sfld T.f_state (sv 0)) (sv 1)) (stup (acons sstr (acons sstr anil))) (by with_unfolding_all rfl))) (by first | exact rfl | (dsimp only [Cx.blk] <;> exact rfl))); (case he0 => exact fun _ _ _ _ _ => se_fix (sv 1) (by first | exact rfl | (dsimp only [Cx.blk] <;> exact rfl))); (case hw0 => decide))))⟩
theorem sc_Lazy_look : FnScope n_Lazy_look p_Lazy_look (defScope s_Lazy_look) := ⟨rfl, rfl, rfl, by decide +kernel, rfl, by decide +kernel, by decide +kernel⟩
theorem d_Lazy_look (T : Txt K w mg) : Mtd P w K mg base "Lazy" "look" 7 m_Lazy_look := mtd_of T.t_Lazy_look sc_Lazy_look fun f cd A outer s H E hr => ⟨_, by
  unfold b_Lazy_look
  exact
  (ssone
  (sret (scall (d_without T) hr (by decide) tkF (acons (sv 1) (acons (smeth0 (d_Lazy_shut_ones T) hr (by decide) tkF (sv 0)) anil)))))⟩
theorem sc_Lazy_box : FnScope n_Lazy_box p_Lazy_box (defScope s_Lazy_box) := ⟨rfl, rfl, rfl, by decide +kernel, rfl, by decide +kernel, by decide +kernel⟩
theorem d_Lazy_box (T : Txt K w mg) : Mtd P w K mg base "Lazy" "box" 8 m_Lazy_box := mtd_of T.t_Lazy_box sc_Lazy_box fun f cd A outer s H E hr => ⟨_, by
  unfold b_Lazy_box
  exact
  (ssone
  (sret (smeth (d_Lazy_look T) hr (by decide) tkF (sv 0) (acons (six hr (sfld T.f_held (sv 0)) (sv 1)) anil))))⟩
theorem sc_Lazy_entered : FnScope n_Lazy_entered p_Lazy_entered (defScope s_Lazy_entered) := ⟨rfl, rfl, rfl, by decide +kernel, rfl, by decide +kernel, by decide +kernel⟩
theorem d_Lazy_entered (T : Txt K w mg) : Mtd P w K mg base "Lazy" "entered" 9 m_Lazy_entered := mtd_of T.t_Lazy_entered sc_Lazy_entered fun f cd A outer s H E hr => ⟨_, by
  unfold b_Lazy_entered
  exact
  (sscons
  (sset 2 (sc_Lazy_entered).nd (smeth (d_Lazy_box T) hr (by decide) tkF (sv 0) (acons (sv 1) anil)))
  (sscons
  (sexpr (scall (d_need T) hr (by decide) tkF (acons (sand (scmp (oEq hr) oEqS (scall (d_kind_of T) hr (by decide) tkF (acons (sv 2) anil)) sint (nomark _)) (sone (scmp op_lt oLtS (scall (d_kind_of T) hr (by decide) tkF (acons (smeth (d_Lazy_box T) hr (by decide) tkF (sv 0) (acons (sop op_sub oSubS (sglob T.g_BOXES_words) sint) anil)) anil)) sint (nomark _)))) (acons sstr anil))))
  (sscons
  (sset 3 (sc_Lazy_entered).nd (stup (acons (sglob T.g_GATE) (acons (sop oAdd oAddS (sfld T.f_here (sv 0)) sint) (acons (smeth (d_Lazy_box T) hr (by decide) tkF (sv 0) (acons (sop op_sub oSubS (sglob T.g_BOXES_words) sint) anil)) anil)))))
  (sscons
  (ssub hr (sfld T.f_held (sv 0)) (sop op_sub oSubS (sglob T.g_BOXES_words) sint) (six hr (sv 2) sint))
  (sscons
  (ssub hr (sfld T.f_held (sv 0)) (sop op_sub oSubS (sglob T.g_BOXES_words) sint) (sv 3))
  (ssone
  (sret (six hr (sv 2) sint))))))))⟩
theorem sc_Lazy_number : FnScope n_Lazy_number p_Lazy_number (defScope s_Lazy_number) := ⟨rfl, rfl, rfl, by decide +kernel, rfl, by decide +kernel, by decide +kernel⟩
theorem d_Lazy_number (T : Txt K w mg) : Mtd P w K mg base "Lazy" "number" 9 m_Lazy_number := mtd_of T.t_Lazy_number sc_Lazy_number fun f cd A outer s H E hr => ⟨_, by
  unfold b_Lazy_number
  exact
  (sscons
  (sset 2 (sc_Lazy_number).nd (smeth (d_Lazy_box T) hr (by decide) tkF (sv 0) (acons (sv 1) anil)))
  (sscons
  (sexpr (scall (d_need T) hr (by decide) tkF (acons (scall (d_is_number T) hr (by decide) tkF (acons (sv 2) anil)) (acons sstr anil))))
  (ssone
  (sret (sv 2)))))⟩
theorem sc_Lazy_key : FnScope n_Lazy_key p_Lazy_key (defScope s_Lazy_key) := ⟨rfl, rfl, rfl, by decide +kernel, rfl, by decide +kernel, by decide +kernel⟩
theorem d_Lazy_key (T : Txt K w mg) : Mtd P w K mg base "Lazy" "key" 9 m_Lazy_key := mtd_of T.t_Lazy_key sc_Lazy_key fun f cd A outer s H E hr => ⟨_, by
  unfold b_Lazy_key
  exact
  (sscons
  (sset 2 (sc_Lazy_key).nd (smeth (d_Lazy_box T) hr (by decide) tkF (sv 0) (acons (sv 1) anil)))
  (sscons
  (sexpr (scall (d_need T) hr (by decide) tkF (acons (scmp (oEq hr) oEqS (scall (d_kind_of T) hr (by decide) tkF (acons (sv 2) anil)) sint (nomark _)) (acons sstr anil))))
  (ssone
  (sret (sv 2)))))⟩
theorem sc_Lazy_cell_of : FnScope n_Lazy_cell_of p_Lazy_cell_of (defScope s_Lazy_cell_of) := ⟨rfl, rfl, rfl, by decide +kernel, rfl, by decide +kernel, by decide +kernel⟩
theorem d_Lazy_cell_of (T : Txt K w mg) : Mtd P w K mg base "Lazy" "cell_of" 4 m_Lazy_cell_of := mtd_of T.t_Lazy_cell_of sc_Lazy_cell_of fun f cd A outer s H E hr => ⟨_, by
  unfold b_Lazy_cell_of
  exact
  (sscons
  (sexpr (scall (d_need T) hr (by decide) tkF (acons (scmp (oIn hr) oInS (sv 3) (six hr (sv 1) sint) (by with_unfolding_all rfl)) (acons sstr anil))))
  (sscons
  (sset 4 (sc_Lazy_cell_of).nd (sop oAdd oAddS (six hr (sv 1) sint) (sv 2)))
  (sscons
  (sexpr (scall (d_need T) hr (by decide) tkF (acons (schain op_le op_lt oLeS oLtS (six hr (sv 1) sint) (sv 4) (six hr (sv 1) sint)) (acons sstr anil))))
  (ssone
  (sret (sv 4))))))⟩
theorem sc_Lazy_put_in : FnScope n_Lazy_put_in p_Lazy_put_in (defScope s_Lazy_put_in) := ⟨rfl, rfl, rfl, by decide +kernel, rfl, by decide +kernel, by decide +kernel⟩
theorem d_Lazy_put_in (T : Txt K w mg) : Mtd P w K mg base "Lazy" "put_in" 10 m_Lazy_put_in := mtd_of T.t_Lazy_put_in sc_Lazy_put_in fun f cd A outer s H E hr => ⟨_, by
  unfold b_Lazy_put_in
  exact
  (sscons
  (sset 2 (sc_Lazy_put_in).nd (smeth (d_Lazy_key T) hr (by decide) tkF (sv 0) (acons (six hr (sv 1) sint) anil)))
  (sscons
  (sset 3 (sc_Lazy_put_in).nd (smeth (d_Lazy_box T) hr (by decide) tkF (sv 0) (acons (six hr (sv 1) sint) anil)))
  (sscons
  (sset 4 (sc_Lazy_put_in).nd (smeth (d_Lazy_cell_of T) hr (by decide) tkF (sv 0) (acons (sv 2) (acons (six hr (sv 1) sint) (acons sstr anil)))))
  (sscons
  (sexpr (scall (d_need T) hr (by decide) tkF (acons (sor (scall (d_is_number T) hr (by decide) tkF (acons (sv 3) anil)) (sone (scmp (oIn hr) oInS sstr (six hr (sv 2) sint) (by with_unfolding_all rfl)))) (acons sstr anil))))
  (ssone
  (ssub hr (sfld T.f_store (sv 0)) (sv 4) (sv 3)))))))⟩
theorem sc_Lazy_take_room : FnScope n_Lazy_take_room p_Lazy_take_room (defScope s_Lazy_take_room) := ⟨rfl, rfl, rfl, by decide +kernel, rfl, by decide +kernel, by decide +kernel⟩
theorem d_Lazy_take_room (T : Txt K w mg) : Mtd P w K mg base "Lazy" "take_room" 1 m_Lazy_take_room := mtd_of T.t_Lazy_take_room sc_Lazy_take_room fun f cd A outer s H E hr => ⟨_, by
  unfold b_Lazy_take_room
  exact
  (sscons
  (sifS (tcmp (oNe hr) oNeS (sget1 hr (sfld T.f_state (sv 0)) (sv 1)) sstr (nomark _)) (ssone
  (sret sbl)) ssnil)
  (sscons
  (ssub hr (sfld T.f_state (sv 0)) (sv 1) sstr)
  (sscons
  (sfldS T.f_order (sv 0) (by (refine' slc (own := [("room", 2)]) fin_n rfl (sc_Lazy_take_room).nd ?hi0 ?ok0 ?hg0 ?ht0 ?he0 ?hw0); (case hi0 => exact (iany (sfld T.f_order (sv 0)))); (case ok0 => exact blkOk_by (own := [("room", 2)]) (N := n_Lazy_take_room) (sc := (defScope s_Lazy_take_room)) (by decide +kernel)); (case hg0 => exact fun _ _ _ _ _ => sg_fix (gname (i := 2) (sc_Lazy_take_room).nd) (by first | exact rfl | (dsimp only [Cx.blk] <;> exact rfl))); (case ht0 => exact fun _ _ _ _ _ => sts_fix (stsone (tcmp (oNe (by exact hr)) oNeS (sv 2) (sv 1) (nomark _))) (by first | exact rfl | (dsimp only [Cx.blk] <;> exact rfl))); (case he0 => exact fun _ _ _ _ _ => se_fix (sv 2) (by first | exact rfl | (dsimp only [Cx.blk] <;> exact rfl))); (case hw0 => decide)))
  (ssone
  (sret sbl)))))⟩
theorem sc_Lazy_shut : FnScope n_Lazy_shut p_Lazy_shut (defScope s_Lazy_shut) := ⟨rfl, rfl, rfl, by decide +kernel, rfl, by decide +kernel, by decide +kernel⟩
theorem d_Lazy_shut (T : Txt K w mg) : Mtd P w K mg base "Lazy" "shut" 10 m_Lazy_shut := mtd_of T.t_Lazy_shut sc_Lazy_shut fun f cd A outer s H E hr => ⟨_, by
  unfold b_Lazy_shut
  exact
  (sscons
  (sset 2 (sc_Lazy_shut).nd (smeth (d_Lazy_key T) hr (by decide) tkF (sv 0) (acons (sv 1) anil)))
  (sscons
  (sexpr (scall (d_need T) hr (by decide) tkF (acons (scmp (oIn hr) oInS sstr (six hr (sv 2) sint) (by with_unfolding_all rfl)) (acons sstr anil))))
  (ssone
  (sexpr (scall (d_need T) hr (by decide) tkF (acons (sand (scmp (oEq hr) oEqS (sop op_sub oSubS (six hr (sv 2) sint) (six hr (sv 2) sint)) (sglob T.g_ROOM) (nomark _)) (sone (smeth (d_Lazy_take_room T) hr (by decide) tkF (sv 0) (acons (six hr (sv 2) sint) anil)))) (acons sstr anil)))))))⟩
theorem sc_Lazy_free_rooms : FnScope n_Lazy_free_rooms p_Lazy_free_rooms (defScope s_Lazy_free_rooms) := ⟨rfl, rfl, rfl, by decide +kernel, rfl, by decide +kernel, by decide +kernel⟩
theorem d_Lazy_free_rooms (T : Txt K w mg) : Mtd P w K mg base "Lazy" "free_rooms" 1 m_Lazy_free_rooms := mtd_of T.t_Lazy_free_rooms sc_Lazy_free_rooms fun f cd A outer s H E hr => ⟨_, by
  unfold b_Lazy_free_rooms
  exact
  (ssone
  (sret (by (refine' slc (own := [("begin", 1)]) fin_f rfl (sc_Lazy_free_rooms).nd ?hi0 ?ok0 ?hg0 ?ht0 ?he0 ?hw0); (case hi0 => exact (iany (sbuilt (oSrtK rfl) oSrtKS T.z_sorted (acons (sfld T.f_state (sv 0)) anil)))); (case ok0 => exact blkOk_by (own := [("begin", 1)]) (N := n_Lazy_free_rooms) (sc := (defScope s_Lazy_free_rooms)) (by decide +kernel)); (case hg0 => exact fun _ _ _ _ _ => sg_fix (gname (i := 1) (sc_Lazy_free_rooms).nd) (by first | exact rfl | (dsimp only [Cx.blk] <;> exact rfl))); (case ht0 => exact fun _ _ _ _ _ => sts_fix (stsone (tcmp (oEq (by exact hr)) oEqS (six (by exact hr) (sfld T.f_state (sv 0)) (sv 1)) sstr (nomark _))) (by first | exact rfl | (dsimp only [Cx.blk] <;> exact rfl))); (case he0 => exact fun _ _ _ _ _ => se_fix (sv 1) (by first | exact rfl | (dsimp only [Cx.blk] <;> exact rfl))); (case hw0 => decide))))⟩
theorem sc_Lazy_begin_sweep : FnScope n_Lazy_begin_sweep p_Lazy_begin_sweep (defScope s_Lazy_begin_sweep) := ⟨rfl, rfl, rfl, by decide +kernel, rfl, by decide +kernel, by decide +kernel⟩
theorem d_Lazy_begin_sweep (T : Txt K w mg) : Mtd P w K mg base "Lazy" "begin_sweep" 1 m_Lazy_begin_sweep := mtd_of T.t_Lazy_begin_sweep sc_Lazy_begin_sweep fun f cd A outer s H E hr => ⟨_, by
  unfold b_Lazy_begin_sweep
  exact
  (ssone
  (sfor psF rfl (iany (styp (oList rfl) oListS T.z_list (acons (sfld T.f_state (sv 0)) anil))) (gname (i := 1) (sc_Lazy_begin_sweep).nd) (ssone
  (sifS (tcmp (oEq hr) oEqS (six hr (sfld T.f_state (sv 0)) (sv 1)) sstr (nomark _)) (ssone
  (ssub hr (sfld T.f_state (sv 0)) (sv 1) sstr)) ssnil))))⟩
theorem sc_Lazy_end_sweep : FnScope n_Lazy_end_sweep p_Lazy_end_sweep (defScope s_Lazy_end_sweep) := ⟨rfl, rfl, rfl, by decide +kernel, rfl, by decide +kernel, by decide +kernel⟩
theorem d_Lazy_end_sweep (T : Txt K w mg) : Mtd P w K mg base "Lazy" "end_sweep" 1 m_Lazy_end_sweep := mtd_of T.t_Lazy_end_sweep sc_Lazy_end_sweep fun f cd A outer s H E hr => ⟨_, by
  unfold b_Lazy_end_sweep
  exact
  (ssone
  (sfor psF rfl (iany (styp (oList rfl) oListS T.z_list (acons (sfld T.f_state (sv 0)) anil))) (gname (i := 1) (sc_Lazy_end_sweep).nd) (ssone
  (sifS (tcmp (oEq hr) oEqS (six hr (sfld T.f_state (sv 0)) (sv 1)) sstr (nomark _)) (ssone
  (ssub hr (sfld T.f_state (sv 0)) (sv 1) sstr)) ssnil))))⟩
theorem sc_Lazy_sweep : FnScope n_Lazy_sweep p_Lazy_sweep (defScope s_Lazy_sweep) := ⟨rfl, rfl, rfl, by decide +kernel, rfl, by decide +kernel, by decide +kernel⟩
theorem d_Lazy_sweep (T : Txt K w mg) : Mtd P w K mg base "Lazy" "sweep" 8 m_Lazy_sweep := mtd_of T.t_Lazy_sweep sc_Lazy_sweep fun f cd A outer s H E hr => ⟨_, by
  unfold b_Lazy_sweep
  exact
  (ssone
  (sfor psF rfl (irng1 T.z_range (acons (sv 1) anil)) (gname (i := 2) (sc_Lazy_sweep).nd) (sscons
  (sifS (tcmp (oEq hr) oEqS (sfld T.f_hand (sv 0)) sint (nomark _)) (ssone
  (sexpr (smeth0 (d_Lazy_begin_sweep T) hr (by decide) tkF (sv 0)))) ssnil)
  (sscons
  (sifS (tcmp op_lt oLtS (sfld T.f_hand (sv 0)) (sglob T.g_CELLS) (nomark _)) (ssone
  (ssub hr (sfld T.f_store (sv 0)) (sfld T.f_hand (sv 0)) (smeth (d_Lazy_look T) hr (by decide) tkF (sv 0) (acons (six hr (sfld T.f_store (sv 0)) (sfld T.f_hand (sv 0))) anil)))) (ssone
  (ssub hr (sfld T.f_held (sv 0)) (sop op_sub oSubS (sfld T.f_hand (sv 0)) (sglob T.g_CELLS)) (smeth (d_Lazy_look T) hr (by decide) tkF (sv 0) (acons (six hr (sfld T.f_held (sv 0)) (sop op_sub oSubS (sfld T.f_hand (sv 0)) (sglob T.g_CELLS))) anil)))))
  (sscons
  (sfldS T.f_hand (sv 0) (sop op_mod oModS (sop oAdd oAddS (sfld T.f_hand (sv 0)) sint) (sglob T.g_ALL)))
  (ssone
  (sifS (tcmp (oEq hr) oEqS (sfld T.f_hand (sv 0)) sint (nomark _)) (ssone
  (sexpr (smeth0 (d_Lazy_end_sweep T) hr (by decide) tkF (sv 0)))) ssnil)))))))⟩
theorem sc_Lazy_give_room : FnScope n_Lazy_give_room p_Lazy_give_room (defScope s_Lazy_give_room) := ⟨rfl, rfl, rfl, by decide +kernel, rfl, by decide +kernel, by decide +kernel⟩
theorem d_Lazy_give_room (T : Txt K w mg) : Mtd P w K mg base "Lazy" "give_room" 9 m_Lazy_give_room := mtd_of T.t_Lazy_give_room sc_Lazy_give_room fun f cd A outer s H E hr => ⟨_, by
  unfold b_Lazy_give_room
  exact
  (sscons
  (sfor psF rfl (irng1 T.z_range (acons sint anil)) (gname (i := 1) (sc_Lazy_give_room).nd) (ssone
  (sifS (tcmp (oEq hr) oEqS (smeth0 (d_Lazy_free_rooms T) hr (by decide) tkF (sv 0)) (slst anil) (nomark _)) (ssone
  (sexpr (smeth (d_Lazy_sweep T) hr (by decide) tkF (sv 0) (acons (sop op_sub oSubS (sglob T.g_ALL) (sfld T.f_hand (sv 0))) anil)))) ssnil)))
  (sscons
  (sifS (tcmp (oEq hr) oEqS (smeth0 (d_Lazy_free_rooms T) hr (by decide) tkF (sv 0)) (slst anil) (nomark _)) (ssone
  (sret snon)) ssnil)
  (sscons
  (sset 2 (sc_Lazy_give_room).nd (six hr (smeth0 (d_Lazy_free_rooms T) hr (by decide) tkF (sv 0)) sint))
  (sscons
  (ssub hr (sfld T.f_state (sv 0)) (sv 2) sstr)
  (sscons
  (sexpr (smt PySem.F.plainAttrs_list PySem.F.slot_list_append PySem.F.type_list_append mt_append oAppS (sfld T.f_order (sv 0)) (acons (sv 2) anil)))
  (ssone
  (sret (sv 2))))))))⟩
theorem sc_Lazy_lent : FnScope n_Lazy_lent p_Lazy_lent (defScope s_Lazy_lent) := ⟨rfl, rfl, rfl, by decide +kernel, rfl, by decide +kernel, by decide +kernel⟩
theorem d_Lazy_lent (T : Txt K w mg) : Mtd P w K mg base "Lazy" "lent" 10 m_Lazy_lent := mtd_of T.t_Lazy_lent sc_Lazy_lent fun f cd A outer s H E hr => ⟨_, by
  unfold b_Lazy_lent
  exact
  (sscons
  (sset 1 (sc_Lazy_lent).nd (smeth0 (d_Lazy_give_room T) hr (by decide) tkF (sv 0)))
  (sscons
  (sifS (tcmp op_isN oIsS (sv 1) snon (nomark _)) (ssone
  (sret sint)) ssnil)
  (sscons
  (sfor psF rfl (irng2 T.z_range (acons (sv 1) (acons (sop oAdd oAddS (sv 1) (sglob T.g_ROOM)) anil))) (gname (i := 2) (sc_Lazy_lent).nd) (ssone
  (ssub hr (sfld T.f_store (sv 0)) (sv 2) sint)))
  (ssone
  (sret (stup (acons (sglob T.g_KEY) (acons (sv 1) (acons (sop oAdd oAddS (sv 1) (sglob T.g_ROOM)) (acons (sv 1) (acons (sglob T.g_RIGHTS) anil)))))))))))⟩
theorem sc_Lazy_taken_out : FnScope n_Lazy_taken_out p_Lazy_taken_out (defScope s_Lazy_taken_out) := ⟨rfl, rfl, rfl, by decide +kernel, rfl, by decide +kernel, by decide +kernel⟩
theorem d_Lazy_taken_out (T : Txt K w mg) : Mtd P w K mg base "Lazy" "taken_out" 10 m_Lazy_taken_out := mtd_of T.t_Lazy_taken_out sc_Lazy_taken_out fun f cd A outer s H E hr => ⟨_, by
  unfold b_Lazy_taken_out
  exact
  (sscons
  (sset 2 (sc_Lazy_taken_out).nd (smeth (d_Lazy_key T) hr (by decide) tkF (sv 0) (acons (six hr (sv 1) sint) anil)))
  (sscons
  (sset 3 (sc_Lazy_taken_out).nd (smeth (d_Lazy_look T) hr (by decide) tkF (sv 0) (acons (six hr (sfld T.f_store (sv 0)) (smeth (d_Lazy_cell_of T) hr (by decide) tkF (sv 0) (acons (sv 2) (acons (six hr (sv 1) sint) (acons sstr anil))))) anil)))
  (ssone
  (sret (sif (twd (wor (tval (scall (d_is_number T) hr (by decide) tkF (acons (sv 3) anil))) (wor1 (tcmp (oIn hr) oInS sstr (six hr (sv 2) sint) (by with_unfolding_all rfl))))) (sv 3) sint)))))⟩
theorem sc_Lazy_double : FnScope n_Lazy_double p_Lazy_double (defScope s_Lazy_double) := ⟨rfl, rfl, rfl, by decide +kernel, rfl, by decide +kernel, by decide +kernel⟩
theorem d_Lazy_double (T : Txt K w mg) : Mtd P w K mg base "Lazy" "double" 9 m_Lazy_double := mtd_of T.t_Lazy_double sc_Lazy_double fun f cd A outer s H E hr => ⟨_, by
  unfold b_Lazy_double
  exact
  (sscons
  (spar2 (i := 3) (j := 4) rfl (sc_Lazy_double).nd (acons (smeth (d_Lazy_box T) hr (by decide) tkF (sv 0) (acons (six hr (sv 2) sint) anil)) (acons (smeth (d_Lazy_box T) hr (by decide) tkF (sv 0) (acons (six hr (sv 2) sint) anil)) anil)))
  (sscons
  (sifS (tcmp (oEq hr) oEqS (sv 1) sstr (nomark _)) (ssone
  (sret (styp oInt oIntS T.z_int (acons (scmp (oEq hr) oEqS (sv 3) (sv 4) (nomark _)) anil)))) ssnil)
  (sscons
  (sifS (tcmp (oEq hr) oEqS (sv 1) sstr (nomark _)) (sscons
  (sexpr (scall (d_need T) hr (by decide) tkF (acons (sand (scall (d_is_number T) hr (by decide) tkF (acons (sv 3) anil)) (sone (scall (d_is_number T) hr (by decide) tkF (acons (sv 4) anil)))) (acons sstr anil))))
  (ssone
  (sret (styp oInt oIntS T.z_int (acons (scmp op_lt oLtS (sv 3) (sv 4) (nomark _)) anil))))) ssnil)
  (sscons
  (sexpr (scall (d_need T) hr (by decide) tkF (acons (sand (scmp op_lt oLtS (scall (d_kind_of T) hr (by decide) tkF (acons (sv 3) anil)) sint (nomark _)) (sone (scall (d_is_number T) hr (by decide) tkF (acons (sv 4) anil)))) (acons sstr anil))))
  (ssone
  (sret (scall (d_moved T) hr (by decide) tkF (acons (sv 3) (acons (sif (tcmp (oEq hr) oEqS (sv 1) sstr (nomark _)) (sv 4) (sop op_sub oSubS sint (sv 4))) anil)))))))))⟩
theorem sc_Lazy_worth : FnScope n_Lazy_worth p_Lazy_worth (defScope s_Lazy_worth) := ⟨rfl, rfl, rfl, by decide +kernel, rfl, by decide +kernel, by decide +kernel⟩
theorem d_Lazy_worth (T : Txt K w mg) : Mtd P w K mg base "Lazy" "worth" 11 m_Lazy_worth := mtd_of T.t_Lazy_worth sc_Lazy_worth fun f cd A outer s H E hr => ⟨_, by
  unfold b_Lazy_worth
  exact
  (sscons
  (sifS (tcmp (oEq hr) oEqS (sv 1) sstr (nomark _)) (ssone
  (sret (six hr (sv 2) sint))) ssnil)
  (sscons
  (sifS (tcmp (oEq hr) oEqS (sv 1) sstr (nomark _)) (ssone
  (sret (smeth0 (d_Lazy_lent T) hr (by decide) tkF (sv 0)))) ssnil)
  (sscons
  (sifS (tcmp (oEq hr) oEqS (sv 1) sstr (nomark _)) (ssone
  (sret (smeth (d_Lazy_taken_out T) hr (by decide) tkF (sv 0) (acons (sv 2) anil)))) ssnil)
  (sscons
  (sifS (tcmp (oEq hr) oEqS (sv 1) sstr (nomark _)) (sscons
  (sexpr (scall (d_need T) hr (by decide) tkF (acons (scmp op_lt oLtS (scall (d_kind_of T) hr (by decide) tkF (acons (smeth (d_Lazy_box T) hr (by decide) tkF (sv 0) (acons (six hr (sv 2) sint) anil)) anil)) sint (nomark _)) (acons sstr anil))))
  (ssone
  (sret (stup (acons (sglob T.g_GATE) (acons (six hr (sv 2) sint) (acons (smeth (d_Lazy_box T) hr (by decide) tkF (sv 0) (acons (six hr (sv 2) sint) anil)) anil))))))) ssnil)
  (sscons
  (sifS (tcmp (oEq hr) oEqS (sv 1) sstr (nomark _)) (ssone
  (sret (scall (d_fewer T) hr (by decide) tkF (acons (smeth (d_Lazy_key T) hr (by decide) tkF (sv 0) (acons (six hr (sv 2) sint) anil)) (acons (six hr (sv 2) sint) anil))))) ssnil)
  (sscons
  (sifS (tcmp (oEq hr) oEqS (sv 1) sstr (nomark _)) (sscons
  (sset 3 (sc_Lazy_worth).nd (scall (d_narrowed T) hr (by decide) tkF (acons (smeth (d_Lazy_key T) hr (by decide) tkF (sv 0) (acons (six hr (sv 2) sint) anil)) (acons (smeth (d_Lazy_number T) hr (by decide) tkF (sv 0) (acons (six hr (sv 2) sint) anil)) anil))))
  (sscons
  (sexpr (scall (d_need T) hr (by decide) tkF (acons (scmp op_notN oIsntS (sv 3) snon (nomark _)) (acons sstr anil))))
  (ssone
  (sret (sv 3))))) ssnil)
  (sscons
  (sifS (twd (wor (tcmp (oEq hr) oEqS (sv 1) sstr (nomark _)) (wor1 (tcmp (oEq hr) oEqS (sv 1) sstr (nomark _))))) (ssone
  (sret (sif (tcmp (oEq hr) oEqS (sv 1) sstr (nomark _)) (smeth (d_Lazy_box T) hr (by decide) tkF (sv 0) (acons (six hr (sv 2) sint) anil)) (scall (d_kind_of T) hr (by decide) tkF (acons (smeth (d_Lazy_box T) hr (by decide) tkF (sv 0) (acons (six hr (sv 2) sint) anil)) anil))))) ssnil)
  (ssone
  (sret (smeth (d_Lazy_double T) hr (by decide) tkF (sv 0) (acons (sv 1) (acons (sv 2) anil))))))))))))⟩
theorem sc_Lazy_done : FnScope n_Lazy_done p_Lazy_done (defScope s_Lazy_done) := ⟨rfl, rfl, rfl, by decide +kernel, rfl, by decide +kernel, by decide +kernel⟩
theorem d_Lazy_done (T : Txt K w mg) : Mtd P w K mg base "Lazy" "done" 12 m_Lazy_done := mtd_of T.t_Lazy_done sc_Lazy_done fun f cd A outer s H E hr => ⟨_, by
  unfold b_Lazy_done
  exact
  (sscons
  (sset 2 (sc_Lazy_done).nd (six hr (sv 1) sint))
  (sscons
  (sifS (tcmp (oEq hr) oEqS (sv 2) sstr (nomark _)) (ssone
  (sret (six hr (sv 1) sint))) ssnil)
  (sscons
  (sifS (tcmp (oEq hr) oEqS (sv 2) sstr (nomark _)) (ssone
  (sret (sif (tcmp (oNe hr) oNeS (smeth (d_Lazy_box T) hr (by decide) tkF (sv 0) (acons (six hr (sv 1) sint) anil)) sint (nomark _)) (six hr (sv 1) sint) (sop oAdd oAddS (sfld T.f_here (sv 0)) sint)))) ssnil)
  (sscons
  (sifS (tcmp (oEq hr) oEqS (sv 2) sstr (nomark _)) (ssone
  (sret (smeth (d_Lazy_entered T) hr (by decide) tkF (sv 0) (acons (six hr (sv 1) sint) anil)))) ssnil)
  (sscons
  (sifS (tcmp (oEq hr) oEqS (sv 2) sstr (nomark _)) (ssone
  (sexpr (smt PySem.F.plainAttrs_list PySem.F.slot_list_append PySem.F.type_list_append mt_append oAppS (sfld T.f_talk (sv 0)) (acons (smeth (d_Lazy_number T) hr (by decide) tkF (sv 0) (acons (six hr (sv 1) sint) anil)) anil)))) (ssone
  (sifS (tcmp (oEq hr) oEqS (sv 2) sstr (nomark _)) (ssone
  (sexpr (smeth (d_Lazy_put_in T) hr (by decide) tkF (sv 0) (acons (sv 1) anil)))) (ssone
  (sifS (tcmp (oEq hr) oEqS (sv 2) sstr (nomark _)) (ssone
  (sexpr (smeth (d_Lazy_shut T) hr (by decide) tkF (sv 0) (acons (six hr (sv 1) sint) anil)))) (ssone
  (ssub hr (sfld T.f_held (sv 0)) (six hr (sv 1) sint) (smeth (d_Lazy_worth T) hr (by decide) tkF (sv 0) (acons (sv 2) (acons (sv 1) anil))))))))))
  (ssone
  (sret (sop oAdd oAddS (sfld T.f_here (sv 0)) sint))))))))⟩
theorem sc_Lazy_step : FnScope n_Lazy_step p_Lazy_step (defScope s_Lazy_step) := ⟨rfl, rfl, rfl, by decide +kernel, rfl, by decide +kernel, by decide +kernel⟩
theorem d_Lazy_step (T : Txt K w mg) : Mtd P w K mg base "Lazy" "step" 13 m_Lazy_step := mtd_of T.t_Lazy_step sc_Lazy_step fun f cd A outer s H E hr => ⟨_, by
  unfold b_Lazy_step
  exact
  (sscons
  (sset 1 (sc_Lazy_step).nd (six hr (sfld T.f_program (sv 0)) (sfld T.f_here (sv 0))))
  (sscons
  (sfldS T.f_steps (sv 0) (sop oAdd oAddS (sfld T.f_steps (sv 0)) sint))
  (sscons
  (sifS (tcmp (oEq hr) oEqS (six hr (sv 1) sint) sstr (nomark _)) (sscons
  (sfldS T.f_end (sv 0) (sglob T.g_END))
  (ssone
  sretN)) ssnil)
  (sscons
  (by (refine' stryW (c := "Stop") (i := 2) (mb := (mFldS cs_here "here" (mv 0) (mMeth "Lazy" "done" m_Lazy_done (mv 0) (mCons (mv 1) mNil)))) rfl (sc_Lazy_step).nd T.k_Stop_word T.f_end tkF ?hbT ?hoT ?hhT); (case hbT => exact fun Wz pnz xez htk hpf => ss_fixS (ssone   (sfldS T.f_here (sv 0) (smeth (d_Lazy_done T) (by exact hr) (by decide) htk (sv 0) (acons (sv 1) anil)))) (by first | exact rfl | (dsimp only [Cx.tr] <;> exact rfl))); (case hoT => exact fun _ _ _ => se_fix (sv 0) (by first | exact rfl | (dsimp only [Cx.suite] <;> exact rfl))); (case hhT => exact fun _ _ _ => se_fix (sfld T.f_here (sv 0)) (by first | exact rfl | (dsimp only [Cx.suite] <;> exact rfl))))
  (ssone
  (sifS (tcmp (oEq hr) oEqS (sfld T.f_here (sv 0)) (sbuilt oLen oLenS T.z_len (acons (sfld T.f_program (sv 0)) anil)) (nomark _)) (ssone
  (sfldS T.f_end (sv 0) (sglob T.g_END))) ssnil))))))⟩
theorem sc_Machine_step : FnScope n_Machine_step p_Machine_step (defScope s_Machine_step) := ⟨rfl, rfl, rfl, by decide +kernel, rfl, by decide +kernel, by decide +kernel⟩
theorem d_Machine_step (T : Txt K w mg) : Mtd P w K mg base "Machine" "step" 14 m_Machine_step := mtd_of T.t_Machine_step sc_Machine_step fun f cd A outer s H E hr => ⟨_, by
  unfold b_Machine_step
  exact
  (sscons
  (sifS (tcmp op_notN oIsntS (sfld T.f_end (sfld T.f_lazy (sv 0))) snon (nomark _)) (ssone
  snever) ssnil)
  (sscons
  (sset 1 (sc_Machine_step).nd (sfld T.f_here (sfld T.f_lazy (sv 0))))
  (sscons
  (sexpr (smeth0 (d_Lazy_step T) hr (by decide) tkF (sfld T.f_lazy (sv 0))))
  (ssone
  (sret (sv 1))))))⟩
theorem sc_Machine_ended : FnScope n_Machine_ended p_Machine_ended (defScope s_Machine_ended) := ⟨rfl, rfl, rfl, by decide +kernel, rfl, by decide +kernel, by decide +kernel⟩
theorem d_Machine_ended (T : Txt K w mg) : Mtd P w K mg base "Machine" "ended" 1 m_Machine_ended := mtd_of T.t_Machine_ended sc_Machine_ended fun f cd A outer s H E hr => ⟨_, by
  unfold b_Machine_ended
  exact
  (ssone
  (sret (sfld T.f_end (sfld T.f_lazy (sv 0)))))⟩
theorem sc_Machine_cells : FnScope n_Machine_cells p_Machine_cells (defScope s_Machine_cells) := ⟨rfl, rfl, rfl, by decide +kernel, rfl, by decide +kernel, by decide +kernel⟩
theorem d_Machine_cells (T : Txt K w mg) : Mtd P w K mg base "Machine" "cells" 8 m_Machine_cells := mtd_of T.t_Machine_cells sc_Machine_cells fun f cd A outer s H E hr => ⟨_, by
  unfold b_Machine_cells
  exact
  (ssone
  (sret (by (refine' slc (own := [("word", 1)]) fin_f rfl (sc_Machine_cells).nd ?hi0 ?ok0 ?hg0 ?ht0 ?he0 ?hw0); (case hi0 => exact (iany (sfld T.f_store (sfld T.f_lazy (sv 0))))); (case ok0 => exact blkOk_by (own := [("word", 1)]) (N := n_Machine_cells) (sc := (defScope s_Machine_cells)) (by decide +kernel)); (case hg0 => exact fun _ _ _ _ _ => sg_fix (gname (i := 1) (sc_Machine_cells).nd) (by first | exact rfl | (dsimp only [Cx.blk] <;> exact rfl))); (case ht0 => exact fun _ _ _ _ _ => sts_fix stsnil (by first | exact rfl | (dsimp only [Cx.blk] <;> exact rfl))); (case he0 => exact fun _ _ _ _ _ => se_fix (smeth (d_Lazy_look T) (by exact hr) (by decide) takes0 (sfld T.f_lazy (sv 0)) (acons (sv 1) anil)) (by first | exact rfl | (dsimp only [Cx.blk] <;> exact rfl))); (case hw0 => decide))))⟩
theorem sc_Machine_said : FnScope n_Machine_said p_Machine_said (defScope s_Machine_said) := ⟨rfl, rfl, rfl, by decide +kernel, rfl, by decide +kernel, by decide +kernel⟩
theorem d_Machine_said (T : Txt K w mg) : Mtd P w K mg base "Machine" "said" 1 m_Machine_said := mtd_of T.t_Machine_said sc_Machine_said fun f cd A outer s H E hr => ⟨_, by
  unfold b_Machine_said
  exact
  (ssone
  (sret (styp (oList rfl) oListS T.z_list (acons (sfld T.f_talk (sfld T.f_lazy (sv 0))) anil))))⟩
theorem sc_law : FnScope n_law p_law (defScope s_law) := ⟨rfl, rfl, rfl, by decide +kernel, rfl, by decide +kernel, by decide +kernel⟩
theorem y_law (T : Txt K w mg) : Body P w K mg base n_law "law" s_law 14 b_law := fun f cd A outer s H E hr => ⟨_, by
  unfold b_law
  exact
  (sscons
  (sset 1 (sc_law).nd (slstN (acons (sv 0) (acons sint (acons sint (acons sint anil))))))
  (sscons
  (sfor psF rfl (irng1 T.z_range (acons sint anil)) (gname (i := 2) (sc_law).nd) (sscons
  (sset 3 (sc_law).nd (scall (d__law_plain T) hr (by decide) tkF (acons (sv 1) (acons (six hr (slst (acons sint (acons sint anil))) (scall (d__law_taken T) hr (by decide) tkF (acons (sv 1) (acons sint anil)))) anil))))
  (sscons
  (by (refine' ssetLc 4 (own := [("_law_cell", 16)]) fin_f rfl (sc_law).nd ?hi0 ?ok0 ?hg0 ?ht0 ?he0 ?hw0); (case hi0 => exact (irng1 T.z_range (acons sint anil))); (case ok0 => exact blkOk_by (own := [("_law_cell", 16)]) (N := n_law) (sc := (defScope s_law)) (by decide +kernel)); (case hg0 => exact fun _ _ _ _ _ => sg_fix (gname (i := 16) (sc_law).nd) (by first | exact rfl | (dsimp only [Cx.blk] <;> exact rfl))); (case ht0 => exact fun _ _ _ _ _ => sts_fix stsnil (by first | exact rfl | (dsimp only [Cx.blk] <;> exact rfl))); (case he0 => exact fun _ _ _ _ _ => se_fix (scall (d__law_number T) (by exact hr) (by decide) takes0 (acons (sv 1) anil)) (by first | exact rfl | (dsimp only [Cx.blk] <;> exact rfl))); (case hw0 => decide))
  (sscons
  (sasg (scall (d_run_places T) hr (by decide) tkF (acons (sv 3) (acons (sv 4) (acons sint anil)))) (gtup rfl (gcons (gname (i := 5) (sc_law).nd) (gcons (gname (i := 6) (sc_law).nd) (gcons (gname (i := 7) (sc_law).nd) (gcons (gname (i := 8) (sc_law).nd) gnil))))))
  (sscons
  (sasg (scall (d_keyed T) hr (by decide) tkF (acons (sv 3) anil)) (gtup rfl (gcons (gname (i := 9) (sc_law).nd) (gcons (gname (i := 10) (sc_law).nd) gnil))))
  (sscons
  (sifS (twd (wor (tcmp (oNe hr) oNeS (sbuilt oLen oLenS T.z_len (acons (sv 9) anil)) (sbuilt oLen oLenS T.z_len (acons (sv 10) anil)) (nomark _)) (wor1 (tcmp (oNe hr) oNeS (by (refine' slc (own := [("_law_k", 17)]) fin_f rfl (sc_law).nd ?hi0 ?ok0 ?hg0 ?ht0 ?he0 ?hw0); (case hi0 => exact (iany (sv 10))); (case ok0 => exact blkOk_by (own := [("_law_k", 17)]) (N := n_law) (sc := (defScope s_law)) (by decide +kernel)); (case hg0 => exact fun _ _ _ _ _ => sg_fix (gname (i := 17) (sc_law).nd) (by first | exact rfl | (dsimp only [Cx.blk] <;> exact rfl))); (case ht0 => exact fun _ _ _ _ _ => sts_fix (stsone (tnot (tchain op_le op_lt oLeS oLtS sint (sv 17) (sbuilt oLen oLenS T.z_len (acons (sv 3) anil))))) (by first | exact rfl | (dsimp only [Cx.blk] <;> exact rfl))); (case he0 => exact fun _ _ _ _ _ => se_fix (sv 17) (by first | exact rfl | (dsimp only [Cx.blk] <;> exact rfl))); (case hw0 => decide)) (slst anil) (nomark _))))) (ssone
  (sret sbl)) ssnil)
  (sscons
  (sset 11 (sc_law).nd (sop oAdd oAddS (sop oMul oMulS (slst (acons sint anil)) sint) (slst (acons (stup (acons sstr (acons sint (acons sint (acons sint (acons sstr anil)))))) anil))))
  (ssone
  (sifS (tcmp (oNe hr) oNeS (sv 6) (stup (acons sstr anil)) (nomark _)) (sscons
  (sset 12 (sc_law).nd (scall (d_run T) hr (by decide) tkF (acons (sv 9) (acons sint (acons (sv 4) (acons (sv 11) (acons sint anil)))))))
  (sscons
  (sset 13 (sc_law).nd (six hr (sv 12) sint))
  (sscons
  (sifS (tcmp (oEq hr) oEqS (six hr (sv 13) sint) sstr (nomark _)) (ssone
  (sset 13 (sc_law).nd (sop oAdd oAddS (ssl (sv 13) onone (osome sint)) (stup (acons (six hr (sv 10) (six hr (sv 13) sint)) anil))))) ssnil)
  (sscons
  (sifS (tnot (tval (scall (d__law_alike T 4) hr (by decide) tkF (acons (stup (acons (six hr (sv 12) sint) (acons (sv 13) anil))) (acons (stup (acons (sv 5) (acons (sv 6) anil))) anil))))) (ssone
  (sret sbl)) ssnil)
  (sscons
  (sset 14 (sc_law).nd (smake (d_Machine___init__ T) hr (by decide) tkF (acons (sv 9) (acons sint (acons (sv 4) (acons (sv 11) anil))))))
  (sscons
  (sfor psF rfl (irng1 T.z_range (acons (six hr (sv 12) sint) anil)) (gname (i := 15) (sc_law).nd) (ssone
  (sexpr (smeth0 (d_Machine_step T) hr (by decide) tkF (sv 14)))))
  (ssone
  (sifS (twd (wor (tcmp op_isN oIsS (smeth0 (d_Machine_ended T) hr (by decide) tkF (sv 14)) snon (nomark _)) (wor1 (tnot (tval (scall (d__law_alike T 4) hr (by decide) tkF (acons (slst (acons (smeth0 (d_Machine_cells T) hr (by decide) tkF (sv 14)) (acons (smeth0 (d_Machine_said T) hr (by decide) tkF (sv 14)) anil))) (acons (slst (acons (sv 8) (acons (sv 5) anil))) anil)))))))) (ssone
  (sret sbl)) ssnil)))))))) (sscons
  (sset 12 (sc_law).nd (scall (d_run T) hr (by decide) tkF (acons (sv 9) (acons sint (acons (sv 4) (acons (sv 11) (acons sint anil)))))))
  (ssone
  (sifS (tcmp (oNe hr) oNeS (ssl (six hr (sv 12) sint) onone (osome (sbuilt oLen oLenS T.z_len (acons (sv 5) anil)))) (sv 5) (nomark _)) (ssone
  (sret sbl)) ssnil))))))))))))
  (ssone
  (sret sbl))))⟩
end
end K16

set_option Elab.async false
set_option linter.all false
set_option maxRecDepth 100000
set_option maxHeartbeats 4000000
/-! K16P: the law of plain programs, in plain Lean. -/
namespace K16
open PySem Tg L2

/-- rows of plain programs -/
inductive PR where
  | put (r : Nat) (n : Int) | move (r s : Nat) | add (r s t : Nat) | take (r s t : Nat) | less (r s t : Nat) | same (r s t : Nat)
  | get (r s : Nat) | set (r t : Nat) | say (r : Nat) | go (g : Nat) | iff (r g : Nat) | fin
def PR.d : PR → D
  | .put r n => .tup [.str "put", .int r, .int n]
  | .move r s => .tup [.str "move", .int r, .int s]
  | .add r s t => .tup [.str "add", .int r, .int s, .int t]
  | .take r s t => .tup [.str "take", .int r, .int s, .int t]
  | .less r s t => .tup [.str "less", .int r, .int s, .int t]
  | .same r s t => .tup [.str "same", .int r, .int s, .int t]
  | .get r s => .tup [.str "get", .int r, .int s, .int 0]
  | .set r t => .tup [.str "set", .int r, .int 0, .int t]
  | .say r => .tup [.str "say", .int r]
  | .go g => .tup [.str "go", .int g]
  | .iff r g => .tup [.str "if", .int r, .int g]
  | .fin => .tup [.str "end"]
def PR.ok (rows : Nat) : PR → Prop
  | .put r n => r < 6 ∧ -10000 ≤ n ∧ n < 10000
  | .move r s => r < 6 ∧ s < 6
  | .add r s t => r < 6 ∧ s < 6 ∧ t < 6
  | .take r s t => r < 6 ∧ s < 6 ∧ t < 6
  | .less r s t => r < 6 ∧ s < 6 ∧ t < 6
  | .same r s t => r < 6 ∧ s < 6 ∧ t < 6
  | .get r s => r < 6 ∧ s < 6
  | .set r t => r < 6 ∧ t < 6
  | .say r => r < 6
  | .go g => g < rows
  | .iff r g => r < 6 ∧ g < rows
  | .fin => True
structure M where
  cells : List Int
  boxes : List Int
  said : List Int
  here : Nat
  steps : Nat
  en : Option D
structure M.Ok (rows : Nat) (m : M) : Prop where
  c : m.cells.length = 64
  b : m.boxes.length = 6
  h : m.en = none → m.here < rows
  s : m.said.length ≤ m.steps
  e : ∀ d, m.en = some d → Tg.isNon d = false
def endD : D := .tup [.str "end"]
def bx (m : M) (r : Nat) : Int := m.boxes.getD r 0
def chk (rows : Nat) (m : M) : M := if m.here = rows then { m with en := some endD } else m
def ringI (i : Int) : Int := (i + 10000) % 20000 - 10000
def stepM (rows : Nat) (p : PR) (m0 : M) : M :=
  let m : M := { m0 with steps := m0.steps + 1, here := m0.here + 1 }
  match p with
  | .fin => { m with en := some endD }
  | .go g => chk rows { m with here := g }
  | .iff r g => chk rows (if bx m0 r ≠ 0 then { m with here := g } else m)
  | .get r s => if 0 ≤ bx m0 s ∧ bx m0 s < 64 then chk rows { m with boxes := m.boxes.set r (m.cells.getD (bx m0 s).toNat 0) } else { m with en := some (.tup [.str "fault", .str "beyond", .int m0.here]) }
  | .set r t => if 0 ≤ bx m0 r ∧ bx m0 r < 64 then chk rows { m with cells := m.cells.set (bx m0 r).toNat (bx m0 t) } else { m with en := some (.tup [.str "fault", .str "beyond", .int m0.here]) }
  | .say r => chk rows { m with said := m.said ++ [bx m0 r] }
  | .put r n => chk rows { m with boxes := m.boxes.set r n }
  | .move r s => chk rows { m with boxes := m.boxes.set r (bx m0 s) }
  | .add r s t => chk rows { m with boxes := m.boxes.set r (ringI (bx m0 s + bx m0 t)) }
  | .take r s t => chk rows { m with boxes := m.boxes.set r (ringI (bx m0 s - bx m0 t)) }
  | .less r s t => chk rows { m with boxes := m.boxes.set r (if bx m0 s < bx m0 t then 1 else 0) }
  | .same r s t => chk rows { m with boxes := m.boxes.set r (if bx m0 s = bx m0 t then 1 else 0) }
def fs (L : Nat) (prog : List PR) (m : M) : List (Str × D) :=
  [("program", .tup (prog.map PR.d)), ("store", .ref (L + 1)), ("held", .ref (L + 2)), ("here", .int m.here), ("talk", .ref (L + 3)), ("steps", .int m.steps), ("end", m.en.getD .non)]
def enc (A0 : AH) (prog : List PR) (m : M) : AH :=
  A0 ++ [.ins "Plain" (fs A0.length prog m), .lst (m.cells.map .int), .lst (m.boxes.map .int), .lst (m.said.map .int)]
theorem at_map {xs : List Int} {r : Nat} (h : r < xs.length) : atI (xs.map D.int) (r : Int) = some (.int (xs.getD r 0)) := by
  rw [Tg.atI_nat, List.getElem?_map, List.getElem?_eq_getElem h]
  simp [List.getD_eq_getElem?_getD, List.getElem?_eq_getElem h]
theorem ixN_nat {n r : Nat} (h : r < n) : ixN n (r : Int) = some r := by
  unfold ixN
  rw [if_pos (by omega), if_pos (by omega)]
  simp
theorem set_map {xs : List Int} {r : Nat} {v : Int} : (xs.map D.int).set r (.int v) = (xs.set r v).map D.int := by
  rw [List.map_set]

theorem atB {m : M} (hb : m.boxes.length = 6) {r : Nat} (h : r < 6) : atI (m.boxes.map D.int) (r : Int) = some (.int (bx m r)) := at_map (by omega)
theorem at_in {xs : List Int} {n : Nat} (hl : xs.length = n) {i : Int} (h0 : 0 ≤ i) (h1 : i < n) : atI (xs.map D.int) i = some (.int (xs.getD i.toNat 0)) := by
  have := at_map (xs := xs) (r := i.toNat) (by omega)
  rwa [Int.toNat_of_nonneg h0] at this
theorem ixN_in {n : Nat} {i : Int} (h0 : 0 ≤ i) (h1 : i < n) : ixN n i = some i.toNat := by
  unfold ixN
  rw [if_pos h0, if_pos h1]
theorem rInt (a b : Int) : ((a : Int) == b) = decide (a = b) := by
  by_cases h : a = b
  · simp [h]
  · simp [h]
theorem last3 {α : Type} {a b c : α} : atI [a, b, c] (-1) = some c := rfl
theorem last2 {α : Type} {a b : α} : atI [a, b] (-1) = some b := rfl
theorem step_ok {A0 : AH} {prog : List PR} {m : M} {p : PR} (ok : M.Ok prog.length m) (he : m.en = none) (hp : prog[m.here]? = some p) (hr : p.ok prog.length) (hS : m.steps < 10000) :
    m_Plain_step [.ref A0.length] (enc A0 prog m) = .ok .non (enc A0 prog (stepM prog.length p m)) := by
  have e0 : m_Plain_step [.ref A0.length] (enc A0 prog m) = finS (b_Plain_step [some (.ref A0.length), none, none, none] (enc A0 prog m)) := rfl
  rw [e0]
  have hq : atI (prog.map PR.d) (m.here : Int) = some p.d := by
    rw [Tg.atI_nat, List.getElem?_map, hp]
    rfl
  have e1 : ∀ w z a B, m_Plain_deed [w, z, a] B = finS (b_Plain_deed [some w, some z, some a, none] B) := fun _ _ _ _ => rfl
  have e2 : ∀ a w x y B, m_Plain_double [a, w, x, y] B = finS (b_Plain_double [some a, some w, some x, some y] B) := fun _ _ _ _ _ => rfl
  have e3 : ∀ x B, m_ring [x] B = finS (b_ring [some x] B) := fun _ _ => rfl
  have hb := ok.b
  have hc := ok.c
  have hsd : m.said.length < 16777216 := by have := ok.s; omega
  have hI : ((m.here : Int) + 1 = prog.length) ↔ (m.here + 1 = prog.length) := by omega
  cases p with
  | put r n =>
    obtain ⟨h1, h2, h3⟩ := hr
    by_cases hL : m.here + 1 = prog.length <;> simp [b_Plain_step, enc, fs, fld_ref, sfld_ref, List.lookup, putFD, cs_program, cs_here, cs_steps, cs_end, cs_held, cs_store, cs_talk, hq, PR.d, e1, e2, e3, b_Plain_deed, b_Plain_double, b_ring, in_str, ix_int, st_int, len_ref, app_ref, seq_ref, g_END, g_CELLS, g_HALF, hb, hc, hI, he, stepM, chk, last2, last3, rInt, endD, ixN_nat h1, hL]
  | move r s =>
    obtain ⟨h1, h2⟩ := hr
    by_cases hL : m.here + 1 = prog.length <;> simp [b_Plain_step, enc, fs, fld_ref, sfld_ref, List.lookup, putFD, cs_program, cs_here, cs_steps, cs_end, cs_held, cs_store, cs_talk, hq, PR.d, e1, e2, e3, b_Plain_deed, b_Plain_double, b_ring, in_str, ix_int, st_int, len_ref, app_ref, seq_ref, g_END, g_CELLS, g_HALF, hb, hc, hI, he, stepM, chk, last2, last3, rInt, endD, ixN_nat h1, atB hb h2, hL]
  | add r s t =>
    obtain ⟨h1, h2, h3⟩ := hr
    by_cases hL : m.here + 1 = prog.length <;> simp [b_Plain_step, enc, fs, fld_ref, sfld_ref, List.lookup, putFD, cs_program, cs_here, cs_steps, cs_end, cs_held, cs_store, cs_talk, hq, PR.d, e1, e2, e3, b_Plain_deed, b_Plain_double, b_ring, in_str, ix_int, st_int, len_ref, app_ref, seq_ref, g_END, g_CELLS, g_HALF, hb, hc, hI, he, stepM, chk, last2, last3, rInt, endD, ixN_nat h1, atB hb h2, atB hb h3, ringI, o_mod, o_mulR, hL]
  | take r s t =>
    obtain ⟨h1, h2, h3⟩ := hr
    by_cases hL : m.here + 1 = prog.length <;> simp [b_Plain_step, enc, fs, fld_ref, sfld_ref, List.lookup, putFD, cs_program, cs_here, cs_steps, cs_end, cs_held, cs_store, cs_talk, hq, PR.d, e1, e2, e3, b_Plain_deed, b_Plain_double, b_ring, in_str, ix_int, st_int, len_ref, app_ref, seq_ref, g_END, g_CELLS, g_HALF, hb, hc, hI, he, stepM, chk, last2, last3, rInt, endD, ixN_nat h1, atB hb h2, atB hb h3, ringI, o_mod, o_mulR, hL]
  | less r s t =>
    obtain ⟨h1, h2, h3⟩ := hr
    by_cases hL : m.here + 1 = prog.length <;> simp [b_Plain_step, enc, fs, fld_ref, sfld_ref, List.lookup, putFD, cs_program, cs_here, cs_steps, cs_end, cs_held, cs_store, cs_talk, hq, PR.d, e1, e2, e3, b_Plain_deed, b_Plain_double, b_ring, in_str, ix_int, st_int, len_ref, app_ref, seq_ref, g_END, g_CELLS, g_HALF, hb, hc, hI, he, stepM, chk, last2, last3, rInt, endD, ixN_nat h1, atB hb h2, atB hb h3, hL]
  | same r s t =>
    obtain ⟨h1, h2, h3⟩ := hr
    by_cases hL : m.here + 1 = prog.length <;> simp [b_Plain_step, enc, fs, fld_ref, sfld_ref, List.lookup, putFD, cs_program, cs_here, cs_steps, cs_end, cs_held, cs_store, cs_talk, hq, PR.d, e1, e2, e3, b_Plain_deed, b_Plain_double, b_ring, in_str, ix_int, st_int, len_ref, app_ref, seq_ref, g_END, g_CELLS, g_HALF, hb, hc, hI, he, stepM, chk, last2, last3, rInt, endD, ixN_nat h1, atB hb h2, atB hb h3, hL]
  | get r s =>
    obtain ⟨h1, h2⟩ := hr
    by_cases h0 : 0 ≤ bx m s
    · by_cases h64 : bx m s < 64
      · by_cases hL : m.here + 1 = prog.length <;> simp [b_Plain_step, enc, fs, fld_ref, sfld_ref, List.lookup, putFD, cs_program, cs_here, cs_steps, cs_end, cs_held, cs_store, cs_talk, hq, PR.d, e1, e2, e3, b_Plain_deed, b_Plain_double, b_ring, in_str, ix_int, st_int, len_ref, app_ref, seq_ref, g_END, g_CELLS, g_HALF, hb, hc, hI, he, stepM, chk, last2, last3, rInt, endD, ixN_nat h1, atB hb h2, hL, h0, h64, at_in hc h0 h64]
      · simp [b_Plain_step, enc, fs, fld_ref, sfld_ref, List.lookup, putFD, cs_program, cs_here, cs_steps, cs_end, cs_held, cs_store, cs_talk, hq, PR.d, e1, e2, e3, b_Plain_deed, b_Plain_double, b_ring, in_str, ix_int, st_int, len_ref, app_ref, seq_ref, g_END, g_CELLS, g_HALF, hb, hc, hI, he, stepM, chk, last2, last3, rInt, endD, ixN_nat h1, atB hb h2, h0, h64]
    · simp [b_Plain_step, enc, fs, fld_ref, sfld_ref, List.lookup, putFD, cs_program, cs_here, cs_steps, cs_end, cs_held, cs_store, cs_talk, hq, PR.d, e1, e2, e3, b_Plain_deed, b_Plain_double, b_ring, in_str, ix_int, st_int, len_ref, app_ref, seq_ref, g_END, g_CELLS, g_HALF, hb, hc, hI, he, stepM, chk, last2, last3, rInt, endD, ixN_nat h1, atB hb h2, h0]
  | set r t =>
    obtain ⟨h1, h2⟩ := hr
    by_cases h0 : 0 ≤ bx m r
    · by_cases h64 : bx m r < 64
      · by_cases hL : m.here + 1 = prog.length <;> simp [b_Plain_step, enc, fs, fld_ref, sfld_ref, List.lookup, putFD, cs_program, cs_here, cs_steps, cs_end, cs_held, cs_store, cs_talk, hq, PR.d, e1, e2, e3, b_Plain_deed, b_Plain_double, b_ring, in_str, ix_int, st_int, len_ref, app_ref, seq_ref, g_END, g_CELLS, g_HALF, hb, hc, hI, he, stepM, chk, last2, last3, rInt, endD, atB hb h1, atB hb h2, hL, h0, h64, ixN_in (n := 64) h0 h64]
      · simp [b_Plain_step, enc, fs, fld_ref, sfld_ref, List.lookup, putFD, cs_program, cs_here, cs_steps, cs_end, cs_held, cs_store, cs_talk, hq, PR.d, e1, e2, e3, b_Plain_deed, b_Plain_double, b_ring, in_str, ix_int, st_int, len_ref, app_ref, seq_ref, g_END, g_CELLS, g_HALF, hb, hc, hI, he, stepM, chk, last2, last3, rInt, endD, atB hb h1, atB hb h2, h0, h64]
    · simp [b_Plain_step, enc, fs, fld_ref, sfld_ref, List.lookup, putFD, cs_program, cs_here, cs_steps, cs_end, cs_held, cs_store, cs_talk, hq, PR.d, e1, e2, e3, b_Plain_deed, b_Plain_double, b_ring, in_str, ix_int, st_int, len_ref, app_ref, seq_ref, g_END, g_CELLS, g_HALF, hb, hc, hI, he, stepM, chk, last2, last3, rInt, endD, atB hb h1, atB hb h2, h0]
  | say r =>
    have h1 : r < 6 := hr
    by_cases hL : m.here + 1 = prog.length <;> simp [b_Plain_step, enc, fs, fld_ref, sfld_ref, List.lookup, putFD, cs_program, cs_here, cs_steps, cs_end, cs_held, cs_store, cs_talk, hq, PR.d, e1, e2, e3, b_Plain_deed, b_Plain_double, b_ring, in_str, ix_int, st_int, len_ref, app_ref, seq_ref, g_END, g_CELLS, g_HALF, hb, hc, hI, he, stepM, chk, last2, last3, rInt, endD, atB hb h1, hsd, hL]
  | go g =>
    have h1 : g < prog.length := hr
    have hg : ¬ g = prog.length := by omega
    have hgI : ¬ (g : Int) = prog.length := by omega
    simp [b_Plain_step, enc, fs, fld_ref, sfld_ref, List.lookup, putFD, cs_program, cs_here, cs_steps, cs_end, cs_held, cs_store, cs_talk, hq, PR.d, e1, e2, e3, b_Plain_deed, b_Plain_double, b_ring, in_str, ix_int, st_int, len_ref, app_ref, seq_ref, g_END, g_CELLS, g_HALF, hb, hc, hI, he, stepM, chk, last2, last3, rInt, endD, hg, hgI]
  | iff r g =>
    obtain ⟨h1, h2⟩ := hr
    by_cases h0 : bx m r = 0
    · by_cases hL : m.here + 1 = prog.length <;> simp [b_Plain_step, enc, fs, fld_ref, sfld_ref, List.lookup, putFD, cs_program, cs_here, cs_steps, cs_end, cs_held, cs_store, cs_talk, hq, PR.d, e1, e2, e3, b_Plain_deed, b_Plain_double, b_ring, in_str, ix_int, st_int, len_ref, app_ref, seq_ref, g_END, g_CELLS, g_HALF, hb, hc, hI, he, stepM, chk, last2, last3, rInt, endD, atB hb h1, hL, h0]
    · have hg : ¬ g = prog.length := by omega
      have hgI : ¬ (g : Int) = prog.length := by omega
      simp [b_Plain_step, enc, fs, fld_ref, sfld_ref, List.lookup, putFD, cs_program, cs_here, cs_steps, cs_end, cs_held, cs_store, cs_talk, hq, PR.d, e1, e2, e3, b_Plain_deed, b_Plain_double, b_ring, in_str, ix_int, st_int, len_ref, app_ref, seq_ref, g_END, g_CELLS, g_HALF, hb, hc, hI, he, stepM, chk, last2, last3, rInt, endD, atB hb h1, h0, hg, hgI]
  | fin =>
    skip
    by_cases hL : m.here + 1 = prog.length <;> simp [b_Plain_step, enc, fs, fld_ref, sfld_ref, List.lookup, putFD, cs_program, cs_here, cs_steps, cs_end, cs_held, cs_store, cs_talk, hq, PR.d, e1, e2, e3, b_Plain_deed, b_Plain_double, b_ring, in_str, ix_int, st_int, len_ref, app_ref, seq_ref, g_END, g_CELLS, g_HALF, hb, hc, hI, he, stepM, chk, last2, last3, rInt, endD, hL]

/-! ### the run of the program -/
def runM (prog : List PR) (fuel : Int) : Nat → M → M
  | 0, m => m
  | k + 1, m => if m.en = none ∧ (m.steps : Int) < fuel then (match prog[m.here]? with
    | some p => runM prog fuel k (stepM prog.length p m)
    | none => m) else m
theorem chk_ok {rows : Nat} {m : M} (h : m.cells.length = 64 ∧ m.boxes.length = 6 ∧ m.said.length ≤ m.steps ∧ m.here ≤ rows ∧ m.en = none) : (chk rows m).Ok rows := by
  unfold chk
  split
  · exact ⟨h.1, h.2.1, fun q => (nomatch q), h.2.2.1, fun d q => by cases q; rfl⟩
  · rename_i q
    exact ⟨h.1, h.2.1, fun _ => by omega, h.2.2.1, fun d q => by rw [h.2.2.2.2] at q; cases q⟩
theorem stepM_ok {rows : Nat} {p : PR} {m : M} (ok : m.Ok rows) (he : m.en = none) (hp : p.ok rows) : (stepM rows p m).Ok rows := by
  have hh := ok.h he
  have hs := ok.s
  cases p with
  | fin => exact ⟨ok.c, ok.b, fun q => (nomatch q), by show m.said.length ≤ m.steps + 1; omega, fun d q => by cases q; rfl⟩
  | go g => exact chk_ok ⟨ok.c, ok.b, by show m.said.length ≤ m.steps + 1; omega, Nat.le_of_lt hp, he⟩
  | iff r g =>
    have hg := hp.2
    unfold stepM
    dsimp only
    split
    · exact chk_ok ⟨ok.c, ok.b, by show m.said.length ≤ m.steps + 1; omega, Nat.le_of_lt hg, he⟩
    · exact chk_ok ⟨ok.c, ok.b, by show m.said.length ≤ m.steps + 1; omega, hh, he⟩
  | get r s =>
    unfold stepM
    dsimp only
    split
    · exact chk_ok ⟨ok.c, by rw [List.length_set]; exact ok.b, by show m.said.length ≤ m.steps + 1; omega, hh, he⟩
    · exact ⟨ok.c, ok.b, fun q => (nomatch q), by show m.said.length ≤ m.steps + 1; omega, fun d q => by cases q; rfl⟩
  | set r t =>
    unfold stepM
    dsimp only
    split
    · exact chk_ok ⟨by rw [List.length_set]; exact ok.c, ok.b, by show m.said.length ≤ m.steps + 1; omega, hh, he⟩
    · exact ⟨ok.c, ok.b, fun q => (nomatch q), by show m.said.length ≤ m.steps + 1; omega, fun d q => by cases q; rfl⟩
  | say r => exact chk_ok ⟨ok.c, ok.b, by show (m.said ++ [_]).length ≤ m.steps + 1; rw [List.length_append]; simp; omega, hh, he⟩
  | _ => exact chk_ok ⟨ok.c, by rw [List.length_set]; exact ok.b, by show m.said.length ≤ m.steps + 1; omega, hh, he⟩
theorem stepM_steps {rows : Nat} {p : PR} {m : M} : (stepM rows p m).steps = m.steps + 1 := by
  have c : ∀ m' : M, (chk rows m').steps = m'.steps := fun m' => by
    unfold chk
    split <;> rfl
  cases p <;> first
    | rfl
    | (unfold stepM; dsimp only; first
        | (rw [c]; split <;> rfl)
        | (split <;> first
            | (rw [c])
            | rfl)
        | (rw [c]))
def cW : MT := mAnd (mTb (mBin isD (mFld cs_end "end" (mv 3)) (mc .non))) (mTb (mBin ltD (mFld cs_steps "steps" (mv 3)) (mv 2)))
def bW : MS := mDrop (mMeth "Plain" "step" m_Plain_step (mv 3) mNil)
theorem loop_ok {A0 : AH} {prog : List PR} {c : D} {fuel : Int} (hP : ∀ p ∈ prog, p.ok prog.length) (hf : fuel ≤ 5000) : ∀ (f : Nat) (m : M), m.Ok prog.length → (m.steps : Int) ≤ fuel ∨ m.steps ≤ 5000 → fuel - m.steps < f → 0 < f →
    whG cW bW f [some (.tup (prog.map PR.d)), some c, some (.int fuel), some (.ref A0.length)] (enc A0 prog m) = .nx [some (.tup (prog.map PR.d)), some c, some (.int fuel), some (.ref A0.length)] (enc A0 prog (runM prog fuel f m)) ∧ (runM prog fuel f m).Ok prog.length ∧ (runM prog fuel f m).steps ≤ 5000
  | 0, _, _, _, _, h => by omega
  | f + 1, m, ok, hs, h1, _ => by
    have cond : ∀ b : Bool, (m.en = none ∧ (m.steps : Int) < fuel ↔ b = true) → cW [some (.tup (prog.map PR.d)), some c, some (.int fuel), some (.ref A0.length)] (enc A0 prog m) = .ok b (enc A0 prog m) := fun b hb => by
      cases he : m.en with
      | none =>
        have : decide ((m.steps : Int) < fuel) = b := by
          cases b with
          | true => exact decide_eq_true (hb.mpr rfl).2
          | false => exact decide_eq_false fun q => (nomatch hb.mp ⟨he, q⟩)
        rw [← this]
        simp [cW, enc, fs, he, fld_ref, cs_end, cs_steps, List.lookup, Tg.isNon]
      | some e =>
        have : b = false := by
          cases b with
          | true => exact absurd (hb.mpr rfl).1 (by rw [he]; simp)
          | false => rfl
        rw [this]
        simp [cW, enc, fs, he, fld_ref, cs_end, cs_steps, List.lookup, ok.e e he]
    by_cases hc : m.en = none ∧ (m.steps : Int) < fuel
    · have hh := ok.h hc.1
      have hp : prog[m.here]? = some prog[m.here] := List.getElem?_eq_getElem hh
      have hpo := hP _ (List.getElem_mem hh)
      have st := step_ok (A0 := A0) ok hc.1 hp hpo (by omega)
      have e : bW [some (.tup (prog.map PR.d)), some c, some (.int fuel), some (.ref A0.length)] (enc A0 prog m) = .nx [some (.tup (prog.map PR.d)), some c, some (.int fuel), some (.ref A0.length)] (enc A0 prog (stepM prog.length prog[m.here] m)) := by
        have e0 : (enc A0 prog m)[A0.length]? = some (.ins "Plain" (fs A0.length prog m)) := by simp [enc]
        simp [bW, e0, st, fs, List.lookup]
      rw [wh_true (cond true (by simp [hc])) e]
      have e2 : runM prog fuel (f + 1) m = runM prog fuel f (stepM prog.length prog[m.here] m) := by
        conv => lhs; unfold runM
        rw [if_pos hc, hp]
      rw [e2]
      have hst := stepM_steps (rows := prog.length) (p := prog[m.here]) (m := m)
      exact loop_ok hP hf f _ (stepM_ok ok hc.1 hpo) (by omega) (by omega) (by omega)
    · have e2 : runM prog fuel (f + 1) m = m := by
        conv => lhs; unfold runM
        rw [if_neg hc]
      rw [wh_false (cond false (by simp [hc])), e2]
      exact ⟨rfl, ok, by omega⟩

/-! ### rows that can be -/
theorem within_ok {i lo hi : Int} {A : AH} (h1 : lo ≤ i) (h2 : i < hi) : m_is_within [.int i, .int lo, .int hi] A = .ok (.bl true) A := by
  have e0 : m_is_within [.int i, .int lo, .int hi] A = finS (b_is_within [some (.int i), some (.int lo), some (.int hi)] A) := rfl
  have e1 : ∀ x B, m_is_number [x] B = finS (b_is_number [some x] B) := fun _ _ => rfl
  rw [e0]
  simp [b_is_within, e1, b_is_number, subTy, h1, h2]
def bnd (rows : Nat) : String → Option (Int × Int)
  | "b" => some (0, 8)
  | "n" => some (-10000, 10000)
  | "o" => some (-63, 64)
  | "g" => some (0, rows + 1)
  | "r" => some (0, rows)
  | _ => none
theorem part_ok {i lo hi : Int} {k : String} {rows : Nat} {A : AH} (hk : bnd rows k = some (lo, hi)) (h1 : lo ≤ i) (h2 : i < hi) : m_is_part [.int i, .str k, .int rows] A = .ok (.bl true) A := by
  have e0 : m_is_part [.int i, .str k, .int rows] A = finS (b_is_part [some (.int i), some (.str k), some (.int rows), none] A) := rfl
  rw [e0]
  unfold bnd at hk
  split at hk <;> first
    | (cases hk; done)
    | (cases hk
       simp [b_is_part, g_BOXES_words, g_HALF, g_OFFSET, keysD, keyD, mergeD, ptK, lkK, ixD, dctD, itemsD, within_ok h1 h2])
theorem c_b : (⟨#[98]⟩ : Str) = Str.ofString "b" := by decide
theorem c_n : (⟨#[110]⟩ : Str) = Str.ofString "n" := by decide
theorem c_o : (⟨#[111]⟩ : Str) = Str.ofString "o" := by decide
theorem c_r : (⟨#[114]⟩ : Str) = Str.ofString "r" := by decide
theorem fx {z : String} {k : Nat} {c : Nat} {t : String} {A : AH} (h1 : (Str.ofString z).length ≤ 16777216) (h2 : (Str.ofString z).cps.toList[k]? = some c) (h3 : (⟨#[c]⟩ : Str) = Str.ofString t) : ixD (.str (Str.ofString z)) (.int (k : Int)) A = .ok (.str (Str.ofString t)) A := by
  rw [ix_ofS h1 (by rw [Tg.atI_nat]; exact h2), h3]
theorem bn0 {A : AH} : ixD (.str "bn") (.int 0) A = .ok (.str "b") A := fx (k := 0) (by decide) (by decide) c_b
theorem bn1 {A : AH} : ixD (.str "bn") (.int 1) A = .ok (.str "n") A := fx (k := 1) (by decide) (by decide) c_n
theorem bb0 {A : AH} : ixD (.str "bb") (.int 0) A = .ok (.str "b") A := fx (k := 0) (by decide) (by decide) c_b
theorem bb1 {A : AH} : ixD (.str "bb") (.int 1) A = .ok (.str "b") A := fx (k := 1) (by decide) (by decide) c_b
theorem bbb0 {A : AH} : ixD (.str "bbb") (.int 0) A = .ok (.str "b") A := fx (k := 0) (by decide) (by decide) c_b
theorem bbb1 {A : AH} : ixD (.str "bbb") (.int 1) A = .ok (.str "b") A := fx (k := 1) (by decide) (by decide) c_b
theorem bbb2 {A : AH} : ixD (.str "bbb") (.int 2) A = .ok (.str "b") A := fx (k := 2) (by decide) (by decide) c_b
theorem bbo0 {A : AH} : ixD (.str "bbo") (.int 0) A = .ok (.str "b") A := fx (k := 0) (by decide) (by decide) c_b
theorem bbo1 {A : AH} : ixD (.str "bbo") (.int 1) A = .ok (.str "b") A := fx (k := 1) (by decide) (by decide) c_b
theorem bbo2 {A : AH} : ixD (.str "bbo") (.int 2) A = .ok (.str "o") A := fx (k := 2) (by decide) (by decide) c_o
theorem bob0 {A : AH} : ixD (.str "bob") (.int 0) A = .ok (.str "b") A := fx (k := 0) (by decide) (by decide) c_b
theorem bob1 {A : AH} : ixD (.str "bob") (.int 1) A = .ok (.str "o") A := fx (k := 1) (by decide) (by decide) c_o
theorem bob2 {A : AH} : ixD (.str "bob") (.int 2) A = .ok (.str "b") A := fx (k := 2) (by decide) (by decide) c_b
theorem b0 {A : AH} : ixD (.str "b") (.int 0) A = .ok (.str "b") A := fx (k := 0) (by decide) (by decide) c_b
theorem r0 {A : AH} : ixD (.str "r") (.int 0) A = .ok (.str "r") A := fx (k := 0) (by decide) (by decide) c_r
theorem br0 {A : AH} : ixD (.str "br") (.int 0) A = .ok (.str "b") A := fx (k := 0) (by decide) (by decide) c_b
theorem br1 {A : AH} : ixD (.str "br") (.int 1) A = .ok (.str "r") A := fx (k := 1) (by decide) (by decide) c_r
theorem ofLen {z : String} {A : AH} {n : Nat} (h : (Str.ofString z).length = n) (h2 : n ≤ 16777216) : lenD [.str (Str.ofString z)] A = .ok (.int n) A := by
  show (if (Str.ofString z).length ≤ 16777216 then R.ok (D.int ((Str.ofString z).length : Nat)) A else .bad) = _
  rw [h, if_pos h2]
theorem l_bn {A : AH} : lenD [.str "bn"] A = .ok (.int 2) A := ofLen (n := 2) (by decide) (by decide)
theorem l_bb {A : AH} : lenD [.str "bb"] A = .ok (.int 2) A := ofLen (n := 2) (by decide) (by decide)
theorem l_bbb {A : AH} : lenD [.str "bbb"] A = .ok (.int 3) A := ofLen (n := 3) (by decide) (by decide)
theorem l_bbo {A : AH} : lenD [.str "bbo"] A = .ok (.int 3) A := ofLen (n := 3) (by decide) (by decide)
theorem l_bob {A : AH} : lenD [.str "bob"] A = .ok (.int 3) A := ofLen (n := 3) (by decide) (by decide)
theorem l_b {A : AH} : lenD [.str "b"] A = .ok (.int 1) A := ofLen (n := 1) (by decide) (by decide)
theorem l_r {A : AH} : lenD [.str "r"] A = .ok (.int 1) A := ofLen (n := 1) (by decide) (by decide)
theorem l_br {A : AH} : lenD [.str "br"] A = .ok (.int 2) A := ofLen (n := 2) (by decide) (by decide)
theorem l_e {A : AH} : lenD [.str ""] A = .ok (.int 0) A := ofLen (n := 0) (by decide) (by decide)
theorem w_put : okF (.str "put") = true := by decide +kernel
theorem w_move : okF (.str "move") = true := by decide +kernel
theorem w_add : okF (.str "add") = true := by decide +kernel
theorem w_take : okF (.str "take") = true := by decide +kernel
theorem w_less : okF (.str "less") = true := by decide +kernel
theorem w_same : okF (.str "same") = true := by decide +kernel
theorem w_get : okF (.str "get") = true := by decide +kernel
theorem w_set : okF (.str "set") = true := by decide +kernel
theorem w_say : okF (.str "say") = true := by decide +kernel
theorem w_go : okF (.str "go") = true := by decide +kernel
theorem w_if : okF (.str "if") = true := by decide +kernel
theorem w_end : okF (.str "end") = true := by decide +kernel
theorem w_long : okF (.str "long") = true := by decide +kernel
theorem w_fault : okF (.str "fault") = true := by decide +kernel
theorem w_beyond : okF (.str "beyond") = true := by decide +kernel
theorem okF_int {i : Int} : okF (.int i) = true := rfl
theorem row_ok {p : PR} {rows : Nat} {A : AH} (h : p.ok rows) : m_is_row [p.d, .int rows] A = .ok (.bl true) A := by
  have e0 : m_is_row [p.d, .int rows] A = finS (b_is_row [some p.d, some (.int rows), none, none] A) := rfl
  rw [e0]
  have pb : ∀ {r : Nat}, r < 6 → ∀ {B : AH}, m_is_part [.int (r : Int), .str "b", .int rows] B = .ok (.bl true) B := fun hr => part_ok (k := "b") rfl (by omega) (by omega)
  have pn : ∀ {n : Int}, -10000 ≤ n → n < 10000 → ∀ {B : AH}, m_is_part [.int n, .str "n", .int rows] B = .ok (.bl true) B := fun h1 h2 => part_ok (k := "n") rfl h1 h2
  have po : ∀ {B : AH}, m_is_part [.int 0, .str "o", .int rows] B = .ok (.bl true) B := part_ok (k := "o") rfl (by omega) (by omega)
  have pr : ∀ {g : Nat}, g < rows → ∀ {B : AH}, m_is_part [.int (g : Int), .str "r", .int rows] B = .ok (.bl true) B := fun hg => part_ok (k := "r") rfl (by omega) (by omega)
  cases p with
  | put r n =>
    obtain ⟨h1, h2, h3⟩ := h
    simp [b_is_row, PR.d, subTy, eq_tupF, eq_lstF, feqs, w_put, w_move, w_add, w_take, w_less, w_same, w_get, w_set, w_say, w_go, w_if, w_end, w_long, w_fault, w_beyond, okF_int, kninD, kixD, tb_FORMS, List.lookup, l_bn, l_bb, l_bbb, l_bbo, l_bob, l_b, l_r, l_br, l_e, kR1_0, kR1_1, kR1_2, kR1_3, bn0, bn1, bb0, bb1, bbb0, bbb1, bbb2, bbo0, bbo1, bbo2, bob0, bob1, bob2, b0, r0, br0, br1, po, pb h1, pn h2 h3]
  | move r s =>
    obtain ⟨h1, h2⟩ := h
    simp [b_is_row, PR.d, subTy, eq_tupF, eq_lstF, feqs, w_put, w_move, w_add, w_take, w_less, w_same, w_get, w_set, w_say, w_go, w_if, w_end, w_long, w_fault, w_beyond, okF_int, kninD, kixD, tb_FORMS, List.lookup, l_bn, l_bb, l_bbb, l_bbo, l_bob, l_b, l_r, l_br, l_e, kR1_0, kR1_1, kR1_2, kR1_3, bn0, bn1, bb0, bb1, bbb0, bbb1, bbb2, bbo0, bbo1, bbo2, bob0, bob1, bob2, b0, r0, br0, br1, po, pb h1, pb h2]
  | add r s t =>
    obtain ⟨h1, h2, h3⟩ := h
    simp [b_is_row, PR.d, subTy, eq_tupF, eq_lstF, feqs, w_put, w_move, w_add, w_take, w_less, w_same, w_get, w_set, w_say, w_go, w_if, w_end, w_long, w_fault, w_beyond, okF_int, kninD, kixD, tb_FORMS, List.lookup, l_bn, l_bb, l_bbb, l_bbo, l_bob, l_b, l_r, l_br, l_e, kR1_0, kR1_1, kR1_2, kR1_3, bn0, bn1, bb0, bb1, bbb0, bbb1, bbb2, bbo0, bbo1, bbo2, bob0, bob1, bob2, b0, r0, br0, br1, po, pb h1, pb h2, pb h3]
  | take r s t =>
    obtain ⟨h1, h2, h3⟩ := h
    simp [b_is_row, PR.d, subTy, eq_tupF, eq_lstF, feqs, w_put, w_move, w_add, w_take, w_less, w_same, w_get, w_set, w_say, w_go, w_if, w_end, w_long, w_fault, w_beyond, okF_int, kninD, kixD, tb_FORMS, List.lookup, l_bn, l_bb, l_bbb, l_bbo, l_bob, l_b, l_r, l_br, l_e, kR1_0, kR1_1, kR1_2, kR1_3, bn0, bn1, bb0, bb1, bbb0, bbb1, bbb2, bbo0, bbo1, bbo2, bob0, bob1, bob2, b0, r0, br0, br1, po, pb h1, pb h2, pb h3]
  | less r s t =>
    obtain ⟨h1, h2, h3⟩ := h
    simp [b_is_row, PR.d, subTy, eq_tupF, eq_lstF, feqs, w_put, w_move, w_add, w_take, w_less, w_same, w_get, w_set, w_say, w_go, w_if, w_end, w_long, w_fault, w_beyond, okF_int, kninD, kixD, tb_FORMS, List.lookup, l_bn, l_bb, l_bbb, l_bbo, l_bob, l_b, l_r, l_br, l_e, kR1_0, kR1_1, kR1_2, kR1_3, bn0, bn1, bb0, bb1, bbb0, bbb1, bbb2, bbo0, bbo1, bbo2, bob0, bob1, bob2, b0, r0, br0, br1, po, pb h1, pb h2, pb h3]
  | same r s t =>
    obtain ⟨h1, h2, h3⟩ := h
    simp [b_is_row, PR.d, subTy, eq_tupF, eq_lstF, feqs, w_put, w_move, w_add, w_take, w_less, w_same, w_get, w_set, w_say, w_go, w_if, w_end, w_long, w_fault, w_beyond, okF_int, kninD, kixD, tb_FORMS, List.lookup, l_bn, l_bb, l_bbb, l_bbo, l_bob, l_b, l_r, l_br, l_e, kR1_0, kR1_1, kR1_2, kR1_3, bn0, bn1, bb0, bb1, bbb0, bbb1, bbb2, bbo0, bbo1, bbo2, bob0, bob1, bob2, b0, r0, br0, br1, po, pb h1, pb h2, pb h3]
  | get r s =>
    obtain ⟨h1, h2⟩ := h
    simp [b_is_row, PR.d, subTy, eq_tupF, eq_lstF, feqs, w_put, w_move, w_add, w_take, w_less, w_same, w_get, w_set, w_say, w_go, w_if, w_end, w_long, w_fault, w_beyond, okF_int, kninD, kixD, tb_FORMS, List.lookup, l_bn, l_bb, l_bbb, l_bbo, l_bob, l_b, l_r, l_br, l_e, kR1_0, kR1_1, kR1_2, kR1_3, bn0, bn1, bb0, bb1, bbb0, bbb1, bbb2, bbo0, bbo1, bbo2, bob0, bob1, bob2, b0, r0, br0, br1, po, pb h1, pb h2]
  | set r t =>
    obtain ⟨h1, h2⟩ := h
    simp [b_is_row, PR.d, subTy, eq_tupF, eq_lstF, feqs, w_put, w_move, w_add, w_take, w_less, w_same, w_get, w_set, w_say, w_go, w_if, w_end, w_long, w_fault, w_beyond, okF_int, kninD, kixD, tb_FORMS, List.lookup, l_bn, l_bb, l_bbb, l_bbo, l_bob, l_b, l_r, l_br, l_e, kR1_0, kR1_1, kR1_2, kR1_3, bn0, bn1, bb0, bb1, bbb0, bbb1, bbb2, bbo0, bbo1, bbo2, bob0, bob1, bob2, b0, r0, br0, br1, po, pb h1, pb h2]
  | say r =>
    have h1 : r < 6 := h
    simp [b_is_row, PR.d, subTy, eq_tupF, eq_lstF, feqs, w_put, w_move, w_add, w_take, w_less, w_same, w_get, w_set, w_say, w_go, w_if, w_end, w_long, w_fault, w_beyond, okF_int, kninD, kixD, tb_FORMS, List.lookup, l_bn, l_bb, l_bbb, l_bbo, l_bob, l_b, l_r, l_br, l_e, kR1_0, kR1_1, kR1_2, kR1_3, bn0, bn1, bb0, bb1, bbb0, bbb1, bbb2, bbo0, bbo1, bbo2, bob0, bob1, bob2, b0, r0, br0, br1, po, pb h1]
  | go g =>
    have h1 : g < rows := h
    simp [b_is_row, PR.d, subTy, eq_tupF, eq_lstF, feqs, w_put, w_move, w_add, w_take, w_less, w_same, w_get, w_set, w_say, w_go, w_if, w_end, w_long, w_fault, w_beyond, okF_int, kninD, kixD, tb_FORMS, List.lookup, l_bn, l_bb, l_bbb, l_bbo, l_bob, l_b, l_r, l_br, l_e, kR1_0, kR1_1, kR1_2, kR1_3, bn0, bn1, bb0, bb1, bbb0, bbb1, bbb2, bbo0, bbo1, bbo2, bob0, bob1, bob2, b0, r0, br0, br1, po, pr h1]
  | iff r g =>
    obtain ⟨h1, h2⟩ := h
    simp [b_is_row, PR.d, subTy, eq_tupF, eq_lstF, feqs, w_put, w_move, w_add, w_take, w_less, w_same, w_get, w_set, w_say, w_go, w_if, w_end, w_long, w_fault, w_beyond, okF_int, kninD, kixD, tb_FORMS, List.lookup, l_bn, l_bb, l_bbb, l_bbo, l_bob, l_b, l_r, l_br, l_e, kR1_0, kR1_1, kR1_2, kR1_3, bn0, bn1, bb0, bb1, bbb0, bbb1, bbb2, bbo0, bbo1, bbo2, bob0, bob1, bob2, b0, r0, br0, br1, po, pb h1, pr h2]
  | fin =>
    skip
    simp [b_is_row, PR.d, subTy, eq_tupF, eq_lstF, feqs, w_put, w_move, w_add, w_take, w_less, w_same, w_get, w_set, w_say, w_go, w_if, w_end, w_long, w_fault, w_beyond, okF_int, kninD, kixD, tb_FORMS, List.lookup, l_bn, l_bb, l_bbb, l_bbo, l_bob, l_b, l_r, l_br, l_e, kR1_0, kR1_1, kR1_2, kR1_3, bn0, bn1, bb0, bb1, bbb0, bbb1, bbb2, bbo0, bbo1, bbo2, bob0, bob1, bob2, b0, r0, br0, br1, po]
theorem plain_ok {p : PR} {rows : Nat} {A : AH} (h : p.ok rows) : m_is_plain_marked [p.d] A = .ok (.bl true) A := by
  have e0 : m_is_plain_marked [p.d] A = finS (b_is_plain_marked [some p.d, none, none] A) := rfl
  rw [e0]
  have six : ∀ {r : Nat}, r < 6 → ((6 : Int) ≤ r ↔ False) := fun h => ⟨fun q => by omega, False.elim⟩
  cases p with
  | put r n =>
    obtain ⟨h1, h2, h3⟩ := h
    simp [b_is_plain_marked, PR.d, g_WORDS, g_BOXES_marked, nin_str, slD, cutD, HT.sIx, maxD, itemsD, seqL, intsD, maxI, keysD, keyD, mergeD, ptK, lkK, getD2, dctD, eq_lstF, feqs, six h1]
  | move r s =>
    obtain ⟨h1, h2⟩ := h
    simp [b_is_plain_marked, PR.d, g_WORDS, g_BOXES_marked, nin_str, slD, cutD, HT.sIx, maxD, itemsD, seqL, intsD, maxI, keysD, keyD, mergeD, ptK, lkK, getD2, dctD, eq_lstF, feqs, six h1, six h2]
  | add r s t =>
    obtain ⟨h1, h2, h3⟩ := h
    simp [b_is_plain_marked, PR.d, g_WORDS, g_BOXES_marked, nin_str, slD, cutD, HT.sIx, maxD, itemsD, seqL, intsD, maxI, keysD, keyD, mergeD, ptK, lkK, getD2, dctD, eq_lstF, feqs, six h1, six h2, six h3]
  | take r s t =>
    obtain ⟨h1, h2, h3⟩ := h
    simp [b_is_plain_marked, PR.d, g_WORDS, g_BOXES_marked, nin_str, slD, cutD, HT.sIx, maxD, itemsD, seqL, intsD, maxI, keysD, keyD, mergeD, ptK, lkK, getD2, dctD, eq_lstF, feqs, six h1, six h2, six h3]
  | less r s t =>
    obtain ⟨h1, h2, h3⟩ := h
    simp [b_is_plain_marked, PR.d, g_WORDS, g_BOXES_marked, nin_str, slD, cutD, HT.sIx, maxD, itemsD, seqL, intsD, maxI, keysD, keyD, mergeD, ptK, lkK, getD2, dctD, eq_lstF, feqs, six h1, six h2, six h3]
  | same r s t =>
    obtain ⟨h1, h2, h3⟩ := h
    simp [b_is_plain_marked, PR.d, g_WORDS, g_BOXES_marked, nin_str, slD, cutD, HT.sIx, maxD, itemsD, seqL, intsD, maxI, keysD, keyD, mergeD, ptK, lkK, getD2, dctD, eq_lstF, feqs, six h1, six h2, six h3]
  | get r s =>
    obtain ⟨h1, h2⟩ := h
    simp [b_is_plain_marked, PR.d, g_WORDS, g_BOXES_marked, nin_str, slD, cutD, HT.sIx, maxD, itemsD, seqL, intsD, maxI, keysD, keyD, mergeD, ptK, lkK, getD2, dctD, eq_lstF, feqs]
    omega
  | set r t =>
    obtain ⟨h1, h2⟩ := h
    simp [b_is_plain_marked, PR.d, g_WORDS, g_BOXES_marked, nin_str, slD, cutD, HT.sIx, maxD, itemsD, seqL, intsD, maxI, keysD, keyD, mergeD, ptK, lkK, getD2, dctD, eq_lstF, feqs]
    omega
  | say r =>
    have h1 : r < 6 := h
    simp [b_is_plain_marked, PR.d, g_WORDS, g_BOXES_marked, nin_str, slD, cutD, HT.sIx, maxD, itemsD, seqL, intsD, maxI, keysD, keyD, mergeD, ptK, lkK, getD2, dctD, eq_lstF, feqs, six h1]
  | go g =>
    have h1 : g < rows := h
    simp [b_is_plain_marked, PR.d, g_WORDS, g_BOXES_marked, nin_str, slD, cutD, HT.sIx, maxD, itemsD, seqL, intsD, maxI, keysD, keyD, mergeD, ptK, lkK, getD2, dctD, eq_lstF, feqs]
  | iff r g =>
    obtain ⟨h1, h2⟩ := h
    simp [b_is_plain_marked, PR.d, g_WORDS, g_BOXES_marked, nin_str, slD, cutD, HT.sIx, maxD, itemsD, seqL, intsD, maxI, keysD, keyD, mergeD, ptK, lkK, getD2, dctD, eq_lstF, feqs, six h1]
  | fin =>
    skip
    simp [b_is_plain_marked, PR.d, g_WORDS, g_BOXES_marked, nin_str, slD, cutD, HT.sIx, maxD, itemsD, seqL, intsD, maxI, keysD, keyD, mergeD, ptK, lkK, getD2, dctD, eq_lstF, feqs]
def PR.f (p : PR) : List D := match p.d with
  | .tup ds => ds
  | _ => []
theorem PR.df (p : PR) : p.d = .tup p.f := by cases p <;> rfl
theorem PR.okf (p : PR) : p.f.all okF = true := by
  cases p <;> simp [PR.f, PR.d, okF_int, w_put, w_move, w_add, w_take, w_less, w_same, w_get, w_set, w_say, w_go, w_if, w_end, w_long, w_fault, w_beyond]
theorem eq_rows {prog : List PR} {A : AH} (h0 : prog ≠ []) : eqD (.tup (prog.map PR.d)) (.tup []) A = .ok (.bl false) A := by
  have e : prog.map PR.d = (prog.map PR.f).map D.tup := by
    rw [List.map_map]
    exact List.map_congr_left fun p _ => p.df
  rw [e]
  refine eq_tups_nil (fun ds hd => ?_) (by simpa using h0)
  obtain ⟨p, _, rfl⟩ := List.mem_map.mp hd
  exact p.okf
theorem rngN {j : Nat} (h : j ≤ 64) {A : AH} : kR1 (.ok [.int (j : Int)] A) = .ok (.data ((List.range j).map fun i : Nat => D.int (i : Int))) A := kR1_nat j A (Nat.lt_of_le_of_lt h (by decide))
def bNP : MS := mIfS (mOr (mTb (mBin geD (mv 1) (mc g_MOST_ROWS))) (mNot (mTb (mCall m_is_row (mCons (mBin ixD (mv 0) (mv 1)) (mCons (mCall lenD (mCons (mv 0) mNil)) mNil)))))) mNever mNx
theorem bNP_ok {prog : List PR} {A : AH} (hP : ∀ p ∈ prog, p.ok prog.length) (h1 : prog.length ≤ 60) {i : Nat} (hi : i < prog.length) : bNP [some (.tup (prog.map PR.d)), some (.int i)] A = .nx [some (.tup (prog.map PR.d)), some (.int i)] A := by
  have hq : atI (prog.map PR.d) (i : Int) = some (prog[i]).d := by
    rw [Tg.atI_nat, List.getElem?_map, List.getElem?_eq_getElem hi]
    rfl
  have h60 : ¬ (60 : Int) ≤ i := by omega
  simp [bNP, g_MOST_ROWS, hq, h60, row_ok (hP _ (List.getElem_mem hi))]
theorem loopN {b : MS} {x : D} {n : Nat} {A : AH} (hb : ∀ i, i < n → b [some x, some (.int (i : Int))] A = .nx [some x, some (.int (i : Int))] A) {o : Option D} : ∃ o', forL (gmN 1) b ((List.range n).map fun i : Nat => D.int (i : Int)) [some x, o] A = .nx [some x, o'] A := by
  obtain ⟨s', A', e, e2, o', e3⟩ := forL_inv (g := gmN 1) (b := b) (ds := (List.range n).map fun i : Nat => D.int (i : Int)) (s := [some x, o]) (A := A) (fun s' A' => A' = A ∧ ∃ o', s' = [some x, o']) ⟨rfl, o, rfl⟩ (fun d hd s B hB => by
    obtain ⟨e1, o', e2⟩ := hB
    subst e1 e2
    obtain ⟨i, hi, rfl⟩ := List.mem_map.mp hd
    exact ⟨_, _, _, rfl, hb i (List.mem_range.mp hi), rfl, _, rfl⟩)
  subst e2 e3
  exact ⟨o', e⟩
theorem rngLen {ds : List D} (h : ds.length < 16777216) {o : Sl} {A : AH} : mRng1 (mCons (mCall lenD (mCons (mv 0) mNil)) mNil) (some (.tup ds) :: o) A = .ok (.data ((List.range ds.length).map fun i : Nat => D.int (i : Int))) A := by
  have e : (mCons (mCall lenD (mCons (mv 0) mNil)) mNil) (some (.tup ds) :: o) A = .ok [.int (ds.length : Int)] A := rfl
  exact rng1 e h
theorem rngP {prog : List PR} (h : prog.length ≤ 60) {o : Sl} {A : AH} : mRng1 (mCons (mCall lenD (mCons (mv 0) mNil)) mNil) (some (.tup (prog.map PR.d)) :: o) A = .ok (.data ((List.range prog.length).map fun i : Nat => D.int (i : Int))) A := by
  have e := rngLen (ds := prog.map PR.d) (o := o) (A := A) (by rw [List.length_map]; exact Nat.lt_of_le_of_lt h (by decide))
  rwa [List.length_map] at e
theorem need_program_ok {prog : List PR} {A : AH} (hP : ∀ p ∈ prog, p.ok prog.length) (h0 : prog ≠ []) (h1 : prog.length ≤ 60) : m_need_program [.tup (prog.map PR.d)] A = .ok .non A := by
  have e0 : m_need_program [.tup (prog.map PR.d)] A = finS (b_need_program [some (.tup (prog.map PR.d)), none] A) := rfl
  have e1 : eqD (.tup (prog.map PR.d)) (.tup []) A = .ok (.bl false) A := eq_rows h0
  obtain ⟨o', e2⟩ := loopN (A := A) (fun i hi => bNP_ok hP h1 hi) (o := none)
  have e3 : mFor (mRng1 (mCons (mCall lenD (mCons (mv 0) mNil)) mNil)) (gmN 1) bNP [some (.tup (prog.map PR.d)), none] A = .nx [some (.tup (prog.map PR.d)), o'] A := by
    rw [mFor_data (ds := (List.range prog.length).map fun i : Nat => D.int (i : Int)) (A1 := A) (rngP h1)]
    exact e2
  rw [e0]
  have e4 : b_need_program = mSeq (mIfS (mOr (mNot (mTb (mUn (isiD "tuple") (mv 0)))) (mTb (mBin eqD (mv 0) (mTup mNil)))) mNever mNx) (mFor (mRng1 (mCons (mCall lenD (mCons (mv 0) mNil)) mNil)) (gmN 1) bNP) := rfl
  rw [e4]
  have c1 : mIfS (mOr (mNot (mTb (mUn (isiD "tuple") (mv 0)))) (mTb (mBin eqD (mv 0) (mTup mNil)))) mNever mNx [some (.tup (prog.map PR.d)), none] A = .nx [some (.tup (prog.map PR.d)), none] A := by
    simp [subTy, e1]
  rw [e_seq, c1, RS.nxt_nx, e3]
  rfl
def bNl : MS := mIfS (mOr (mTb (mBin geD (mv 1) (mc g_MOST_PLAIN))) (mNot (mTb (mCall m_is_plain_marked (mCons (mBin ixD (mv 0) (mv 1)) mNil))))) mNever mNx
theorem bNl_ok {prog : List PR} {A : AH} (hP : ∀ p ∈ prog, p.ok prog.length) (h1 : prog.length ≤ 30) {i : Nat} (hi : i < prog.length) : bNl [some (.tup (prog.map PR.d)), some (.int i)] A = .nx [some (.tup (prog.map PR.d)), some (.int i)] A := by
  have hq : atI (prog.map PR.d) (i : Int) = some (prog[i]).d := by
    rw [Tg.atI_nat, List.getElem?_map, List.getElem?_eq_getElem hi]
    rfl
  have h30 : ¬ (30 : Int) ≤ i := by omega
  simp [bNl, g_MOST_PLAIN, hq, h30, plain_ok (hP _ (List.getElem_mem hi))]
theorem need_plain_ok {prog : List PR} {A : AH} (hP : ∀ p ∈ prog, p.ok prog.length) (h0 : prog ≠ []) (h1 : prog.length ≤ 30) : m_need_plain [.tup (prog.map PR.d)] A = .ok .non A := by
  have e0 : m_need_plain [.tup (prog.map PR.d)] A = finS ((mDrop (mCall m_need_program (mCons (mv 0) mNil)) [some (.tup (prog.map PR.d)), none] A).nxt (mFor (mRng1 (mCons (mCall lenD (mCons (mv 0) mNil)) mNil)) (gmN 1) bNl)) := rfl
  obtain ⟨o', e2⟩ := loopN (A := A) (fun i hi => bNl_ok hP h1 hi) (o := none)
  have e3 : mFor (mRng1 (mCons (mCall lenD (mCons (mv 0) mNil)) mNil)) (gmN 1) bNl [some (.tup (prog.map PR.d)), none] A = .nx [some (.tup (prog.map PR.d)), o'] A := by
    rw [mFor_data (ds := (List.range prog.length).map fun i : Nat => D.int (i : Int)) (A1 := A) (rngP (Nat.le_trans h1 (by decide)))]
    exact e2
  have c1 : mDrop (mCall m_need_program (mCons (mv 0) mNil)) [some (.tup (prog.map PR.d)), none] A = .nx [some (.tup (prog.map PR.d)), none] A := by
    simp [need_program_ok hP h0 (Nat.le_trans h1 (by decide))]
  rw [e0, c1, RS.nxt_nx, e3]
  rfl
theorem need_fuel_ok {fuel : Int} {A : AH} (h0 : 0 ≤ fuel) (h1 : fuel ≤ 3000) : m_need_fuel [.int fuel] A = .ok .non A := by
  have e0 : m_need_fuel [.int fuel] A = finS (b_need_fuel [some (.int fuel)] A) := rfl
  rw [e0]
  simp [b_need_fuel, g_MOST_FUEL, within_ok h0 (show fuel < 3001 by omega)]
def bNn : MS := mIfS (mOr (mTb (mBin geD (mv 1) (mCall lenD (mCons (mv 0) mNil)))) (mOr (mTb (mBin geD (mv 1) (mc g_CELLS))) (mNot (mTb (mCall m_is_within (mCons (mBin ixD (mv 0) (mv 1)) (mCons (mBin subD (mc (.int (0))) (mc g_HALF)) (mCons (mc g_HALF) mNil)))))))) mNever mNx
theorem bNn_ok {cells : List Int} {A : AH} (hl : cells.length = 64) (hc : ∀ z ∈ cells, -10000 ≤ z ∧ z < 10000) {i : Nat} (hi : i < 64) : bNn [some (.lst (cells.map .int)), some (.int i)] A = .nx [some (.lst (cells.map .int)), some (.int i)] A := by
  have hq := at_map (xs := cells) (r := i) (by omega)
  have hm : cells.getD i 0 ∈ cells := by
    rw [List.getD_eq_getElem?_getD, List.getElem?_eq_getElem (by omega)]
    exact List.getElem_mem _
  have h64 : ¬ (64 : Int) ≤ i := by omega
  have hw : ∀ B, m_is_within [.int (cells.getD i 0), .int (-10000), .int 10000] B = .ok (.bl true) B := fun B => within_ok (hc _ hm).1 (hc _ hm).2
  rw [List.getD_eq_getElem?_getD] at hq hw
  simp [bNn, g_CELLS, g_HALF, hq, h64, hl, hw]
theorem need_numbers_ok {cells : List Int} {A : AH} (hl : cells.length = 64) (hc : ∀ z ∈ cells, -10000 ≤ z ∧ z < 10000) : m_need_numbers [.lst (cells.map .int)] A = .ok .non A := by
  have e0 : m_need_numbers [.lst (cells.map .int)] A = finS (mFor (mRng1 (mCons (mCall maxD (mCons (mc g_CELLS) (mCons (mCall lenD (mCons (mv 0) mNil)) mNil))) mNil)) (gmN 1) bNn [some (.lst (cells.map .int)), none] A) := rfl
  have e1 : (mCons (mCall maxD (mCons (mc g_CELLS) (mCons (mCall lenD (mCons (mv 0) mNil)) mNil))) mNil) [some (.lst (cells.map .int)), none] A = .ok [.int ((64 : Nat) : Int)] A := by
    simp [g_CELLS, maxD, hl]
  obtain ⟨o', e2⟩ := loopN (A := A) (n := 64) (fun i hi => bNn_ok hl hc hi) (o := none)
  have e3 : mFor (mRng1 (mCons (mCall maxD (mCons (mc g_CELLS) (mCons (mCall lenD (mCons (mv 0) mNil)) mNil))) mNil)) (gmN 1) bNn [some (.lst (cells.map .int)), none] A = .nx [some (.lst (cells.map .int)), o'] A := by
    rw [mFor_data (ds := (List.range 64).map fun i : Nat => D.int (i : Int)) (A1 := A) (rng1 e1 (by decide))]
    exact e2
  rw [e0, e3]
  rfl
def m0 (cells : List Int) : M := { cells := cells, boxes := [0, 0, 0, 0, 0, 0], said := [], here := 0, steps := 0, en := none }
theorem init_ok {A0 : AH} {prog : List PR} {cells : List Int} : m_Plain___init__ [.ref A0.length, .tup (prog.map PR.d), .lst (cells.map .int)] (A0 ++ [.ins "Plain" []]) = .ok .non (enc A0 prog (m0 cells)) := by
  have e0 : m_Plain___init__ [.ref A0.length, .tup (prog.map PR.d), .lst (cells.map .int)] (A0 ++ [.ins "Plain" []]) = finS (b_Plain___init__ [some (.ref A0.length), some (.tup (prog.map PR.d)), some (.lst (cells.map .int))] (A0 ++ [.ins "Plain" []])) := rfl
  rw [e0]
  simp [b_Plain___init__, cs_program, cs_store, cs_held, cs_here, cs_talk, cs_steps, cs_end, sfld_ref, putFD, listN, itemsD, seqL, mulN, lstL, g_BOXES_marked, repD, enc, fs, m0, List.replicate]
end K16


set_option Elab.async false
set_option linter.all false
set_option maxRecDepth 100000
set_option maxHeartbeats 4000000
/-! K16Q: run_places, the law's own going. -/
namespace K16
open PySem Tg L2
@[simp] theorem chk_c {rows : Nat} {m : M} : (chk rows m).cells = m.cells := by unfold chk; split <;> rfl
@[simp] theorem chk_b {rows : Nat} {m : M} : (chk rows m).boxes = m.boxes := by unfold chk; split <;> rfl
@[simp] theorem chk_s {rows : Nat} {m : M} : (chk rows m).said = m.said := by unfold chk; split <;> rfl
@[simp] theorem chk_t {rows : Nat} {m : M} : (chk rows m).steps = m.steps := by unfold chk; split <;> rfl
def longD : D := .tup [.str "long"]
def fin (prog : List PR) (cells : List Int) (fuel : Int) : M := runM prog fuel fuelN (m0 cells)
theorem m0_ok {prog : List PR} {cells : List Int} (hl : cells.length = 64) (h0 : prog ≠ []) : (m0 cells).Ok prog.length :=
  ⟨hl, rfl, fun _ => List.length_pos_iff.mpr h0, Nat.le_refl _, fun d q => by cases q⟩
def rets : MS := (mRet (mTup (mCons (mFld cs_talk "talk" (mv 3)) (mCons (mIf (mTb (mBin isD (mFld cs_end "end" (mv 3)) (mc .non))) (mc g_LONG) (mFld cs_end "end" (mv 3))) (mCons (mFld cs_steps "steps" (mv 3)) (mCons (mFld cs_store "store" (mv 3)) mNil))))))
def r1 : MS := (mDrop (mCall m_need_plain (mCons (mv 0) mNil)))
def r2 : MS := (mDrop (mCall m_need_numbers (mCons (mv 1) mNil)))
def r3 : MS := (mDrop (mCall m_need_fuel (mCons (mv 2) mNil)))
def r4 : MS := (mAsg (mMake "Plain" m_Plain___init__ (mCons (mv 0) (mCons (mv 1) mNil))) (gmN 3))
theorem ret_ok {A0 : AH} {prog : List PR} {m : M} {p c f : D} (ok : m.Ok prog.length) : finS (rets [some p, some c, some f, some (.ref A0.length)] (enc A0 prog m)) = .ok (.tup [.ref (A0.length + 3), m.en.getD longD, .int m.steps, .ref (A0.length + 1)]) (enc A0 prog m) := by
  cases he : m.en with
  | none => simp [rets, enc, fs, fld_ref, cs_talk, cs_end, cs_steps, cs_store, List.lookup, he, Tg.isNon, g_LONG, longD]
  | some e => simp [rets, enc, fs, fld_ref, cs_talk, cs_end, cs_steps, cs_store, List.lookup, he, ok.e e he]
theorem run_ok {A0 : AH} {prog : List PR} {cells : List Int} {fuel : Int} (hP : ∀ p ∈ prog, p.ok prog.length) (h0 : prog ≠ []) (h1 : prog.length ≤ 30) (hl : cells.length = 64) (hc : ∀ z ∈ cells, -10000 ≤ z ∧ z < 10000) (f0 : 0 ≤ fuel) (f1 : fuel ≤ 3000) :
    m_run_places [.tup (prog.map PR.d), .lst (cells.map .int), .int fuel] A0 = .ok (.tup [.ref (A0.length + 3), ((fin prog cells fuel).en).getD longD, .int (fin prog cells fuel).steps, .ref (A0.length + 1)]) (enc A0 prog (fin prog cells fuel)) ∧ (fin prog cells fuel).Ok prog.length ∧ (fin prog cells fuel).steps ≤ 5000 := by
  have e0 : m_run_places [.tup (prog.map PR.d), .lst (cells.map .int), .int fuel] A0 = finS (b_run_places [some (.tup (prog.map PR.d)), some (.lst (cells.map .int)), some (.int fuel), none] A0) := rfl
  have hN : (fuelN : Nat) = 1000000 := rfl
  obtain ⟨l1, l2, l3⟩ := loop_ok (A0 := A0) (prog := prog) (c := .lst (cells.map .int)) (fuel := fuel) hP (by omega) fuelN (m0 cells) (m0_ok hl h0) (.inl f0) (by rw [hN]; show fuel - ((0 : Nat) : Int) < _; omega) (by rw [hN]; decide)
  refine ⟨?_, l2, l3⟩
  have eb : b_run_places = mSeq r1 (mSeq r2 (mSeq r3 (mSeq r4 (mSeq (whG cW bW fuelN) rets)))) := rfl
  have c1 : r1 [some (.tup (prog.map PR.d)), some (.lst (cells.map .int)), some (.int fuel), none] A0 = .nx [some (.tup (prog.map PR.d)), some (.lst (cells.map .int)), some (.int fuel), none] A0 := by simp [r1, need_plain_ok hP h0 h1]
  have c2 : r2 [some (.tup (prog.map PR.d)), some (.lst (cells.map .int)), some (.int fuel), none] A0 = .nx [some (.tup (prog.map PR.d)), some (.lst (cells.map .int)), some (.int fuel), none] A0 := by simp [r2, need_numbers_ok hl hc]
  have c3 : r3 [some (.tup (prog.map PR.d)), some (.lst (cells.map .int)), some (.int fuel), none] A0 = .nx [some (.tup (prog.map PR.d)), some (.lst (cells.map .int)), some (.int fuel), none] A0 := by simp [r3, need_fuel_ok f0 f1]
  have c4 : r4 [some (.tup (prog.map PR.d)), some (.lst (cells.map .int)), some (.int fuel), none] A0 = .nx [some (.tup (prog.map PR.d)), some (.lst (cells.map .int)), some (.int fuel), some (.ref A0.length)] (enc A0 prog (m0 cells)) := by simp [r4, init_ok]
  rw [e0, eb, e_seq, c1, RS.nxt_nx, e_seq, c2, RS.nxt_nx, e_seq, c3, RS.nxt_nx, e_seq, c4, RS.nxt_nx, e_seq, l1, RS.nxt_nx]
  exact ret_ok l2
def faultD (k : Nat) : D := .tup [.str "fault", .str "beyond", .int k]
theorem tk : m__law_taken = m_taken := rfl
theorem alike_eq : ∀ n : Nat, m__law_alike n = m_alike n
  | 0 => rfl
  | n + 1 => by
    show mFun 2 3 (b__law_alike (m__law_alike n)) = mFun 2 3 (b_alike (m_alike n))
    rw [alike_eq n]
    rfl
theorem takenN {r : Nat} {ns : List Int} {A : AH} (many : Int) (h : RowAt r ns A) (hm : 0 < many ∧ many < 1073741824) : ∃ (v : Nat) (A' : AH), m_taken [.ref r, .int many] A = .ok (.int (v : Int)) A' ∧ RowAt r ns A' ∧ (v : Int) < many := by
  obtain ⟨v, A', e, h1, h2, h3⟩ := takenR many h hm
  obtain ⟨n, rfl⟩ := Int.eq_ofNat_of_zero_le h2
  exact ⟨n, A', e, h1, h3⟩
theorem number_ok {r : Nat} {ns : List Int} {A : AH} (h : RowAt r ns A) : ∃ v A', m__law_number [.ref r] A = .ok (.int v) A' ∧ RowAt r ns A' ∧ -10000 ≤ v ∧ v < 10000 := by
  have e0 : m__law_number [.ref r] A = finS (b__law_number [some (.ref r), none] A) := rfl
  obtain ⟨w, A1, e1, h1, w1⟩ := takenN 6 h ⟨by omega, by omega⟩
  by_cases h4 : (w : Int) < 4
  · obtain ⟨x, A2, e2, h2, x1⟩ := takenN 5 h1 ⟨by omega, by omega⟩
    obtain ⟨y, A3, e3, h3, y1⟩ := takenN 70 h2 ⟨by omega, by omega⟩
    obtain ⟨z, A4, e4, h4', z1⟩ := takenN 40 h3 ⟨by omega, by omega⟩
    have hw : w = 0 ∨ w = 1 ∨ w = 2 ∨ w = 3 := by omega
    rcases hw with rfl | rfl | rfl | rfl
    · exact ⟨x, A4, by rw [e0]; simp at e1; simp [b__law_number, tk, e1, e2, e3, e4], h4', by omega, by omega⟩
    · exact ⟨y, A4, by rw [e0]; simp at e1; simp [b__law_number, tk, e1, e2, e3, e4], h4', by omega, by omega⟩
    · exact ⟨z - 20, A4, by rw [e0]; simp at e1; simp [b__law_number, tk, e1, e2, e3, e4], h4', by omega, by omega⟩
    · exact ⟨1, A4, by rw [e0]; simp at e1; simp [b__law_number, tk, e1, e2, e3, e4], h4', by omega, by omega⟩
  · obtain ⟨x, A2, e2, h2, x1⟩ := takenN 20000 h1 ⟨by omega, by omega⟩
    obtain ⟨y, A3, e3, h3, y1⟩ := takenN 2 h2 ⟨by omega, by omega⟩
    have hw : w = 4 ∨ w = 5 := by omega
    have hy : y = 0 ∨ y = 1 := by omega
    rcases hw with rfl | rfl
    · rcases hy with rfl | rfl
      · exact ⟨x - 10000, A3, by rw [e0]; simp at e1 e3; simp [b__law_number, tk, e1, e2, e3], h3, by omega, by omega⟩
      · exact ⟨x - 10000, A3, by rw [e0]; simp at e1 e3; simp [b__law_number, tk, e1, e2, e3], h3, by omega, by omega⟩
    · rcases hy with rfl | rfl
      · exact ⟨9999, A3, by rw [e0]; simp at e1 e3; simp [b__law_number, tk, e1, e2, e3], h3, by omega, by omega⟩
      · exact ⟨-10000, A3, by rw [e0]; simp at e1 e3; simp [b__law_number, tk, e1, e2, e3], h3, by omega, by omega⟩
def wl : List D := [.str "put", .str "put", .str "move", .str "add", .str "take", .str "less", .str "same", .str "get", .str "get", .str "set", .str "set", .str "say", .str "say", .str "go", .str "if", .str "if", .str "end"]
theorem wl_at {w : Nat} (h : (w : Int) < 17) : ∃ z : String, atI wl (w : Int) = some (.str z) ∧ (z = "put" ∨ z = "move" ∨ z = "add" ∨ z = "take" ∨ z = "less" ∨ z = "same" ∨ z = "get" ∨ z = "set" ∨ z = "say" ∨ z = "go" ∨ z = "if" ∨ z = "end") := by
  have hw : w = 0 ∨ w = 1 ∨ w = 2 ∨ w = 3 ∨ w = 4 ∨ w = 5 ∨ w = 6 ∨ w = 7 ∨ w = 8 ∨ w = 9 ∨ w = 10 ∨ w = 11 ∨ w = 12 ∨ w = 13 ∨ w = 14 ∨ w = 15 ∨ w = 16 := by omega
  rcases hw with rfl | rfl | rfl | rfl | rfl | rfl | rfl | rfl | rfl | rfl | rfl | rfl | rfl | rfl | rfl | rfl | rfl
  all_goals exact ⟨_, rfl, by decide⟩
theorem row_made {r : Nat} {ns : List Int} {A : AH} {a : D} {rows : Nat} (h : RowAt r ns A) (h0 : 0 < rows) (h1 : rows < 100) : ∃ (p : PR) (A' : AH), m__law_plain_row [.ref r, a, .int rows] A = .ok p.d A' ∧ RowAt r ns A' ∧ p.ok rows := by
  have e0 : m__law_plain_row [.ref r, a, .int rows] A = finS (b__law_plain_row [some (.ref r), some a, some (.int rows), none, none, none, none, none, none, none] A) := rfl
  obtain ⟨w, A1, e1, h1', w1⟩ := takenN 17 h ⟨by omega, by omega⟩
  obtain ⟨x, A2, e2, h2, x1⟩ := takenN 6 h1' ⟨by omega, by omega⟩
  obtain ⟨y, A3, e3, h3, y1⟩ := takenN 6 h2 ⟨by omega, by omega⟩
  obtain ⟨z, A4, e4, h4, z1⟩ := takenN 6 h3 ⟨by omega, by omega⟩
  obtain ⟨g, A5, e5, h5, g1⟩ := takenN (rows : Int) h4 ⟨by omega, by omega⟩
  obtain ⟨u, A6, e6, h6, u1⟩ := takenN 64 h5 ⟨by omega, by omega⟩
  obtain ⟨v, A7, e7, h7, v0, v1⟩ := number_ok h6
  obtain ⟨k, A8, e8, h8, k1⟩ := takenN 2 h7 ⟨by omega, by omega⟩
  obtain ⟨q, hq, hz⟩ := wl_at w1
  unfold wl at hq
  have hk : ∃ i : Int, -10000 ≤ i ∧ i < 10000 ∧ atI [D.int (u : Int), D.int v] (k : Int) = some (.int i) := by
    have hk : k = 0 ∨ k = 1 := by omega
    rcases hk with rfl | rfl
    · exact ⟨u, by omega, by omega, at0⟩
    · exact ⟨v, v0, v1, at1⟩
  obtain ⟨i, i0, i1, hi⟩ := hk
  have x2 : x < 6 := by omega
  have y2 : y < 6 := by omega
  have z2 : z < 6 := by omega
  have g2 : g < rows := by omega
  rcases hz with rfl | rfl | rfl | rfl | rfl | rfl | rfl | rfl | rfl | rfl | rfl | rfl
  · refine ⟨.put x i, A8 ++ [?o], ?e, h8.app _, ⟨x2, i0, i1⟩⟩
    case e =>
      rw [e0]
      simp [b__law_plain_row, tk, e1, e2, e3, e4, e5, hq, addD, lstL, in_str, e6, e7, e8, hi, keysD, keyD, mergeD, ptK, lkK, updD, dct_ref, pairsD, ix_strU, PR.d]
      try rfl
  · refine ⟨.move x y, A8 ++ [?o], ?e, h8.app _, ⟨x2, y2⟩⟩
    case e =>
      rw [e0]
      simp [b__law_plain_row, tk, e1, e2, e3, e4, e5, hq, addD, lstL, in_str, e6, e7, e8, hi, keysD, keyD, mergeD, ptK, lkK, updD, dct_ref, pairsD, ix_strU, PR.d]
      try rfl
  · exact ⟨.add x y z, A5, by rw [e0]; simp [b__law_plain_row, tk, e1, e2, e3, e4, e5, hq, addD, lstL, in_str]; rfl, h5, x2, y2, z2⟩
  · exact ⟨.take x y z, A5, by rw [e0]; simp [b__law_plain_row, tk, e1, e2, e3, e4, e5, hq, addD, lstL, in_str]; rfl, h5, x2, y2, z2⟩
  · exact ⟨.less x y z, A5, by rw [e0]; simp [b__law_plain_row, tk, e1, e2, e3, e4, e5, hq, addD, lstL, in_str]; rfl, h5, x2, y2, z2⟩
  · exact ⟨.same x y z, A5, by rw [e0]; simp [b__law_plain_row, tk, e1, e2, e3, e4, e5, hq, addD, lstL, in_str]; rfl, h5, x2, y2, z2⟩
  · refine ⟨.get x y, A8 ++ [?o], ?e, h8.app _, ⟨x2, y2⟩⟩
    case e =>
      rw [e0]
      simp [b__law_plain_row, tk, e1, e2, e3, e4, e5, hq, addD, lstL, in_str, e6, e7, e8, hi, keysD, keyD, mergeD, ptK, lkK, updD, dct_ref, pairsD, ix_strU, PR.d]
      try rfl
  · refine ⟨.set x y, A8 ++ [?o], ?e, h8.app _, ⟨x2, y2⟩⟩
    case e =>
      rw [e0]
      simp [b__law_plain_row, tk, e1, e2, e3, e4, e5, hq, addD, lstL, in_str, e6, e7, e8, hi, keysD, keyD, mergeD, ptK, lkK, updD, dct_ref, pairsD, ix_strU, PR.d]
      try rfl
  · refine ⟨.say x, A8 ++ [?o], ?e, h8.app _, x2⟩
    case e =>
      rw [e0]
      simp [b__law_plain_row, tk, e1, e2, e3, e4, e5, hq, addD, lstL, in_str, e6, e7, e8, hi, keysD, keyD, mergeD, ptK, lkK, updD, dct_ref, pairsD, ix_strU, PR.d]
      try rfl
  · refine ⟨.go g, A8 ++ [?o], ?e, h8.app _, g2⟩
    case e =>
      rw [e0]
      simp [b__law_plain_row, tk, e1, e2, e3, e4, e5, hq, addD, lstL, in_str, e6, e7, e8, hi, keysD, keyD, mergeD, ptK, lkK, updD, dct_ref, pairsD, ix_strU, PR.d]
      try rfl
  · refine ⟨.iff x g, A8 ++ [?o], ?e, h8.app _, ⟨x2, g2⟩⟩
    case e =>
      rw [e0]
      simp [b__law_plain_row, tk, e1, e2, e3, e4, e5, hq, addD, lstL, in_str, e6, e7, e8, hi, keysD, keyD, mergeD, ptK, lkK, updD, dct_ref, pairsD, ix_strU, PR.d]
      try rfl
  · refine ⟨.fin , A8 ++ [?o], ?e, h8.app _, trivial⟩
    case e =>
      rw [e0]
      simp [b__law_plain_row, tk, e1, e2, e3, e4, e5, hq, addD, lstL, in_str, e6, e7, e8, hi, keysD, keyD, mergeD, ptK, lkK, updD, dct_ref, pairsD, ix_strU, PR.d]
      try rfl
def bT : ME := mCall m__law_plain_row (mCons (mv 0) (mCons (mv 4) (mCons (mv 2) mNil)))
def bU : ME := mIf (mAnd (mTb (mBin eqD (mv 5) (mTup (mCons (mc (.str "end")) mNil)))) (mTb (mBin gtD (mCall m__law_taken (mCons (mv 0) (mCons (mc (.int (4))) mNil))) (mc (.int (0)))))) (mTup (mCons (mc (.str "say")) (mCons (mc (.int (1))) mNil))) (mv 5)
def p1 : MS := (mAsg (mBin addD (mc (.int (1))) (mCall m__law_taken (mCons (mv 0) (mCons (mv 1) mNil)))) (gmN 2))
def p2 : MS := (mAsg (mLc (mRng1 (mCons (mv 2) mNil)) (gmN 4) mYes (mCall m__law_plain_row (mCons (mv 0) (mCons (mv 4) (mCons (mv 2) mNil)))) [4] finF) (gmN 3))
def p3 : MS := (mRet (mCall tupD (mCons (mLc (miAny (mv 3)) (gmN 5) mYes (mIf (mAnd (mTb (mBin eqD (mv 5) (mTup (mCons (mc (.str "end")) mNil)))) (mTb (mBin gtD (mCall m__law_taken (mCons (mv 0) (mCons (mc (.int (4))) mNil))) (mc (.int (0)))))) (mTup (mCons (mc (.str "say")) (mCons (mc (.int (1))) mNil))) (mv 5)) [5] finF) mNil)))
theorem eq_end {p : PR} {A : AH} : eqD p.d (.tup [.str "end"]) A = .ok (.bl (feqs p.f [.str "end"])) A := by
  rw [p.df]
  refine eq_tupF ?_
  rw [p.okf]
  decide +kernel
theorem plainL_ok {r : Nat} {ns : List Int} {A : AH} {most : Int} (h : RowAt r ns A) (hm : 0 < most ∧ most ≤ 30) : ∃ (prog : List PR) (A' : AH), m__law_plain [.ref r, .int most] A = .ok (.tup (prog.map PR.d)) A' ∧ RowAt r ns A' ∧ (∀ p ∈ prog, p.ok prog.length) ∧ prog ≠ [] ∧ prog.length ≤ 30 := by
  have e0 : m__law_plain [.ref r, .int most] A = finS (b__law_plain [some (.ref r), some (.int most), none, none, none, none] A) := rfl
  obtain ⟨w, A1, e1, h1, w1⟩ := takenN most h ⟨by omega, by omega⟩
  have c1 : p1 [some (.ref r), some (.int most), none, none, none, none] A = .nx [some (.ref r), some (.int most), some (.int ((1 + w : Nat) : Int)), none, none, none] A1 := by
    simp [p1, tk, e1]
  have e2 : (mCons (mv 2) mNil) [some (.ref r), some (.int most), some (.int ((1 + w : Nat) : Int)), none, none, none] A1 = .ok [.int ((1 + w : Nat) : Int)] A1 := rfl
  have hw : 1 + w < 16777216 := by omega
  obtain ⟨ys, A2, e3, h2, l2, P2⟩ := lc_gen (g := gmN 4) (tt := mYes) (te := bT) (vs := [4]) (RowAt r ns) (fun d => ∃ p : PR, d = p.d ∧ p.ok (1 + w)) (rng1 e2 hw) (by rw [List.length_map, List.length_range]; exact hw) h1 (fun d _ B hB => by
    obtain ⟨p, B', e, hB', hp⟩ := row_made (a := d) (rows := 1 + w) hB (by omega) (by omega)
    exact ⟨_, p.d, B', rfl, rfl, by simp at e; simp [bT, wpD, e], hB', p, rfl, hp⟩)
  rw [List.length_map, List.length_range] at l2
  have c2 : p2 [some (.ref r), some (.int most), some (.int ((1 + w : Nat) : Int)), none, none, none] A1 = .nx [some (.ref r), some (.int most), some (.int ((1 + w : Nat) : Int)), some (.lst ys), none, none] A2 := by
    show (mAsg (mLc (mRng1 (mCons (mv 2) mNil)) (gmN 4) mYes bT [4] finF) (gmN 3)) _ _ = _
    rw [e_asgN, e3]
    rfl
  have e4 : miAny (mv 3) [some (.ref r), some (.int most), some (.int ((1 + w : Nat) : Int)), some (.lst ys), none, none] A2 = .ok (.data ys) A2 := by simp
  obtain ⟨zs, A3, e5, h3, l3, P3⟩ := lc_gen (g := gmN 5) (tt := mYes) (te := bU) (vs := [5]) (RowAt r ns) (fun d => ∃ p : PR, d = p.d ∧ p.ok (1 + w)) e4 (by omega) h2 (fun d hd B hB => by
    obtain ⟨p, rfl, hp⟩ := P2 d hd
    cases hE : feqs p.f [.str "end"] with
    | false => exact ⟨_, p.d, B, rfl, rfl, by simp [bU, wpD, eq_end, hE], hB, p, rfl, hp⟩
    | true =>
      obtain ⟨v, B', e, hB', v1⟩ := takenN 4 hB ⟨by omega, by omega⟩
      by_cases hv : v = 0
      · exact ⟨_, p.d, B', rfl, rfl, by simp [bU, wpD, eq_end, hE, tk, e, hv], hB', p, rfl, hp⟩
      · have hv2 : 0 < v := by omega
        exact ⟨_, (PR.say 1).d, B', rfl, rfl, by simp [bU, wpD, eq_end, hE, tk, e, hv2, show (PR.say 1).d = .tup [.str "say", .int 1] from rfl], hB', .say 1, rfl, by show 1 < 6; omega⟩)
  obtain ⟨prog, rfl, hP⟩ := maps_of P3
  rw [List.length_map] at l3
  have hlen : prog.length = 1 + w := by omega
  have c3 : p3 [some (.ref r), some (.int most), some (.int ((1 + w : Nat) : Int)), some (.lst ys), none, none] A2 = .rt (.tup (prog.map PR.d)) A3 := by
    show (mRet (mCall tupD (mCons (mLc (miAny (mv 3)) (gmN 5) mYes bU [5] finF) mNil))) _ _ = _
    rw [e_ret, e_call, e_cons, e5]
    rfl
  refine ⟨prog, A3, ?_, h3, fun p hp => by rw [hlen]; exact hP p hp, fun q => by rw [q] at hlen; simp at hlen; omega, by omega⟩
  have eb : b__law_plain = mSeq p1 (mSeq p2 p3) := rfl
  rw [e0, eb, e_seq, c1, RS.nxt_nx, e_seq, c2, RS.nxt_nx, c3]
  rfl
section
variable {A : AH}
theorem alike_end {n : Nat} {e : D} (h : e = longD ∨ e = endD ∨ ∃ k, e = faultD k) : m_alike (n + 2) [e, e] A = .ok (.bl true) A := by
  rcases h with rfl | rfl | ⟨k, rfl⟩
  · refine alike_tup rfl (by simp) fun i hi => ?_
    rcases i with _ | i
    · exact alike_str
    · exfalso
      simp only [List.length_cons, List.length_nil] at hi
      omega
  · refine alike_tup rfl (by simp) fun i hi => ?_
    rcases i with _ | i
    · exact alike_str
    · exfalso
      simp only [List.length_cons, List.length_nil] at hi
      omega
  · refine alike_tup rfl (by simp) fun i hi => ?_
    rcases i with _ | _ | _ | i
    · exact alike_str
    · exact alike_str
    · exact alike_int
    · exfalso
      simp only [List.length_cons, List.length_nil] at hi
      omega
end
end K16

set_option Elab.async false
set_option linter.all false
set_option maxRecDepth 100000
set_option maxHeartbeats 4000000
/-! K16K: rows done by AtOnce and by Lazy, where there are no rooms: numbers and one key. -/
namespace K16
open PySem Tg L2
open SX (S)
theorem mt_ok {T : String} {f : D → List D → AH → R D} {o : ME} {ma : MA} {s : Sl} {A A1 A2 A3 : AH} {x d : D} {ds : List D} (ho : o s A = .ok x A1) (ty : tyMD A1 T x = true) (ha : ma s A1 = .ok ds A2) (hf : f x ds A2 = .ok d A3) : mMt T f o ma s A = .ok d A3 := by
  rw [e_mt, ho, kM1_0, if_pos ty, ha, kM2_0, hf]
theorem fin_of {m : MS} {s : Sl} {A A1 : AH} {d : D} (h : m s A = .rt d A1) : finS (m s A) = .ok d A1 := by rw [h, finS_rt]
theorem fin_x {m : MS} {s s2 : Sl} {A A1 : AH} {x : XV} (h : m s A = .exc x s2 A1) : finS (m s A) = .exc x A1 := by rw [h, finS_x]
theorem fin_nx {m : MS} {s s2 : Sl} {A A1 : AH} (h : m s A = .nx s2 A1) : finS (m s A) = .ok .non A1 := by rw [h, finS_nx]
theorem try_nx {c f c0 w : Str} {i : Nat} {mb : MS} {cs : List Str} {mo mh : ME} {s s2 : Sl} {A A1 : AH} (h : mb s A = .nx s2 A1) : mTryW c i mb cs f c0 w mo mh s A = .nx s2 A1 := by
  unfold mTryW
  rw [h]
theorem try_x {c f c0 w : Str} {i : Nat} {mb : MS} {cs : List Str} {mo mh : ME} {s s2 : Sl} {A A1 A2 A3 A4 : AH} {dw dh o : D} (h : mb s A = .exc ⟨c, some [(w, dw)]⟩ s2 A1) (hi : i < s2.length) (hh : mh (s2.set i none) A1 = .ok dh A2) (ho : mo (s2.set i none) A2 = .ok o A3)
    (hst : stFld cs f o (.tup [.str c0, dw, dh]) A3 = some A4) : mTryW c i mb cs f c0 w mo mh s A = .rt .non A4 := by
  unfold mTryW
  rw [h]
  dsimp only
  rw [if_pos ⟨rfl, hi⟩]
  have e : List.lookup w [(w, dw)] = some dw := by simp [List.lookup]
  rw [e]
  dsimp only
  rw [hh]
  dsimp only
  rw [ho]
  dsimp only
  rw [hst]
/-- numbers, and the one key somewhere -/
inductive Q where
  | n (i : Int) | k (a : Int)
def Q.d : Q → D
  | .n i => .int i
  | .k a => .tup [.str "key", .int 0, .int 64, .int a, .str "gs"]
structure KM where
  m : M
  x : Q
/-- rows by one key -/
inductive KR where
  | pl (p : PR) | ad (b : Nat) | kget (r : Nat) | kset (t : Nat)
def KR.d : KR → D
  | .pl p => p.d
  | .ad b => .tup [.str "add", .int 6, .int 7, .int b]
  | .kget r => .tup [.str "get", .int r, .int 6, .int 0]
  | .kset t => .tup [.str "set", .int 6, .int 0, .int t]
def PR.bare : PR → Prop
  | .get .. => False
  | .set .. => False
  | _ => True
def KR.ok (rows : Nat) : KR → Prop
  | .pl p => p.ok rows ∧ p.bare
  | .ad b => b < 6
  | .kget r => r < 6
  | .kset t => t < 6
def faultK (s : KM) : KM := { s with m := { s.m with steps := s.m.steps + 1, en := some (faultD s.m.here) } }
def stepK (rows : Nat) (p : KR) (s : KM) : KM := match p with
  | .pl .fin => { s with m := { s.m with steps := s.m.steps + 1, en := some endD } }
  | .pl p => { s with m := stepM rows p s.m }
  | .ad b => { m := chk rows { s.m with steps := s.m.steps + 1, here := s.m.here + 1 }, x := .k (ringI (0 + bx s.m b)) }
  | .kget r => match s.x with
    | .k a => if 0 ≤ a ∧ a < 64 then { s with m := chk rows { s.m with steps := s.m.steps + 1, here := s.m.here + 1, boxes := s.m.boxes.set r (s.m.cells.getD a.toNat 0) } } else faultK s
    | .n _ => s
  | .kset t => match s.x with
    | .k a => if 0 ≤ a ∧ a < 64 then { s with m := chk rows { s.m with steps := s.m.steps + 1, here := s.m.here + 1, cells := s.m.cells.set a.toNat (bx s.m t) } } else faultK s
    | .n _ => s
def heldD (s : KM) : List D := s.m.boxes.map .int ++ [s.x.d, (Q.k 0).d]
section
variable {A : AH} {i j a : Int} {ds : List D} {w : String}
theorem numb_i : m_is_number [.int i] A = .ok (.bl true) A := by
  have e0 : m_is_number [.int i] A = finS (b_is_number [some (.int i)] A) := rfl
  rw [e0]
  simp [b_is_number, subTy]
theorem numb_t : m_is_number [.tup ds] A = .ok (.bl false) A := by
  have e0 : m_is_number [.tup ds] A = finS (b_is_number [some (.tup ds)] A) := rfl
  rw [e0]
  simp [b_is_number, subTy]
theorem kind_i : m_kind_of [.int i] A = .ok (.int 0) A := by
  have e0 : m_kind_of [.int i] A = finS (b_kind_of [some (.int i)] A) := rfl
  rw [e0]
  simp [b_kind_of, numb_i]
theorem kind_k : m_kind_of [(Q.k a).d] A = .ok (.int 1) A := by
  have e0 : m_kind_of [(Q.k a).d] A = finS (b_kind_of [some (Q.k a).d] A) := rfl
  rw [e0]
  simp [b_kind_of, Q.d, numb_t, g_KEY, g_GATE, keysD, keyD, mergeD, ptK, lkK, ixD, dctD, itemsD]
theorem need_t {x : D} : m_need [.bl true, x] A = .ok .non A := by
  have e0 : m_need [.bl true, x] A = finS (b_need [some (.bl true), some x] A) := rfl
  rw [e0]
  simp [b_need]
theorem need_f {x : D} : m_need [.bl false, x] A = .exc ⟨"Stop", some [("word", x)]⟩ A := by
  have e0 : m_need [.bl false, x] A = finS (b_need [some (.bl false), some x] A) := rfl
  rw [e0]
  simp [b_need]
  rfl
theorem ring_ok : m_ring [.int i] A = .ok (.int (ringI i)) A := by
  have e0 : m_ring [.int i] A = finS (b_ring [some (.int i)] A) := rfl
  rw [e0]
  simp [b_ring, g_HALF, o_mod, o_mulR, ringI]
theorem moved_n : m_moved [.int i, .int j] A = .ok (.int (ringI (i + j))) A := by
  have e0 : m_moved [.int i, .int j] A = finS (b_moved [some (.int i), some (.int j)] A) := rfl
  rw [e0]
  simp [b_moved, numb_i, ring_ok]
theorem moved_k : m_moved [(Q.k a).d, .int j] A = .ok (Q.k (ringI (a + j))).d A := by
  have e0 : m_moved [(Q.k a).d, .int j] A = finS (b_moved [some (Q.k a).d, some (.int j)] A) := rfl
  have hs : slD (.tup [.str "key", .int 0, .int 64, .int a, .str "gs"]) none (some 3) A = .ok (.tup [.str "key", .int 0, .int 64]) A := by
    show R.ok (D.tup (cutD _ _ _)) A = _
    simp [cutD, HT.sIx]
  have ha : addD (.tup [.str "key", .int 0, .int 64]) (.tup [.int (ringI (a + j)), .str "gs"]) A = .ok (.tup [.str "key", .int 0, .int 64, .int (ringI (a + j)), .str "gs"]) A := by
    show (if 3 + 2 ≤ 16777216 then R.ok (D.tup _) A else .bad) = _
    rw [if_pos (by decide)]
    rfl
  rw [e0]
  simp [b_moved, Q.d, numb_t, ring_ok, g_GATE, hs, ha]
theorem in_g : inD (.str "g") (.str "gs") A = .ok (.bl true) A := by
  rw [show Str.ofString "g" = ⟨#[103]⟩ by decide, show Str.ofString "gs" = S [103, 115] by decide, in_S]
  rfl
theorem in_s : inD (.str "s") (.str "gs") A = .ok (.bl true) A := by
  rw [show Str.ofString "s" = ⟨#[115]⟩ by decide, show Str.ofString "gs" = S [103, 115] by decide, in_S]
  rfl
theorem inner_i {n : Nat} : m_inner (n + 1) [.int i] A = .ok .non A := by
  have e0 : m_inner (n + 1) [.int i] A = finS (b_inner (m_inner n) [some (.int i)] A) := rfl
  rw [e0]
  simp [b_inner, kind_i]
theorem inner_k {n : Nat} : m_inner (n + 1) [(Q.k a).d] A = .ok (Q.k a).d A := by
  have e0 : m_inner (n + 1) [(Q.k a).d] A = finS (b_inner (m_inner n) [some (Q.k a).d] A) := rfl
  rw [e0]
  simp [b_inner, kind_k]
theorem without_ok {q : Q} : m_without [q.d, .lst []] A = .ok q.d A := by
  have e0 : m_without [q.d, .lst []] A = finS (b_without [some q.d, some (.lst []), none, none] A) := rfl
  cases q with
  | n i =>
    have t : (mOr (mTb (mBin isD (mv 2) (mc .non))) (mTb (mBin eqD (mLc (miAny (mv 1)) (gmN 3) (mTb (mChain leD ltD (mv 3) (mBin ixD (mv 2) (mc (.int (1)))) (mBin addD (mv 3) (mc g_ROOM)))) (mv 3) [3] finF) (mLst mNil)))) [some (Q.n i).d, some (.lst []), some .non, none] A = .ok true A := by
      simp [Tg.isNon]
    refine e0.trans (fin_of (seq_nx (asg_ok (call_ok (cons_ok rfl rfl) (inner_i (n := 1)))) (seq_rt ?_)))
    rw [e_ifS]
    refine (congrArg (kIf _ _ _) t).trans ?_
    rfl
  | k a =>
    have c0 : (mLc (miAny (mv 1)) (gmN 3) (mTb (mChain leD ltD (mv 3) (mBin ixD (mv 2) (mc (.int (1)))) (mBin addD (mv 3) (mc g_ROOM)))) (mv 3) [3] finF) [some (Q.k a).d, some (.lst []), some (Q.k a).d, none] A = .ok (.lst []) A := by
      rw [mLc_of (A1 := A) (it := []) rfl (by decide)]
      rfl
    have t : (mOr (mTb (mBin isD (mv 2) (mc .non))) (mTb (mBin eqD (mLc (miAny (mv 1)) (gmN 3) (mTb (mChain leD ltD (mv 3) (mBin ixD (mv 2) (mc (.int (1)))) (mBin addD (mv 3) (mc g_ROOM)))) (mv 3) [3] finF) (mLst mNil)))) [some (Q.k a).d, some (.lst []), some (Q.k a).d, none] A = .ok true A := by
      have q : eqD (.lst []) (.lst []) A = .ok (.bl true) A := by
        rw [eq_lstF (by decide)]
        rfl
      rw [e_or, e_tb, bin_ok (A1 := A) (A2 := A) (A3 := A) (u := (Q.k a).d) (v := .non) (z := .bl false) rfl rfl (by simp [Q.d, Tg.isNon]), kT_0, kOr_1, e_tb, bin_ok c0 rfl q, kT_0]
    refine e0.trans (fin_of (seq_nx (asg_ok (call_ok (cons_ok rfl rfl) (inner_k (n := 1)))) (seq_rt ?_)))
    rw [e_ifS]
    refine (congrArg (kIf _ _ _) t).trans ?_
    rfl
theorem kix {k : Nat} {x : D} (h : [D.str "key", .int 0, .int 64, .int a, .str "gs"][k]? = some x) : ixD (Q.k a).d (.int (k : Int)) A = .ok x A := ix_tup (atI_ok h)
end
theorem held_n {s : KM} (hb : s.m.boxes.length = 6) {r : Nat} (h : r < 6) : (heldD s)[r]? = some (Q.n (bx s.m r)).d := by
  unfold heldD
  rw [List.getElem?_append_left (by rw [List.length_map]; omega), List.getElem?_map, List.getElem?_eq_getElem (by omega)]
  simp [Q.d, bx, List.getD_eq_getElem?_getD, List.getElem?_eq_getElem (show r < s.m.boxes.length by omega)]
theorem held_6 {s : KM} (hb : s.m.boxes.length = 6) : (heldD s)[6]? = some s.x.d := by
  unfold heldD
  rw [List.getElem?_append_right (by rw [List.length_map]; omega), List.length_map, hb]
  rfl
theorem held_7 {s : KM} (hb : s.m.boxes.length = 6) : (heldD s)[7]? = some (Q.k 0).d := by
  unfold heldD
  rw [List.getElem?_append_right (by rw [List.length_map]; omega), List.length_map, hb]
  rfl
theorem held_len {s : KM} (hb : s.m.boxes.length = 6) : (heldD s).length = 8 := by
  unfold heldD
  rw [List.length_append, List.length_map, hb]
  rfl
theorem held_set {s : KM} (hb : s.m.boxes.length = 6) {r : Nat} (h : r < 6) {v : Int} : (heldD s).set r (.int v) = heldD { s with m := { s.m with boxes := s.m.boxes.set r v } } := by
  unfold heldD
  rw [List.set_append_left _ _ (by rw [List.length_map]; omega), List.map_set]
theorem held_set6 {s : KM} (hb : s.m.boxes.length = 6) {q : Q} : (heldD s).set 6 q.d = heldD { s with x := q } := by
  unfold heldD
  rw [List.set_append_right _ _ (by rw [List.length_map]; omega), List.length_map, hb]
  rfl

/-! ### AtOnce -/
def fsA (L : Nat) (ks : List D) (s : KM) : List (Str × D) :=
  [("program", .tup ks), ("first", .int 64), ("store", .ref (L + 1)), ("held", .ref (L + 2)), ("here", .int s.m.here), ("talk", .ref (L + 3)), ("steps", .int s.m.steps), ("end", s.m.en.getD .non), ("lent_ones", .ref (L + 4))]
def encA (A0 : AH) (ks : List D) (s : KM) : AH := A0 ++ [.ins "AtOnce" (fsA A0.length ks s), .lst (s.m.cells.map .int), .lst (heldD s), .lst (s.m.said.map .int), .lst []]
section
variable {A0 : AH} {ks : List D} {s : KM}
theorem insA : (encA A0 ks s)[A0.length]? = some (.ins "AtOnce" (fsA A0.length ks s)) := by simp [encA]
theorem stA : (encA A0 ks s)[A0.length + 1]? = some (.lst (s.m.cells.map .int)) := by simp [encA]
theorem hdA : (encA A0 ks s)[A0.length + 2]? = some (.lst (heldD s)) := by simp [encA]
theorem tkA : (encA A0 ks s)[A0.length + 3]? = some (.lst (s.m.said.map .int)) := by simp [encA]
theorem f_storeA : fldD cs_store "store" (.ref A0.length) (encA A0 ks s) = .ok (.ref (A0.length + 1)) (encA A0 ks s) := by
  rw [fld_ref, insA]
  simp [cs_store, fsA, List.lookup]
theorem f_heldA : fldD cs_held "held" (.ref A0.length) (encA A0 ks s) = .ok (.ref (A0.length + 2)) (encA A0 ks s) := by
  rw [fld_ref, insA]
  simp [cs_held, fsA, List.lookup]
theorem f_talkA : fldD cs_talk "talk" (.ref A0.length) (encA A0 ks s) = .ok (.ref (A0.length + 3)) (encA A0 ks s) := by
  rw [fld_ref, insA]
  simp [cs_talk, fsA, List.lookup]
theorem f_hereA : fldD cs_here "here" (.ref A0.length) (encA A0 ks s) = .ok (.int s.m.here) (encA A0 ks s) := by
  rw [fld_ref, insA]
  simp [cs_here, fsA, List.lookup]
theorem f_stepsA : fldD cs_steps "steps" (.ref A0.length) (encA A0 ks s) = .ok (.int s.m.steps) (encA A0 ks s) := by
  rw [fld_ref, insA]
  simp [cs_steps, fsA, List.lookup]
theorem f_endA : fldD cs_end "end" (.ref A0.length) (encA A0 ks s) = .ok (s.m.en.getD .non) (encA A0 ks s) := by
  rw [fld_ref, insA]
  simp [cs_end, fsA, List.lookup]
theorem f_progA : fldD cs_program "program" (.ref A0.length) (encA A0 ks s) = .ok (.tup ks) (encA A0 ks s) := by
  rw [fld_ref, insA]
  simp [cs_program, fsA, List.lookup]
theorem s_hereA {h : Nat} : stFld cs_here "here" (.ref A0.length) (.int h) (encA A0 ks s) = some (encA A0 ks { s with m := { s.m with here := h } }) := by
  rw [sfld_ref, insA]
  simp [cs_here, fsA, putFD, encA, heldD]
theorem s_stepsA {h : Nat} : stFld cs_steps "steps" (.ref A0.length) (.int h) (encA A0 ks s) = some (encA A0 ks { s with m := { s.m with steps := h } }) := by
  rw [sfld_ref, insA]
  simp [cs_steps, fsA, putFD, encA, heldD]
theorem s_endA {e : D} : stFld cs_end "end" (.ref A0.length) e (encA A0 ks s) = some (encA A0 ks { s with m := { s.m with en := some e } }) := by
  rw [sfld_ref, insA]
  simp [cs_end, fsA, putFD, encA, heldD]
theorem w_heldA (hb : s.m.boxes.length = 6) {r : Nat} (h : r < 6) {v : Int} : stSub (.ref (A0.length + 2)) (.int r) (.int v) (encA A0 ks s) = some (encA A0 ks { s with m := { s.m with boxes := s.m.boxes.set r v } }) := by
  rw [st_lst (j := 0) hdA (by rw [held_len hb]; omega), held_set hb h]
  simp [encA, fsA]
theorem w_held6A (hb : s.m.boxes.length = 6) {q : Q} : stSub (.ref (A0.length + 2)) (.int 6) q.d (encA A0 ks s) = some (encA A0 ks { s with x := q }) := by
  have := st_lst (d := q.d) (i := 6) (j := 0) (hdA (A0 := A0) (ks := ks) (s := s)) (by rw [held_len hb]; omega)
  rw [held_set6 hb] at this
  refine (show stSub (.ref (A0.length + 2)) (.int 6) q.d (encA A0 ks s) = _ from this).trans ?_
  simp [encA, fsA]
theorem w_storeA (hc : s.m.cells.length = 64) {a v : Int} (h0 : 0 ≤ a) (h1 : a < 64) : stSub (.ref (A0.length + 1)) (.int a) (.int v) (encA A0 ks s) = some (encA A0 ks { s with m := { s.m with cells := s.m.cells.set a.toNat v } }) := by
  obtain ⟨n, rfl⟩ := Int.eq_ofNat_of_zero_le h0
  rw [st_lst (j := 0) stA (by rw [List.length_map]; omega), Int.toNat_natCast, set_map]
  simp [encA, fsA, heldD]
theorem w_talkA (h : s.m.said.length < 16777216) {v : Int} : appD (.ref (A0.length + 3)) [.int v] (encA A0 ks s) = .ok .non (encA A0 ks { s with m := { s.m with said := s.m.said ++ [v] } }) := by
  rw [app_ref, tkA]
  dsimp only
  rw [List.length_map, if_pos h]
  simp [encA, fsA, heldD]
theorem lookA {q : Q} : m_AtOnce_look [.ref A0.length, q.d] (encA A0 ks s) = .ok q.d (encA A0 ks s) := rfl
theorem boxA {r : Nat} {q : Q} (h : (heldD s)[r]? = some q.d) : m_AtOnce_box [.ref A0.length, .int r] (encA A0 ks s) = .ok q.d (encA A0 ks s) := by
  have e0 : m_AtOnce_box [.ref A0.length, .int r] (encA A0 ks s) = finS (b_AtOnce_box [some (.ref A0.length), some (.int r)] (encA A0 ks s)) := rfl
  exact e0.trans (fin_of (Tg.ret_ok (meth_ok rfl insA (by simp [fsA, List.lookup]) (cons_ok (bin_ok (fld_ok rfl f_heldA) rfl (ix_ref hdA (atI_ok h))) rfl) lookA)))
theorem numberA {r : Nat} {i : Int} (h : (heldD s)[r]? = some (Q.n i).d) : m_AtOnce_number [.ref A0.length, .int r] (encA A0 ks s) = .ok (.int i) (encA A0 ks s) := by
  have e0 : m_AtOnce_number [.ref A0.length, .int r] (encA A0 ks s) = finS (b_AtOnce_number [some (.ref A0.length), some (.int r), none] (encA A0 ks s)) := rfl
  exact e0.trans (fin_of (seq_nx (asg_ok (meth_ok rfl insA (by simp [fsA, List.lookup]) (cons_ok rfl rfl) (boxA h))) (seq_nx (drop_ok (call_ok (cons_ok (call_ok (cons_ok rfl rfl) numb_i) (cons_ok rfl rfl)) need_t)) (Tg.ret_ok rfl))))
theorem keyA {r : Nat} {a : Int} (h : (heldD s)[r]? = some (Q.k a).d) : m_AtOnce_key [.ref A0.length, .int r] (encA A0 ks s) = .ok (Q.k a).d (encA A0 ks s) := by
  have e0 : m_AtOnce_key [.ref A0.length, .int r] (encA A0 ks s) = finS (b_AtOnce_key [some (.ref A0.length), some (.int r), none] (encA A0 ks s)) := rfl
  exact e0.trans (fin_of (seq_nx (asg_ok (meth_ok rfl insA (by simp [fsA, List.lookup]) (cons_ok rfl rfl) (boxA h))) (seq_nx (drop_ok (call_ok (cons_ok (bin_ok (call_ok (cons_ok rfl rfl) kind_k) rfl (show eqD (.int 1) (.int 1) _ = .ok (.bl true) _ from rfl)) (cons_ok rfl rfl)) need_t)) (Tg.ret_ok rfl))))
theorem cell_inA {a : Int} {z : String} (hz : ∀ B, inD (.str z) (.str "gs") B = .ok (.bl true) B) (h0 : 0 ≤ a) (h1 : a < 64) : m_AtOnce_cell_of [.ref A0.length, (Q.k a).d, .int 0, .str z] (encA A0 ks s) = .ok (.int a) (encA A0 ks s) := by
  have e0 : m_AtOnce_cell_of [.ref A0.length, (Q.k a).d, .int 0, .str z] (encA A0 ks s) = finS (b_AtOnce_cell_of [some (.ref A0.length), some (Q.k a).d, some (.int 0), some (.str z), none] (encA A0 ks s)) := rfl
  have ch : (mChain leD ltD (mBin ixD (mv 1) (mc (.int (1)))) (mv 4) (mBin ixD (mv 1) (mc (.int (2))))) [some (.ref A0.length), some (Q.k a).d, some (.int 0), some (.str z), some (.int a)] (encA A0 ks s) = .ok (.bl true) (encA A0 ks s) := by
    simp [Q.d, h0, h1]
  exact e0.trans (fin_of (seq_nx (drop_ok (call_ok (cons_ok (bin_ok rfl (bin_ok rfl rfl (kix (k := 4) rfl)) (hz _)) (cons_ok rfl rfl)) need_t)) (seq_nx (asg_ok (bin_ok (bin_ok rfl rfl (kix (k := 3) rfl)) rfl (show addD (.int a) (.int 0) _ = .ok (.int a) _ by rw [o_add, Int.add_zero]))) (seq_nx (drop_ok (call_ok (cons_ok ch (cons_ok rfl rfl)) need_t)) (Tg.ret_ok rfl)))))
theorem cell_outA {a : Int} {z : String} (hz : ∀ B, inD (.str z) (.str "gs") B = .ok (.bl true) B) (h : ¬ (0 ≤ a ∧ a < 64)) : m_AtOnce_cell_of [.ref A0.length, (Q.k a).d, .int 0, .str z] (encA A0 ks s) = .exc ⟨"Stop", some [("word", .str "beyond")]⟩ (encA A0 ks s) := by
  have e0 : m_AtOnce_cell_of [.ref A0.length, (Q.k a).d, .int 0, .str z] (encA A0 ks s) = finS (b_AtOnce_cell_of [some (.ref A0.length), some (Q.k a).d, some (.int 0), some (.str z), none] (encA A0 ks s)) := rfl
  have ch : (mChain leD ltD (mBin ixD (mv 1) (mc (.int (1)))) (mv 4) (mBin ixD (mv 1) (mc (.int (2))))) [some (.ref A0.length), some (Q.k a).d, some (.int 0), some (.str z), some (.int a)] (encA A0 ks s) = .ok (.bl false) (encA A0 ks s) := by
    by_cases h0 : 0 ≤ a
    · have h1 : ¬ a < 64 := fun q => h ⟨h0, q⟩
      simp [Q.d, h0, h1]
    · simp [Q.d, h0]
  exact e0.trans (fin_x (seq_nx (drop_ok (call_ok (cons_ok (bin_ok rfl (bin_ok rfl rfl (kix (k := 4) rfl)) (hz _)) (cons_ok rfl rfl)) need_t)) (seq_nx (asg_ok (bin_ok (bin_ok rfl rfl (kix (k := 3) rfl)) rfl (show addD (.int a) (.int 0) _ = .ok (.int a) _ by rw [o_add, Int.add_zero]))) (seq_x (drop_x (call_x (cons_ok ch (cons_ok rfl rfl)) need_f))))))
theorem taken_inA {r : Nat} {a : Int} (hb : s.m.boxes.length = 6) (hc : s.m.cells.length = 64) (hx : s.x = .k a) (h0 : 0 ≤ a) (h1 : a < 64) : m_AtOnce_taken_out [.ref A0.length, (KR.kget r).d] (encA A0 ks s) = .ok (.int (s.m.cells.getD a.toNat 0)) (encA A0 ks s) := by
  have e0 : m_AtOnce_taken_out [.ref A0.length, (KR.kget r).d] (encA A0 ks s) = finS (b_AtOnce_taken_out [some (.ref A0.length), some (KR.kget r).d, none, none] (encA A0 ks s)) := rfl
  have h6 := held_6 hb
  rw [hx] at h6
  have hl : (mIf (mOr (mTb (mCall m_is_number (mCons (mv 3) mNil))) (mTb (mBin inD (mc (.str "h")) (mBin ixD (mv 2) (mc (.int (4))))))) (mv 3) (mc (.int (0)))) [some (.ref A0.length), some (KR.kget r).d, some (Q.k a).d, some (.int (s.m.cells.getD a.toNat 0))] (encA A0 ks s) = .ok (.int (s.m.cells.getD a.toNat 0)) (encA A0 ks s) := by
    simp [numb_i]
  exact e0.trans (fin_of (seq_nx (asg_ok (meth_ok rfl insA (by simp [fsA, List.lookup]) (cons_ok (bin_ok rfl rfl (ix_tup at2)) rfl) (keyA (r := 6) h6)))
    (seq_nx (asg_ok (meth_ok rfl insA (by simp [fsA, List.lookup]) (cons_ok (bin_ok (fld_ok rfl f_storeA) (meth_ok rfl insA (by simp [fsA, List.lookup]) (cons_ok rfl (cons_ok (bin_ok rfl rfl (ix_tup at3)) (cons_ok rfl rfl))) (cell_inA (z := "g") (fun _ => in_g) h0 h1)) (ix_ref stA (at_in hc h0 h1))) rfl) (lookA (q := .n _)))) (Tg.ret_ok hl))))
theorem taken_outA {r : Nat} {a : Int} (hb : s.m.boxes.length = 6) (hx : s.x = .k a) (h : ¬ (0 ≤ a ∧ a < 64)) : m_AtOnce_taken_out [.ref A0.length, (KR.kget r).d] (encA A0 ks s) = .exc ⟨"Stop", some [("word", .str "beyond")]⟩ (encA A0 ks s) := by
  have e0 : m_AtOnce_taken_out [.ref A0.length, (KR.kget r).d] (encA A0 ks s) = finS (b_AtOnce_taken_out [some (.ref A0.length), some (KR.kget r).d, none, none] (encA A0 ks s)) := rfl
  have h6 := held_6 hb
  rw [hx] at h6
  exact e0.trans (fin_x (seq_nx (asg_ok (meth_ok rfl insA (by simp [fsA, List.lookup]) (cons_ok (bin_ok rfl rfl (ix_tup at2)) rfl) (keyA (r := 6) h6)))
    (seq_x (asg_x (meth_ax rfl insA (by simp [fsA, List.lookup]) (cons_x (bin_x (fld_ok rfl f_storeA) (meth_x rfl insA (by simp [fsA, List.lookup]) (cons_ok rfl (cons_ok (bin_ok rfl rfl (ix_tup at3)) (cons_ok rfl rfl))) (cell_outA (z := "g") (fun _ => in_g) h)))))))))
theorem put_inA {t : Nat} {a : Int} (ht : t < 6) (hb : s.m.boxes.length = 6) (hc : s.m.cells.length = 64) (hx : s.x = .k a) (h0 : 0 ≤ a) (h1 : a < 64) : m_AtOnce_put_in [.ref A0.length, (KR.kset t).d] (encA A0 ks s) = .ok .non (encA A0 ks { s with m := { s.m with cells := s.m.cells.set a.toNat (bx s.m t) } }) := by
  have e0 : m_AtOnce_put_in [.ref A0.length, (KR.kset t).d] (encA A0 ks s) = finS (b_AtOnce_put_in [some (.ref A0.length), some (KR.kset t).d, none, none, none] (encA A0 ks s)) := rfl
  have h6 := held_6 hb
  rw [hx] at h6
  have hl : (mOrV (mCall m_is_number (mCons (mv 3) mNil)) (mBin inD (mc (.str "h")) (mBin ixD (mv 2) (mc (.int (4)))))) [some (.ref A0.length), some (KR.kset t).d, some (Q.k a).d, some (.int (bx s.m t)), some (.int a)] (encA A0 ks s) = .ok (.bl true) (encA A0 ks s) := by
    simp [numb_i]
  exact e0.trans (fin_nx (seq_nx (asg_ok (meth_ok rfl insA (by simp [fsA, List.lookup]) (cons_ok (bin_ok rfl rfl (ix_tup at1)) rfl) (keyA (r := 6) h6)))
    (seq_nx (asg_ok (meth_ok rfl insA (by simp [fsA, List.lookup]) (cons_ok (bin_ok rfl rfl (ix_tup at3)) rfl) (boxA (held_n hb ht))))
      (seq_nx (asg_ok (meth_ok rfl insA (by simp [fsA, List.lookup]) (cons_ok rfl (cons_ok (bin_ok rfl rfl (ix_tup at2)) (cons_ok rfl rfl))) (cell_inA (z := "s") (fun _ => in_s) h0 h1)))
        (seq_nx (drop_ok (call_ok (cons_ok hl (cons_ok rfl rfl)) need_t)) (sub_ok rfl (fld_ok rfl f_storeA) rfl (w_storeA hc h0 h1)))))))
theorem put_outA {t : Nat} {a : Int} (ht : t < 6) (hb : s.m.boxes.length = 6) (hx : s.x = .k a) (h : ¬ (0 ≤ a ∧ a < 64)) : m_AtOnce_put_in [.ref A0.length, (KR.kset t).d] (encA A0 ks s) = .exc ⟨"Stop", some [("word", .str "beyond")]⟩ (encA A0 ks s) := by
  have e0 : m_AtOnce_put_in [.ref A0.length, (KR.kset t).d] (encA A0 ks s) = finS (b_AtOnce_put_in [some (.ref A0.length), some (KR.kset t).d, none, none, none] (encA A0 ks s)) := rfl
  have h6 := held_6 hb
  rw [hx] at h6
  exact e0.trans (fin_x (seq_nx (asg_ok (meth_ok rfl insA (by simp [fsA, List.lookup]) (cons_ok (bin_ok rfl rfl (ix_tup at1)) rfl) (keyA (r := 6) h6)))
    (seq_nx (asg_ok (meth_ok rfl insA (by simp [fsA, List.lookup]) (cons_ok (bin_ok rfl rfl (ix_tup at3)) rfl) (boxA (held_n hb ht))))
      (seq_x (asg_x (meth_x rfl insA (by simp [fsA, List.lookup]) (cons_ok rfl (cons_ok (bin_ok rfl rfl (ix_tup at2)) (cons_ok rfl rfl))) (cell_outA (z := "s") (fun _ => in_s) h)))))))
end

/-! ### Lazy -/
def fsZ (L : Nat) (ks : List D) (s : KM) : List (Str × D) :=
  [("program", .tup ks), ("first", .int 64), ("store", .ref (L + 1)), ("held", .ref (L + 2)), ("here", .int s.m.here), ("talk", .ref (L + 3)), ("steps", .int s.m.steps), ("end", s.m.en.getD .non), ("state", .ref (L + 4)), ("hand", .int 0), ("order", .ref (L + 5))]
def encZ (A0 : AH) (ks : List D) (s : KM) : AH := A0 ++ [.ins "Lazy" (fsZ A0.length ks s), .lst (s.m.cells.map .int), .lst (heldD s), .lst (s.m.said.map .int), .dct [], .lst []]
section
variable {A0 : AH} {ks : List D} {s : KM}
theorem insZ : (encZ A0 ks s)[A0.length]? = some (.ins "Lazy" (fsZ A0.length ks s)) := by simp [encZ]
theorem stZ : (encZ A0 ks s)[A0.length + 1]? = some (.lst (s.m.cells.map .int)) := by simp [encZ]
theorem hdZ : (encZ A0 ks s)[A0.length + 2]? = some (.lst (heldD s)) := by simp [encZ]
theorem tkZ : (encZ A0 ks s)[A0.length + 3]? = some (.lst (s.m.said.map .int)) := by simp [encZ]
theorem f_storeZ : fldD cs_store "store" (.ref A0.length) (encZ A0 ks s) = .ok (.ref (A0.length + 1)) (encZ A0 ks s) := by
  rw [fld_ref, insZ]
  simp [cs_store, fsZ, List.lookup]
theorem f_heldZ : fldD cs_held "held" (.ref A0.length) (encZ A0 ks s) = .ok (.ref (A0.length + 2)) (encZ A0 ks s) := by
  rw [fld_ref, insZ]
  simp [cs_held, fsZ, List.lookup]
theorem f_talkZ : fldD cs_talk "talk" (.ref A0.length) (encZ A0 ks s) = .ok (.ref (A0.length + 3)) (encZ A0 ks s) := by
  rw [fld_ref, insZ]
  simp [cs_talk, fsZ, List.lookup]
theorem f_hereZ : fldD cs_here "here" (.ref A0.length) (encZ A0 ks s) = .ok (.int s.m.here) (encZ A0 ks s) := by
  rw [fld_ref, insZ]
  simp [cs_here, fsZ, List.lookup]
theorem f_stepsZ : fldD cs_steps "steps" (.ref A0.length) (encZ A0 ks s) = .ok (.int s.m.steps) (encZ A0 ks s) := by
  rw [fld_ref, insZ]
  simp [cs_steps, fsZ, List.lookup]
theorem f_endZ : fldD cs_end "end" (.ref A0.length) (encZ A0 ks s) = .ok (s.m.en.getD .non) (encZ A0 ks s) := by
  rw [fld_ref, insZ]
  simp [cs_end, fsZ, List.lookup]
theorem f_progZ : fldD cs_program "program" (.ref A0.length) (encZ A0 ks s) = .ok (.tup ks) (encZ A0 ks s) := by
  rw [fld_ref, insZ]
  simp [cs_program, fsZ, List.lookup]
theorem s_hereZ {h : Nat} : stFld cs_here "here" (.ref A0.length) (.int h) (encZ A0 ks s) = some (encZ A0 ks { s with m := { s.m with here := h } }) := by
  rw [sfld_ref, insZ]
  simp [cs_here, fsZ, putFD, encZ, heldD]
theorem s_stepsZ {h : Nat} : stFld cs_steps "steps" (.ref A0.length) (.int h) (encZ A0 ks s) = some (encZ A0 ks { s with m := { s.m with steps := h } }) := by
  rw [sfld_ref, insZ]
  simp [cs_steps, fsZ, putFD, encZ, heldD]
theorem s_endZ {e : D} : stFld cs_end "end" (.ref A0.length) e (encZ A0 ks s) = some (encZ A0 ks { s with m := { s.m with en := some e } }) := by
  rw [sfld_ref, insZ]
  simp [cs_end, fsZ, putFD, encZ, heldD]
theorem w_heldZ (hb : s.m.boxes.length = 6) {r : Nat} (h : r < 6) {v : Int} : stSub (.ref (A0.length + 2)) (.int r) (.int v) (encZ A0 ks s) = some (encZ A0 ks { s with m := { s.m with boxes := s.m.boxes.set r v } }) := by
  rw [st_lst (j := 0) hdZ (by rw [held_len hb]; omega), held_set hb h]
  simp [encZ, fsZ]
theorem w_held6Z (hb : s.m.boxes.length = 6) {q : Q} : stSub (.ref (A0.length + 2)) (.int 6) q.d (encZ A0 ks s) = some (encZ A0 ks { s with x := q }) := by
  have := st_lst (d := q.d) (i := 6) (j := 0) (hdZ (A0 := A0) (ks := ks) (s := s)) (by rw [held_len hb]; omega)
  rw [held_set6 hb] at this
  refine (show stSub (.ref (A0.length + 2)) (.int 6) q.d (encZ A0 ks s) = _ from this).trans ?_
  simp [encZ, fsZ]
theorem w_storeZ (hc : s.m.cells.length = 64) {a v : Int} (h0 : 0 ≤ a) (h1 : a < 64) : stSub (.ref (A0.length + 1)) (.int a) (.int v) (encZ A0 ks s) = some (encZ A0 ks { s with m := { s.m with cells := s.m.cells.set a.toNat v } }) := by
  obtain ⟨n, rfl⟩ := Int.eq_ofNat_of_zero_le h0
  rw [st_lst (j := 0) stZ (by rw [List.length_map]; omega), Int.toNat_natCast, set_map]
  simp [encZ, fsZ, heldD]
theorem w_talkZ (h : s.m.said.length < 16777216) {v : Int} : appD (.ref (A0.length + 3)) [.int v] (encZ A0 ks s) = .ok .non (encZ A0 ks { s with m := { s.m with said := s.m.said ++ [v] } }) := by
  rw [app_ref, tkZ]
  dsimp only
  rw [List.length_map, if_pos h]
  simp [encZ, fsZ, heldD]
theorem shutZ : m_Lazy_shut_ones [.ref A0.length] (encZ A0 ks s) = .ok (.lst []) (encZ A0 ks s) := by
  have e0 : m_Lazy_shut_ones [.ref A0.length] (encZ A0 ks s) = finS (b_Lazy_shut_ones [some (.ref A0.length), none] (encZ A0 ks s)) := rfl
  have hf : fldD cs_state "state" (.ref A0.length) (encZ A0 ks s) = .ok (.ref (A0.length + 4)) (encZ A0 ks s) := by
    rw [fld_ref, insZ]
    simp [cs_state, fsZ, List.lookup]
  have hs : sortKD [.ref (A0.length + 4)] (encZ A0 ks s) = .ok (.lst []) (encZ A0 ks s) := by
    have hd : dctD (encZ A0 ks s) (.ref (A0.length + 4)) = some [] := by
      rw [dct_ref]
      simp [encZ]
    show (match (dctD (encZ A0 ks s) (.ref (A0.length + 4))).bind keysI with
      | some zs => if zs.length ≤ 1000 then R.ok (D.lst ((srtI zs).map D.int)) (encZ A0 ks s) else .bad
      | none => .bad) = _
    rw [hd]
    rfl
  have hi : miAny (mCall sortKD (mCons (mFld cs_state "state" (mv 0)) mNil)) [some (.ref A0.length), none] (encZ A0 ks s) = .ok (.data []) (encZ A0 ks s) := by
    unfold miAny
    rw [call_ok (cons_ok (fld_ok rfl hf) rfl) hs]
    rfl
  refine e0.trans (fin_of (Tg.ret_ok ?_))
  rw [mLc_of hi (by decide)]
  rfl
theorem lookZ {q : Q} : m_Lazy_look [.ref A0.length, q.d] (encZ A0 ks s) = .ok q.d (encZ A0 ks s) := by
  have e0 : m_Lazy_look [.ref A0.length, q.d] (encZ A0 ks s) = finS (b_Lazy_look [some (.ref A0.length), some q.d] (encZ A0 ks s)) := rfl
  exact e0.trans (fin_of (Tg.ret_ok (call_ok (cons_ok rfl (cons_ok (meth_ok rfl insZ (by simp [fsZ, List.lookup]) rfl shutZ) rfl)) without_ok)))
theorem boxZ {r : Nat} {q : Q} (h : (heldD s)[r]? = some q.d) : m_Lazy_box [.ref A0.length, .int r] (encZ A0 ks s) = .ok q.d (encZ A0 ks s) := by
  have e0 : m_Lazy_box [.ref A0.length, .int r] (encZ A0 ks s) = finS (b_Lazy_box [some (.ref A0.length), some (.int r)] (encZ A0 ks s)) := rfl
  exact e0.trans (fin_of (Tg.ret_ok (meth_ok rfl insZ (by simp [fsZ, List.lookup]) (cons_ok (bin_ok (fld_ok rfl f_heldZ) rfl (ix_ref hdZ (atI_ok h))) rfl) lookZ)))
theorem numberZ {r : Nat} {i : Int} (h : (heldD s)[r]? = some (Q.n i).d) : m_Lazy_number [.ref A0.length, .int r] (encZ A0 ks s) = .ok (.int i) (encZ A0 ks s) := by
  have e0 : m_Lazy_number [.ref A0.length, .int r] (encZ A0 ks s) = finS (b_Lazy_number [some (.ref A0.length), some (.int r), none] (encZ A0 ks s)) := rfl
  exact e0.trans (fin_of (seq_nx (asg_ok (meth_ok rfl insZ (by simp [fsZ, List.lookup]) (cons_ok rfl rfl) (boxZ h))) (seq_nx (drop_ok (call_ok (cons_ok (call_ok (cons_ok rfl rfl) numb_i) (cons_ok rfl rfl)) need_t)) (Tg.ret_ok rfl))))
theorem keyZ {r : Nat} {a : Int} (h : (heldD s)[r]? = some (Q.k a).d) : m_Lazy_key [.ref A0.length, .int r] (encZ A0 ks s) = .ok (Q.k a).d (encZ A0 ks s) := by
  have e0 : m_Lazy_key [.ref A0.length, .int r] (encZ A0 ks s) = finS (b_Lazy_key [some (.ref A0.length), some (.int r), none] (encZ A0 ks s)) := rfl
  exact e0.trans (fin_of (seq_nx (asg_ok (meth_ok rfl insZ (by simp [fsZ, List.lookup]) (cons_ok rfl rfl) (boxZ h))) (seq_nx (drop_ok (call_ok (cons_ok (bin_ok (call_ok (cons_ok rfl rfl) kind_k) rfl (show eqD (.int 1) (.int 1) _ = .ok (.bl true) _ from rfl)) (cons_ok rfl rfl)) need_t)) (Tg.ret_ok rfl))))
theorem cell_inZ {a : Int} {z : String} (hz : ∀ B, inD (.str z) (.str "gs") B = .ok (.bl true) B) (h0 : 0 ≤ a) (h1 : a < 64) : m_Lazy_cell_of [.ref A0.length, (Q.k a).d, .int 0, .str z] (encZ A0 ks s) = .ok (.int a) (encZ A0 ks s) := by
  have e0 : m_Lazy_cell_of [.ref A0.length, (Q.k a).d, .int 0, .str z] (encZ A0 ks s) = finS (b_Lazy_cell_of [some (.ref A0.length), some (Q.k a).d, some (.int 0), some (.str z), none] (encZ A0 ks s)) := rfl
  have ch : (mChain leD ltD (mBin ixD (mv 1) (mc (.int (1)))) (mv 4) (mBin ixD (mv 1) (mc (.int (2))))) [some (.ref A0.length), some (Q.k a).d, some (.int 0), some (.str z), some (.int a)] (encZ A0 ks s) = .ok (.bl true) (encZ A0 ks s) := by
    simp [Q.d, h0, h1]
  exact e0.trans (fin_of (seq_nx (drop_ok (call_ok (cons_ok (bin_ok rfl (bin_ok rfl rfl (kix (k := 4) rfl)) (hz _)) (cons_ok rfl rfl)) need_t)) (seq_nx (asg_ok (bin_ok (bin_ok rfl rfl (kix (k := 3) rfl)) rfl (show addD (.int a) (.int 0) _ = .ok (.int a) _ by rw [o_add, Int.add_zero]))) (seq_nx (drop_ok (call_ok (cons_ok ch (cons_ok rfl rfl)) need_t)) (Tg.ret_ok rfl)))))
theorem cell_outZ {a : Int} {z : String} (hz : ∀ B, inD (.str z) (.str "gs") B = .ok (.bl true) B) (h : ¬ (0 ≤ a ∧ a < 64)) : m_Lazy_cell_of [.ref A0.length, (Q.k a).d, .int 0, .str z] (encZ A0 ks s) = .exc ⟨"Stop", some [("word", .str "beyond")]⟩ (encZ A0 ks s) := by
  have e0 : m_Lazy_cell_of [.ref A0.length, (Q.k a).d, .int 0, .str z] (encZ A0 ks s) = finS (b_Lazy_cell_of [some (.ref A0.length), some (Q.k a).d, some (.int 0), some (.str z), none] (encZ A0 ks s)) := rfl
  have ch : (mChain leD ltD (mBin ixD (mv 1) (mc (.int (1)))) (mv 4) (mBin ixD (mv 1) (mc (.int (2))))) [some (.ref A0.length), some (Q.k a).d, some (.int 0), some (.str z), some (.int a)] (encZ A0 ks s) = .ok (.bl false) (encZ A0 ks s) := by
    by_cases h0 : 0 ≤ a
    · have h1 : ¬ a < 64 := fun q => h ⟨h0, q⟩
      simp [Q.d, h0, h1]
    · simp [Q.d, h0]
  exact e0.trans (fin_x (seq_nx (drop_ok (call_ok (cons_ok (bin_ok rfl (bin_ok rfl rfl (kix (k := 4) rfl)) (hz _)) (cons_ok rfl rfl)) need_t)) (seq_nx (asg_ok (bin_ok (bin_ok rfl rfl (kix (k := 3) rfl)) rfl (show addD (.int a) (.int 0) _ = .ok (.int a) _ by rw [o_add, Int.add_zero]))) (seq_x (drop_x (call_x (cons_ok ch (cons_ok rfl rfl)) need_f))))))
theorem taken_inZ {r : Nat} {a : Int} (hb : s.m.boxes.length = 6) (hc : s.m.cells.length = 64) (hx : s.x = .k a) (h0 : 0 ≤ a) (h1 : a < 64) : m_Lazy_taken_out [.ref A0.length, (KR.kget r).d] (encZ A0 ks s) = .ok (.int (s.m.cells.getD a.toNat 0)) (encZ A0 ks s) := by
  have e0 : m_Lazy_taken_out [.ref A0.length, (KR.kget r).d] (encZ A0 ks s) = finS (b_Lazy_taken_out [some (.ref A0.length), some (KR.kget r).d, none, none] (encZ A0 ks s)) := rfl
  have h6 := held_6 hb
  rw [hx] at h6
  have hl : (mIf (mOr (mTb (mCall m_is_number (mCons (mv 3) mNil))) (mTb (mBin inD (mc (.str "h")) (mBin ixD (mv 2) (mc (.int (4))))))) (mv 3) (mc (.int (0)))) [some (.ref A0.length), some (KR.kget r).d, some (Q.k a).d, some (.int (s.m.cells.getD a.toNat 0))] (encZ A0 ks s) = .ok (.int (s.m.cells.getD a.toNat 0)) (encZ A0 ks s) := by
    simp [numb_i]
  exact e0.trans (fin_of (seq_nx (asg_ok (meth_ok rfl insZ (by simp [fsZ, List.lookup]) (cons_ok (bin_ok rfl rfl (ix_tup at2)) rfl) (keyZ (r := 6) h6)))
    (seq_nx (asg_ok (meth_ok rfl insZ (by simp [fsZ, List.lookup]) (cons_ok (bin_ok (fld_ok rfl f_storeZ) (meth_ok rfl insZ (by simp [fsZ, List.lookup]) (cons_ok rfl (cons_ok (bin_ok rfl rfl (ix_tup at3)) (cons_ok rfl rfl))) (cell_inZ (z := "g") (fun _ => in_g) h0 h1)) (ix_ref stZ (at_in hc h0 h1))) rfl) (lookZ (q := .n _)))) (Tg.ret_ok hl))))
theorem taken_outZ {r : Nat} {a : Int} (hb : s.m.boxes.length = 6) (hx : s.x = .k a) (h : ¬ (0 ≤ a ∧ a < 64)) : m_Lazy_taken_out [.ref A0.length, (KR.kget r).d] (encZ A0 ks s) = .exc ⟨"Stop", some [("word", .str "beyond")]⟩ (encZ A0 ks s) := by
  have e0 : m_Lazy_taken_out [.ref A0.length, (KR.kget r).d] (encZ A0 ks s) = finS (b_Lazy_taken_out [some (.ref A0.length), some (KR.kget r).d, none, none] (encZ A0 ks s)) := rfl
  have h6 := held_6 hb
  rw [hx] at h6
  exact e0.trans (fin_x (seq_nx (asg_ok (meth_ok rfl insZ (by simp [fsZ, List.lookup]) (cons_ok (bin_ok rfl rfl (ix_tup at2)) rfl) (keyZ (r := 6) h6)))
    (seq_x (asg_x (meth_ax rfl insZ (by simp [fsZ, List.lookup]) (cons_x (bin_x (fld_ok rfl f_storeZ) (meth_x rfl insZ (by simp [fsZ, List.lookup]) (cons_ok rfl (cons_ok (bin_ok rfl rfl (ix_tup at3)) (cons_ok rfl rfl))) (cell_outZ (z := "g") (fun _ => in_g) h)))))))))
theorem put_inZ {t : Nat} {a : Int} (ht : t < 6) (hb : s.m.boxes.length = 6) (hc : s.m.cells.length = 64) (hx : s.x = .k a) (h0 : 0 ≤ a) (h1 : a < 64) : m_Lazy_put_in [.ref A0.length, (KR.kset t).d] (encZ A0 ks s) = .ok .non (encZ A0 ks { s with m := { s.m with cells := s.m.cells.set a.toNat (bx s.m t) } }) := by
  have e0 : m_Lazy_put_in [.ref A0.length, (KR.kset t).d] (encZ A0 ks s) = finS (b_Lazy_put_in [some (.ref A0.length), some (KR.kset t).d, none, none, none] (encZ A0 ks s)) := rfl
  have h6 := held_6 hb
  rw [hx] at h6
  have hl : (mOrV (mCall m_is_number (mCons (mv 3) mNil)) (mBin inD (mc (.str "h")) (mBin ixD (mv 2) (mc (.int (4)))))) [some (.ref A0.length), some (KR.kset t).d, some (Q.k a).d, some (.int (bx s.m t)), some (.int a)] (encZ A0 ks s) = .ok (.bl true) (encZ A0 ks s) := by
    simp [numb_i]
  exact e0.trans (fin_nx (seq_nx (asg_ok (meth_ok rfl insZ (by simp [fsZ, List.lookup]) (cons_ok (bin_ok rfl rfl (ix_tup at1)) rfl) (keyZ (r := 6) h6)))
    (seq_nx (asg_ok (meth_ok rfl insZ (by simp [fsZ, List.lookup]) (cons_ok (bin_ok rfl rfl (ix_tup at3)) rfl) (boxZ (held_n hb ht))))
      (seq_nx (asg_ok (meth_ok rfl insZ (by simp [fsZ, List.lookup]) (cons_ok rfl (cons_ok (bin_ok rfl rfl (ix_tup at2)) (cons_ok rfl rfl))) (cell_inZ (z := "s") (fun _ => in_s) h0 h1)))
        (seq_nx (drop_ok (call_ok (cons_ok hl (cons_ok rfl rfl)) need_t)) (sub_ok rfl (fld_ok rfl f_storeZ) rfl (w_storeZ hc h0 h1)))))))
theorem put_outZ {t : Nat} {a : Int} (ht : t < 6) (hb : s.m.boxes.length = 6) (hx : s.x = .k a) (h : ¬ (0 ≤ a ∧ a < 64)) : m_Lazy_put_in [.ref A0.length, (KR.kset t).d] (encZ A0 ks s) = .exc ⟨"Stop", some [("word", .str "beyond")]⟩ (encZ A0 ks s) := by
  have e0 : m_Lazy_put_in [.ref A0.length, (KR.kset t).d] (encZ A0 ks s) = finS (b_Lazy_put_in [some (.ref A0.length), some (KR.kset t).d, none, none, none] (encZ A0 ks s)) := rfl
  have h6 := held_6 hb
  rw [hx] at h6
  exact e0.trans (fin_x (seq_nx (asg_ok (meth_ok rfl insZ (by simp [fsZ, List.lookup]) (cons_ok (bin_ok rfl rfl (ix_tup at1)) rfl) (keyZ (r := 6) h6)))
    (seq_nx (asg_ok (meth_ok rfl insZ (by simp [fsZ, List.lookup]) (cons_ok (bin_ok rfl rfl (ix_tup at3)) rfl) (boxZ (held_n hb ht))))
      (seq_x (asg_x (meth_x rfl insZ (by simp [fsZ, List.lookup]) (cons_ok rfl (cons_ok (bin_ok rfl rfl (ix_tup at2)) (cons_ok rfl rfl))) (cell_outZ (z := "s") (fun _ => in_s) h)))))))
end
end K16

set_option Elab.async false
set_option linter.all false
set_option maxRecDepth 100000
set_option maxHeartbeats 4000000
/-! K16N: a row done. -/
namespace K16
open PySem Tg L2
open SX (S)
theorem par2 {i j : Nat} {a b : ME} {s : Sl} {A A1 A2 : AH} {x y : D} (h1 : a s A = .ok x A1) (h2 : b s A1 = .ok y A2) : mPar [i, j] (mCons a (mCons b mNil)) s A = .nx ((s.set i (some x)).set j (some y)) A2 := by
  rw [e_par, cons_ok h1 (cons_ok h2 rfl), kPar_2]
theorem eq_st {x y : String} {A : AH} : eqD (.str x) (.str y) A = .ok (.bl (decide (x = y))) A := by
  rw [o_eqS, ofS_beq]
theorem eqw {i : Nat} {x y : String} {s : Sl} {A : AH} {b : Bool} (h : mv i s A = .ok (.str x) A) (hb : decide (x = y) = b) : mBin eqD (mv i) (mc (.str y)) s A = .ok (.bl b) A := bin_ok h rfl (by rw [eq_st, hb])
theorem eqI {i j : Int} {A : AH} : eqD (.int i) (.int j) A = .ok (.bl (i == j)) A := o_eqI
theorem int_b {b : Bool} {A : AH} : intD [.bl b] A = .ok (.int (if b then 1 else 0)) A := rfl
theorem endK {A : AH} {x : D} {s : Sl} (h : s[0]? = some (some x)) : mv 0 s A = .ok x A := by simp only [mv, h]

section
variable {A0 : AH} {ks : List D} {s : KM}
theorem doubA {b t : Nat} {w : String} {v : Int} (hb : s.m.boxes.length = 6) (h1 : b < 6) (h2 : t < 6) (hw : (w = "add" ∧ v = ringI (bx s.m b + bx s.m t)) ∨ (w = "take" ∧ v = ringI (bx s.m b - bx s.m t)) ∨ (w = "less" ∧ v = if bx s.m b < bx s.m t then 1 else 0) ∨ (w = "same" ∧ v = if bx s.m b = bx s.m t then 1 else 0)) {x y : D} :
    m_AtOnce_double [.ref A0.length, .str w, .tup [x, y, .int b, .int t]] (encA A0 ks s) = .ok (.int v) (encA A0 ks s) := by
  have e0 : m_AtOnce_double [.ref A0.length, .str w, .tup [x, y, .int b, .int t]] (encA A0 ks s) = finS (b_AtOnce_double [some (.ref A0.length), some (.str w), some (.tup [x, y, .int b, .int t]), none, none] (encA A0 ks s)) := rfl
  have p1 : (mMeth "AtOnce" "box" m_AtOnce_box (mv 0) (mCons (mBin ixD (mv 2) (mc (.int (2)))) mNil)) [some (.ref A0.length), some (.str w), some (.tup [x, y, .int b, .int t]), none, none] (encA A0 ks s) = .ok (.int (bx s.m b)) (encA A0 ks s) :=
    meth_ok rfl insA (by simp [fsA, List.lookup]) (cons_ok (bin_ok rfl rfl (ix_tup at2)) rfl) (boxA (held_n hb h1))
  have p2 : (mMeth "AtOnce" "box" m_AtOnce_box (mv 0) (mCons (mBin ixD (mv 2) (mc (.int (3)))) mNil)) [some (.ref A0.length), some (.str w), some (.tup [x, y, .int b, .int t]), none, none] (encA A0 ks s) = .ok (.int (bx s.m t)) (encA A0 ks s) :=
    meth_ok rfl insA (by simp [fsA, List.lookup]) (cons_ok (bin_ok rfl rfl (ix_tup at3)) rfl) (boxA (held_n hb h2))
  refine e0.trans (fin_of (seq_nx (par2 p1 p2) ?_))
  have kd : (mAndV (mBin ltD (mCall m_kind_of (mCons (mv 3) mNil)) (mc (.int (2)))) (mCall m_is_number (mCons (mv 4) mNil))) [some (.ref A0.length), some (.str w), some (.tup [x, y, .int b, .int t]), some (.int (bx s.m b)), some (.int (bx s.m t))] (encA A0 ks s) = .ok (.bl true) (encA A0 ks s) := by
    simp [kind_i, numb_i]
  have kn : (mAndV (mCall m_is_number (mCons (mv 3) mNil)) (mCall m_is_number (mCons (mv 4) mNil))) [some (.ref A0.length), some (.str w), some (.tup [x, y, .int b, .int t]), some (.int (bx s.m b)), some (.int (bx s.m t))] (encA A0 ks s) = .ok (.bl true) (encA A0 ks s) := by
    simp [numb_i]
  rcases hw with ⟨rfl, rfl⟩ | ⟨rfl, rfl⟩ | ⟨rfl, rfl⟩ | ⟨rfl, rfl⟩
  · have g : (mIf (mTb (mBin eqD (mv 1) (mc (.str "add")))) (mv 4) (mBin subD (mc (.int (0))) (mv 4))) [some (.ref A0.length), some (.str "add"), some (.tup [x, y, .int b, .int t]), some (.int (bx s.m b)), some (.int (bx s.m t))] (encA A0 ks s) = .ok (.int (bx s.m t)) (encA A0 ks s) := by simp
    exact seq_nx (ifS_f (eqw (i := 1) rfl (by decide)) rfl) (seq_nx (ifS_f (eqw (i := 1) rfl (by decide)) rfl) (seq_nx (drop_ok (call_ok (cons_ok kd (cons_ok rfl rfl)) need_t)) (Tg.ret_ok (call_ok (cons_ok rfl (cons_ok g rfl)) moved_n))))
  · have g : (mIf (mTb (mBin eqD (mv 1) (mc (.str "add")))) (mv 4) (mBin subD (mc (.int (0))) (mv 4))) [some (.ref A0.length), some (.str "take"), some (.tup [x, y, .int b, .int t]), some (.int (bx s.m b)), some (.int (bx s.m t))] (encA A0 ks s) = .ok (.int (0 - bx s.m t)) (encA A0 ks s) := by simp
    have q := moved_n (A := encA A0 ks s) (i := bx s.m b) (j := 0 - bx s.m t)
    rw [show bx s.m b + (0 - bx s.m t) = bx s.m b - bx s.m t by omega] at q
    exact seq_nx (ifS_f (eqw (i := 1) rfl (by decide)) rfl) (seq_nx (ifS_f (eqw (i := 1) rfl (by decide)) rfl) (seq_nx (drop_ok (call_ok (cons_ok kd (cons_ok rfl rfl)) need_t)) (Tg.ret_ok (call_ok (cons_ok rfl (cons_ok g rfl)) q))))
  · have q : intD [.bl (decide (bx s.m b < bx s.m t))] (encA A0 ks s) = .ok (.int (if bx s.m b < bx s.m t then 1 else 0)) (encA A0 ks s) := by
      rw [int_b]
      by_cases h : bx s.m b < bx s.m t <;> simp [h]
    exact seq_nx (ifS_f (eqw (i := 1) rfl (by decide)) rfl) (seq_rt (ifS_t (eqw (i := 1) rfl (by decide)) (seq_nx (drop_ok (call_ok (cons_ok kn (cons_ok rfl rfl)) need_t)) (Tg.ret_ok (call_ok (cons_ok (bin_ok rfl rfl o_lt) rfl) q)))))
  · have q : intD [.bl (bx s.m b == bx s.m t)] (encA A0 ks s) = .ok (.int (if bx s.m b = bx s.m t then 1 else 0)) (encA A0 ks s) := by
      rw [int_b]
      by_cases h : bx s.m b = bx s.m t <;> simp [h]
    exact seq_rt (ifS_t (eqw (i := 1) rfl (by decide)) (Tg.ret_ok (call_ok (cons_ok (bin_ok rfl rfl eqI) rfl) q)))
theorem doub6A {b : Nat} {x y : D} (hb : s.m.boxes.length = 6) (h1 : b < 6) : m_AtOnce_double [.ref A0.length, .str "add", .tup [x, y, .int 7, .int b]] (encA A0 ks s) = .ok (Q.k (ringI (0 + bx s.m b))).d (encA A0 ks s) := by
  have e0 : m_AtOnce_double [.ref A0.length, .str "add", .tup [x, y, .int 7, .int b]] (encA A0 ks s) = finS (b_AtOnce_double [some (.ref A0.length), some (.str "add"), some (.tup [x, y, .int 7, .int b]), none, none] (encA A0 ks s)) := rfl
  have p1 : (mMeth "AtOnce" "box" m_AtOnce_box (mv 0) (mCons (mBin ixD (mv 2) (mc (.int (2)))) mNil)) [some (.ref A0.length), some (.str "add"), some (.tup [x, y, .int 7, .int b]), none, none] (encA A0 ks s) = .ok (Q.k 0).d (encA A0 ks s) :=
    meth_ok rfl insA (by simp [fsA, List.lookup]) (cons_ok (bin_ok rfl rfl (ix_tup at2)) rfl) (boxA (r := 7) (held_7 hb))
  have p2 : (mMeth "AtOnce" "box" m_AtOnce_box (mv 0) (mCons (mBin ixD (mv 2) (mc (.int (3)))) mNil)) [some (.ref A0.length), some (.str "add"), some (.tup [x, y, .int 7, .int b]), none, none] (encA A0 ks s) = .ok (.int (bx s.m b)) (encA A0 ks s) :=
    meth_ok rfl insA (by simp [fsA, List.lookup]) (cons_ok (bin_ok rfl rfl (ix_tup at3)) rfl) (boxA (held_n hb h1))
  refine e0.trans (fin_of (seq_nx (par2 p1 p2) ?_))
  have kd : (mAndV (mBin ltD (mCall m_kind_of (mCons (mv 3) mNil)) (mc (.int (2)))) (mCall m_is_number (mCons (mv 4) mNil))) [some (.ref A0.length), some (.str "add"), some (.tup [x, y, .int 7, .int b]), some (Q.k 0).d, some (.int (bx s.m b))] (encA A0 ks s) = .ok (.bl true) (encA A0 ks s) := by
    simp [kind_k, numb_i]
  have g : (mIf (mTb (mBin eqD (mv 1) (mc (.str "add")))) (mv 4) (mBin subD (mc (.int (0))) (mv 4))) [some (.ref A0.length), some (.str "add"), some (.tup [x, y, .int 7, .int b]), some (Q.k 0).d, some (.int (bx s.m b))] (encA A0 ks s) = .ok (.int (bx s.m b)) (encA A0 ks s) := by simp
  exact seq_nx (ifS_f (eqw (i := 1) rfl (by decide)) rfl) (seq_nx (ifS_f (eqw (i := 1) rfl (by decide)) rfl) (seq_nx (drop_ok (call_ok (cons_ok kd (cons_ok rfl rfl)) need_t)) (Tg.ret_ok (call_ok (cons_ok rfl (cons_ok g rfl)) moved_k))))
def wSlA (A0 : AH) (w : String) (d : D) : Sl := [some (.ref A0.length), some (.str w), some d, none]
theorem worth_dA {w : String} {d v : D} (hw : w = "add" ∨ w = "take" ∨ w = "less" ∨ w = "same") (h : m_AtOnce_double [.ref A0.length, .str w, d] (encA A0 ks s) = .ok v (encA A0 ks s)) : m_AtOnce_worth [.ref A0.length, .str w, d] (encA A0 ks s) = .ok v (encA A0 ks s) := by
  have e0 : m_AtOnce_worth [.ref A0.length, .str w, d] (encA A0 ks s) = finS (b_AtOnce_worth [some (.ref A0.length), some (.str w), some d, none] (encA A0 ks s)) := rfl
  have o6 : (mOr (mTb (mBin eqD (mv 1) (mc (.str "move")))) (mTb (mBin eqD (mv 1) (mc (.str "is"))))) [some (.ref A0.length), some (.str w), some d, none] (encA A0 ks s) = .ok false (encA A0 ks s) := by
    rcases hw with rfl | rfl | rfl | rfl <;> simp
  have i6 : ∀ a : MS, (mIfS (mOr (mTb (mBin eqD (mv 1) (mc (.str "move")))) (mTb (mBin eqD (mv 1) (mc (.str "is"))))) a mNx) [some (.ref A0.length), some (.str w), some d, none] (encA A0 ks s) = .nx [some (.ref A0.length), some (.str w), some d, none] (encA A0 ks s) := fun a => by
    rw [e_ifS, o6]
    rfl
  have m : (mMeth "AtOnce" "double" m_AtOnce_double (mv 0) (mCons (mv 1) (mCons (mv 2) mNil))) [some (.ref A0.length), some (.str w), some d, none] (encA A0 ks s) = .ok v (encA A0 ks s) := meth_ok rfl insA (by simp [fsA, List.lookup]) (cons_ok rfl (cons_ok rfl rfl)) h
  rcases hw with rfl | rfl | rfl | rfl
  · exact e0.trans (fin_of (seq_nx (ifS_f (eqw (i := 1) rfl (by decide)) rfl) (seq_nx (ifS_f (eqw (i := 1) rfl (by decide)) rfl) (seq_nx (ifS_f (eqw (i := 1) rfl (by decide)) rfl) (seq_nx (ifS_f (eqw (i := 1) rfl (by decide)) rfl) (seq_nx (ifS_f (eqw (i := 1) rfl (by decide)) rfl) (seq_nx (ifS_f (eqw (i := 1) rfl (by decide)) rfl) (seq_nx (i6 _) (Tg.ret_ok m)))))))))
  · exact e0.trans (fin_of (seq_nx (ifS_f (eqw (i := 1) rfl (by decide)) rfl) (seq_nx (ifS_f (eqw (i := 1) rfl (by decide)) rfl) (seq_nx (ifS_f (eqw (i := 1) rfl (by decide)) rfl) (seq_nx (ifS_f (eqw (i := 1) rfl (by decide)) rfl) (seq_nx (ifS_f (eqw (i := 1) rfl (by decide)) rfl) (seq_nx (ifS_f (eqw (i := 1) rfl (by decide)) rfl) (seq_nx (i6 _) (Tg.ret_ok m)))))))))
  · exact e0.trans (fin_of (seq_nx (ifS_f (eqw (i := 1) rfl (by decide)) rfl) (seq_nx (ifS_f (eqw (i := 1) rfl (by decide)) rfl) (seq_nx (ifS_f (eqw (i := 1) rfl (by decide)) rfl) (seq_nx (ifS_f (eqw (i := 1) rfl (by decide)) rfl) (seq_nx (ifS_f (eqw (i := 1) rfl (by decide)) rfl) (seq_nx (ifS_f (eqw (i := 1) rfl (by decide)) rfl) (seq_nx (i6 _) (Tg.ret_ok m)))))))))
  · exact e0.trans (fin_of (seq_nx (ifS_f (eqw (i := 1) rfl (by decide)) rfl) (seq_nx (ifS_f (eqw (i := 1) rfl (by decide)) rfl) (seq_nx (ifS_f (eqw (i := 1) rfl (by decide)) rfl) (seq_nx (ifS_f (eqw (i := 1) rfl (by decide)) rfl) (seq_nx (ifS_f (eqw (i := 1) rfl (by decide)) rfl) (seq_nx (ifS_f (eqw (i := 1) rfl (by decide)) rfl) (seq_nx (i6 _) (Tg.ret_ok m)))))))))
theorem worth_putA {d v : D} (h : ∀ B, ixD d (.int 2) B = .ok v B) : m_AtOnce_worth [.ref A0.length, .str "put", d] (encA A0 ks s) = .ok v (encA A0 ks s) := by
  have e0 : m_AtOnce_worth [.ref A0.length, .str "put", d] (encA A0 ks s) = finS (b_AtOnce_worth [some (.ref A0.length), some (.str "put"), some d, none] (encA A0 ks s)) := rfl
  exact e0.trans (fin_of (seq_rt (ifS_t (eqw (i := 1) rfl (by decide)) (Tg.ret_ok (bin_ok rfl rfl (h _))))))
theorem worth_moveA {r b : Nat} (hb : s.m.boxes.length = 6) (h : b < 6) : m_AtOnce_worth [.ref A0.length, .str "move", (PR.move r b).d] (encA A0 ks s) = .ok (.int (bx s.m b)) (encA A0 ks s) := by
  have e0 : m_AtOnce_worth [.ref A0.length, .str "move", (PR.move r b).d] (encA A0 ks s) = finS (b_AtOnce_worth [some (.ref A0.length), some (.str "move"), some (PR.move r b).d, none] (encA A0 ks s)) := rfl
  have bo : (mMeth "AtOnce" "box" m_AtOnce_box (mv 0) (mCons (mBin ixD (mv 2) (mc (.int (2)))) mNil)) [some (.ref A0.length), some (.str "move"), some (PR.move r b).d, none] (encA A0 ks s) = .ok (.int (bx s.m b)) (encA A0 ks s) :=
    meth_ok rfl insA (by simp [fsA, List.lookup]) (cons_ok (bin_ok rfl rfl (ix_tup at2)) rfl) (boxA (held_n hb h))
  have o6 : (mOr (mTb (mBin eqD (mv 1) (mc (.str "move")))) (mTb (mBin eqD (mv 1) (mc (.str "is"))))) [some (.ref A0.length), some (.str "move"), some (PR.move r b).d, none] (encA A0 ks s) = .ok true (encA A0 ks s) := by
    rw [e_or, e_tb, eqw (i := 1) (b := true) rfl (by decide), kT_0, kOr_0]
  have t6 : mTb (mBin eqD (mv 1) (mc (.str "move"))) [some (.ref A0.length), some (.str "move"), some (PR.move r b).d, none] (encA A0 ks s) = .ok true (encA A0 ks s) := by
    rw [e_tb, eqw (i := 1) (b := true) rfl (by decide), kT_0]
  refine e0.trans (fin_of (seq_nx (ifS_f (eqw (i := 1) rfl (by decide)) rfl) (seq_nx (ifS_f (eqw (i := 1) rfl (by decide)) rfl) (seq_nx (ifS_f (eqw (i := 1) rfl (by decide)) rfl) (seq_nx (ifS_f (eqw (i := 1) rfl (by decide)) rfl) (seq_nx (ifS_f (eqw (i := 1) rfl (by decide)) rfl) (seq_nx (ifS_f (eqw (i := 1) rfl (by decide)) rfl) (seq_rt ?_))))))))
  rw [e_ifS]
  refine (congrArg (kIf _ _ _) o6).trans ?_
  rw [kIf_0]
  refine Tg.ret_ok ?_
  rw [e_if]
  refine (congrArg (kI _ _ _) t6).trans ?_
  rw [kI_0]
  exact bo
theorem worth_getA {d v : D} (h : m_AtOnce_taken_out [.ref A0.length, d] (encA A0 ks s) = .ok v (encA A0 ks s)) : m_AtOnce_worth [.ref A0.length, .str "get", d] (encA A0 ks s) = .ok v (encA A0 ks s) := by
  have e0 : m_AtOnce_worth [.ref A0.length, .str "get", d] (encA A0 ks s) = finS (b_AtOnce_worth [some (.ref A0.length), some (.str "get"), some d, none] (encA A0 ks s)) := rfl
  exact e0.trans (fin_of (seq_nx (ifS_f (eqw (i := 1) rfl (by decide)) rfl) (seq_nx (ifS_f (eqw (i := 1) rfl (by decide)) rfl) (seq_rt (ifS_t (eqw (i := 1) rfl (by decide)) (Tg.ret_ok (meth_ok rfl insA (by simp [fsA, List.lookup]) (cons_ok rfl rfl) h)))))))
theorem worth_xA {d : D} {x : XV} (h : m_AtOnce_taken_out [.ref A0.length, d] (encA A0 ks s) = .exc x (encA A0 ks s)) : m_AtOnce_worth [.ref A0.length, .str "get", d] (encA A0 ks s) = .exc x (encA A0 ks s) := by
  have e0 : m_AtOnce_worth [.ref A0.length, .str "get", d] (encA A0 ks s) = finS (b_AtOnce_worth [some (.ref A0.length), some (.str "get"), some d, none] (encA A0 ks s)) := rfl
  exact e0.trans (fin_x (seq_nx (ifS_f (eqw (i := 1) rfl (by decide)) rfl) (seq_nx (ifS_f (eqw (i := 1) rfl (by decide)) rfl) (seq_x (ifS_t (eqw (i := 1) rfl (by decide)) (Tg.ret_x (meth_x rfl insA (by simp [fsA, List.lookup]) (cons_ok rfl rfl) h)))))))
/-! done -/
theorem done_goA {g : Nat} : m_AtOnce_done [.ref A0.length, (PR.go g).d] (encA A0 ks s) = .ok (.int g) (encA A0 ks s) := by
  have e0 : m_AtOnce_done [.ref A0.length, (PR.go g).d] (encA A0 ks s) = finS (b_AtOnce_done [some (.ref A0.length), some (PR.go g).d, none] (encA A0 ks s)) := rfl
  exact e0.trans (fin_of (seq_nx (asg_ok (bin_ok rfl rfl (ix_tup at0))) (seq_rt (ifS_t (eqw (i := 2) rfl (by decide)) (Tg.ret_ok (bin_ok rfl rfl (ix_tup at1)))))))
theorem done_ifA {r g : Nat} (hb : s.m.boxes.length = 6) (h : r < 6) : m_AtOnce_done [.ref A0.length, (PR.iff r g).d] (encA A0 ks s) = .ok (.int ((if bx s.m r ≠ 0 then g else s.m.here + 1 : Nat) : Int)) (encA A0 ks s) := by
  have e0 : m_AtOnce_done [.ref A0.length, (PR.iff r g).d] (encA A0 ks s) = finS (b_AtOnce_done [some (.ref A0.length), some (PR.iff r g).d, none] (encA A0 ks s)) := rfl
  have bo : (mMeth "AtOnce" "box" m_AtOnce_box (mv 0) (mCons (mBin ixD (mv 1) (mc (.int (1)))) mNil)) [some (.ref A0.length), some (PR.iff r g).d, some (.str "if")] (encA A0 ks s) = .ok (.int (bx s.m r)) (encA A0 ks s) :=
    meth_ok rfl insA (by simp [fsA, List.lookup]) (cons_ok (bin_ok rfl rfl (ix_tup at1)) rfl) (boxA (held_n hb h))
  have ts : mTb (mBin neD (mMeth "AtOnce" "box" m_AtOnce_box (mv 0) (mCons (mBin ixD (mv 1) (mc (.int (1)))) mNil)) (mc (.int (0)))) [some (.ref A0.length), some (PR.iff r g).d, some (.str "if")] (encA A0 ks s) = .ok (!(bx s.m r == 0)) (encA A0 ks s) := by
    rw [e_tb, bin_ok bo rfl o_neI, kT_0]
  have vl : (mIf (mTb (mBin neD (mMeth "AtOnce" "box" m_AtOnce_box (mv 0) (mCons (mBin ixD (mv 1) (mc (.int (1)))) mNil)) (mc (.int (0))))) (mBin ixD (mv 1) (mc (.int (2)))) (mBin addD (mFld cs_here "here" (mv 0)) (mc (.int (1))))) [some (.ref A0.length), some (PR.iff r g).d, some (.str "if")] (encA A0 ks s) = .ok (.int ((if bx s.m r ≠ 0 then g else s.m.here + 1 : Nat) : Int)) (encA A0 ks s) := by
    rw [e_if]
    refine (congrArg (kI _ _ _) ts).trans ?_
    by_cases hz : bx s.m r = 0
    · rw [hz]
      show kI _ _ _ (.ok false _) = _
      rw [kI_1, if_neg (fun q => q rfl)]
      exact bin_ok (fld_ok rfl f_hereA) rfl rfl
    · rw [show (bx s.m r == 0) = false from by simpa using hz, if_pos hz]
      show kI _ _ _ (.ok true _) = _
      rw [kI_0]
      exact bin_ok rfl rfl (ix_tup at2)
  exact e0.trans (fin_of (seq_nx (asg_ok (bin_ok rfl rfl (ix_tup at0))) (seq_nx (ifS_f (eqw (i := 2) rfl (by decide)) rfl) (seq_rt (ifS_t (eqw (i := 2) rfl (by decide)) (Tg.ret_ok vl))))))
theorem done_sayA {r : Nat} (hb : s.m.boxes.length = 6) (h : r < 6) (hs : s.m.said.length < 16777216) : m_AtOnce_done [.ref A0.length, (PR.say r).d] (encA A0 ks s) = .ok (.int ((s.m.here + 1 : Nat) : Int)) (encA A0 ks { s with m := { s.m with said := s.m.said ++ [bx s.m r] } }) := by
  have e0 : m_AtOnce_done [.ref A0.length, (PR.say r).d] (encA A0 ks s) = finS (b_AtOnce_done [some (.ref A0.length), some (PR.say r).d, none] (encA A0 ks s)) := rfl
  have ty : tyMD (encA A0 ks s) "list" (.ref (A0.length + 3)) = true := by
    rw [ty_list, seq_ref, tkA]
    rfl
  exact e0.trans (fin_of (seq_nx (asg_ok (bin_ok rfl rfl (ix_tup at0))) (seq_nx (ifS_f (eqw (i := 2) rfl (by decide)) rfl) (seq_nx (ifS_f (eqw (i := 2) rfl (by decide)) rfl) (seq_nx (ifS_f (eqw (i := 2) rfl (by decide)) rfl)
    (seq_nx (ifS_t (eqw (i := 2) rfl (by decide)) (drop_ok (mt_ok (fld_ok rfl f_talkA) ty (cons_ok (meth_ok rfl insA (by simp [fsA, List.lookup]) (cons_ok (bin_ok rfl rfl (ix_tup at1)) rfl) (numberA (held_n hb h))) rfl) (w_talkA hs)))) (Tg.ret_ok (bin_ok (fld_ok rfl f_hereA) rfl rfl))))))))
theorem done_setA {t : Nat} {s2 : KM} (h : m_AtOnce_put_in [.ref A0.length, (KR.kset t).d] (encA A0 ks s) = .ok .non (encA A0 ks s2)) : m_AtOnce_done [.ref A0.length, (KR.kset t).d] (encA A0 ks s) = .ok (.int ((s2.m.here + 1 : Nat) : Int)) (encA A0 ks s2) := by
  have e0 : m_AtOnce_done [.ref A0.length, (KR.kset t).d] (encA A0 ks s) = finS (b_AtOnce_done [some (.ref A0.length), some (KR.kset t).d, none] (encA A0 ks s)) := rfl
  exact e0.trans (fin_of (seq_nx (asg_ok (bin_ok rfl rfl (ix_tup at0))) (seq_nx (ifS_f (eqw (i := 2) rfl (by decide)) rfl) (seq_nx (ifS_f (eqw (i := 2) rfl (by decide)) rfl) (seq_nx (ifS_f (eqw (i := 2) rfl (by decide)) rfl)
    (seq_nx (ifS_f (eqw (i := 2) rfl (by decide)) (ifS_t (eqw (i := 2) rfl (by decide)) (drop_ok (meth_ok rfl insA (by simp [fsA, List.lookup]) (cons_ok rfl rfl) h)))) (Tg.ret_ok (bin_ok (fld_ok rfl f_hereA) rfl rfl))))))))
theorem done_setxA {t : Nat} {x : XV} (h : m_AtOnce_put_in [.ref A0.length, (KR.kset t).d] (encA A0 ks s) = .exc x (encA A0 ks s)) : m_AtOnce_done [.ref A0.length, (KR.kset t).d] (encA A0 ks s) = .exc x (encA A0 ks s) := by
  have e0 : m_AtOnce_done [.ref A0.length, (KR.kset t).d] (encA A0 ks s) = finS (b_AtOnce_done [some (.ref A0.length), some (KR.kset t).d, none] (encA A0 ks s)) := rfl
  exact e0.trans (fin_x (seq_nx (asg_ok (bin_ok rfl rfl (ix_tup at0))) (seq_nx (ifS_f (eqw (i := 2) rfl (by decide)) rfl) (seq_nx (ifS_f (eqw (i := 2) rfl (by decide)) rfl) (seq_nx (ifS_f (eqw (i := 2) rfl (by decide)) rfl)
    (seq_x (ifS_f (eqw (i := 2) rfl (by decide)) (ifS_t (eqw (i := 2) rfl (by decide)) (drop_x (meth_x rfl insA (by simp [fsA, List.lookup]) (cons_ok rfl rfl) h))))))))))
/-- a row that puts its worth into a box -/
theorem done_putA {w : String} {d r v : D} {s2 : KM} (hw : w = "put" ∨ w = "move" ∨ w = "add" ∨ w = "take" ∨ w = "less" ∨ w = "same" ∨ w = "get") (h0 : ∀ B, ixD d (.int 0) B = .ok (.str w) B) (h1 : ∀ B, ixD d (.int 1) B = .ok r B) (h : m_AtOnce_worth [.ref A0.length, .str w, d] (encA A0 ks s) = .ok v (encA A0 ks s))
    (hst : stSub (.ref (A0.length + 2)) r v (encA A0 ks s) = some (encA A0 ks s2)) : m_AtOnce_done [.ref A0.length, d] (encA A0 ks s) = .ok (.int ((s2.m.here + 1 : Nat) : Int)) (encA A0 ks s2) := by
  have e0 : m_AtOnce_done [.ref A0.length, d] (encA A0 ks s) = finS (b_AtOnce_done [some (.ref A0.length), some d, none] (encA A0 ks s)) := rfl
  have ne : ∀ y : String, y = "go" ∨ y = "if" ∨ y = "enter" ∨ y = "say" ∨ y = "set" ∨ y = "shut" → decide (w = y) = false := fun y hy => by
    rcases hw with rfl | rfl | rfl | rfl | rfl | rfl | rfl <;> rcases hy with rfl | rfl | rfl | rfl | rfl | rfl <;> decide
  exact e0.trans (fin_of (seq_nx (asg_ok (bin_ok rfl rfl (h0 _))) (seq_nx (ifS_f (eqw (i := 2) rfl (ne _ (by simp))) rfl) (seq_nx (ifS_f (eqw (i := 2) rfl (ne _ (by simp))) rfl) (seq_nx (ifS_f (eqw (i := 2) rfl (ne _ (by simp))) rfl)
    (seq_nx (ifS_f (eqw (i := 2) rfl (ne _ (by simp))) (ifS_f (eqw (i := 2) rfl (ne _ (by simp))) (ifS_f (eqw (i := 2) rfl (ne _ (by simp))) (sub_ok (meth_ok rfl insA (by simp [fsA, List.lookup]) (cons_ok rfl (cons_ok rfl rfl)) h) (fld_ok rfl f_heldA) (bin_ok rfl rfl (h1 _)) hst)))) (Tg.ret_ok (bin_ok (fld_ok rfl f_hereA) rfl rfl))))))))
theorem done_getxA {d : D} {x : XV} (h0 : ∀ B, ixD d (.int 0) B = .ok (.str "get") B) (h : m_AtOnce_worth [.ref A0.length, .str "get", d] (encA A0 ks s) = .exc x (encA A0 ks s)) : m_AtOnce_done [.ref A0.length, d] (encA A0 ks s) = .exc x (encA A0 ks s) := by
  have e0 : m_AtOnce_done [.ref A0.length, d] (encA A0 ks s) = finS (b_AtOnce_done [some (.ref A0.length), some d, none] (encA A0 ks s)) := rfl
  exact e0.trans (fin_x (seq_nx (asg_ok (bin_ok rfl rfl (h0 _))) (seq_nx (ifS_f (eqw (i := 2) rfl (by decide)) rfl) (seq_nx (ifS_f (eqw (i := 2) rfl (by decide)) rfl) (seq_nx (ifS_f (eqw (i := 2) rfl (by decide)) rfl)
    (seq_x (ifS_f (eqw (i := 2) rfl (by decide)) (ifS_f (eqw (i := 2) rfl (by decide)) (ifS_f (eqw (i := 2) rfl (by decide)) (sub_x (meth_x rfl insA (by simp [fsA, List.lookup]) (cons_ok rfl (cons_ok rfl rfl)) h)))))))))))
/-! step -/
def upSA (s : KM) : KM := { s with m := { s.m with steps := s.m.steps + 1 } }
theorem step_ofA {p : KR} {w : String} {n : Nat} {s2 : KM} (hp : ks[s.m.here]? = some p.d) (h0 : ∀ B, ixD p.d (.int 0) B = .ok (.str w) B) (hw : w ≠ "end") (he : s2.m.en = none) (h : m_AtOnce_done [.ref A0.length, p.d] (encA A0 ks (upSA s)) = .ok (.int n) (encA A0 ks s2)) :
    m_AtOnce_step [.ref A0.length] (encA A0 ks s) = .ok .non (encA A0 ks { s2 with m := chk ks.length { s2.m with here := n } }) := by
  have e0 : m_AtOnce_step [.ref A0.length] (encA A0 ks s) = finS (b_AtOnce_step [some (.ref A0.length), none, none] (encA A0 ks s)) := rfl
  have c1 : (mBin ixD (mFld cs_program "program" (mv 0)) (mFld cs_here "here" (mv 0))) [some (.ref A0.length), none, none] (encA A0 ks s) = .ok p.d (encA A0 ks s) := bin_ok (fld_ok rfl f_progA) (fld_ok rfl f_hereA) (ix_tup (atI_ok hp))
  have c2 : (mBin addD (mFld cs_steps "steps" (mv 0)) (mc (.int (1)))) [some (.ref A0.length), some p.d, none] (encA A0 ks s) = .ok (.int ((s.m.steps + 1 : Nat) : Int)) (encA A0 ks s) := bin_ok (fld_ok rfl f_stepsA) rfl rfl
  have c3 : (mBin eqD (mBin ixD (mv 1) (mc (.int (0)))) (mc (.str "end"))) [some (.ref A0.length), some p.d, none] (encA A0 ks (upSA s)) = .ok (.bl false) (encA A0 ks (upSA s)) := bin_ok (bin_ok rfl rfl (h0 _)) rfl (by rw [eq_st, decide_eq_false hw])
  have c4 := fldS_ok (s := [some (.ref A0.length), some p.d, none]) (a := mv 0) (meth_ok (mo := mv 0) (ma := mCons (mv 1) mNil) (c := "AtOnce") (m := "done") rfl insA (by simp [fsA, List.lookup]) (cons_ok rfl rfl) h) rfl s_hereA
  have c5 : (mBin eqD (mFld cs_here "here" (mv 0)) (mCall lenD (mCons (mFld cs_program "program" (mv 0)) mNil))) [some (.ref A0.length), some p.d, none] (encA A0 ks { s2 with m := { s2.m with here := n } }) = .ok (.bl (decide (n = ks.length))) (encA A0 ks { s2 with m := { s2.m with here := n } }) :=
    bin_ok (fld_ok rfl f_hereA) (call_ok (cons_ok (fld_ok rfl f_progA) rfl) rfl) (by
      rw [eqI]
      congr 2
      by_cases q : n = ks.length
      · simp [q]
      · have q2 : ¬ (n : Int) = (ks.length : Int) := by omega
        simp [q, q2])
  refine e0.trans (fin_nx (s2 := [some (.ref A0.length), some p.d, none]) (seq_nx (asg_ok c1) (seq_nx (fldS_ok c2 rfl s_stepsA) (seq_nx (ifS_f c3 rfl) (seq_nx (try_nx c4) (s2 := [some (.ref A0.length), some p.d, none]) ?_)))))
  by_cases q : n = ks.length
  · rw [decide_eq_true q] at c5
    have : chk ks.length { s2.m with here := n } = { s2.m with here := n, en := some endD } := by
      unfold chk
      rw [if_pos q]
    rw [this]
    exact ifS_t c5 (fldS_ok rfl rfl s_endA)
  · rw [decide_eq_false q] at c5
    have : chk ks.length { s2.m with here := n } = { s2.m with here := n } := by
      unfold chk
      rw [if_neg q]
    rw [this]
    exact ifS_f c5 rfl
theorem step_finA (hp : ks[s.m.here]? = some PR.fin.d) : m_AtOnce_step [.ref A0.length] (encA A0 ks s) = .ok .non (encA A0 ks { s with m := { s.m with steps := s.m.steps + 1, en := some endD } }) := by
  have e0 : m_AtOnce_step [.ref A0.length] (encA A0 ks s) = finS (b_AtOnce_step [some (.ref A0.length), none, none] (encA A0 ks s)) := rfl
  have c1 : (mBin ixD (mFld cs_program "program" (mv 0)) (mFld cs_here "here" (mv 0))) [some (.ref A0.length), none, none] (encA A0 ks s) = .ok PR.fin.d (encA A0 ks s) := bin_ok (fld_ok rfl f_progA) (fld_ok rfl f_hereA) (ix_tup (atI_ok hp))
  have c2 : (mBin addD (mFld cs_steps "steps" (mv 0)) (mc (.int (1)))) [some (.ref A0.length), some PR.fin.d, none] (encA A0 ks s) = .ok (.int ((s.m.steps + 1 : Nat) : Int)) (encA A0 ks s) := bin_ok (fld_ok rfl f_stepsA) rfl rfl
  have c3 : (mBin eqD (mBin ixD (mv 1) (mc (.int (0)))) (mc (.str "end"))) [some (.ref A0.length), some PR.fin.d, none] (encA A0 ks (upSA s)) = .ok (.bl true) (encA A0 ks (upSA s)) := bin_ok (bin_ok rfl rfl (ix_tup at0)) rfl (by rw [eq_st]; rfl)
  exact e0.trans (fin_of (seq_nx (asg_ok c1) (seq_nx (fldS_ok c2 rfl s_stepsA) (seq_rt (ifS_t c3 (seq_nx (fldS_ok rfl rfl s_endA) rfl))))))
theorem step_xA {p : KR} {w : String} (hp : ks[s.m.here]? = some p.d) (h0 : ∀ B, ixD p.d (.int 0) B = .ok (.str w) B) (hw : w ≠ "end") (h : m_AtOnce_done [.ref A0.length, p.d] (encA A0 ks (upSA s)) = .exc ⟨"Stop", some [("word", .str "beyond")]⟩ (encA A0 ks (upSA s))) :
    m_AtOnce_step [.ref A0.length] (encA A0 ks s) = .ok .non (encA A0 ks (faultK s)) := by
  have e0 : m_AtOnce_step [.ref A0.length] (encA A0 ks s) = finS (b_AtOnce_step [some (.ref A0.length), none, none] (encA A0 ks s)) := rfl
  have c1 : (mBin ixD (mFld cs_program "program" (mv 0)) (mFld cs_here "here" (mv 0))) [some (.ref A0.length), none, none] (encA A0 ks s) = .ok p.d (encA A0 ks s) := bin_ok (fld_ok rfl f_progA) (fld_ok rfl f_hereA) (ix_tup (atI_ok hp))
  have c2 : (mBin addD (mFld cs_steps "steps" (mv 0)) (mc (.int (1)))) [some (.ref A0.length), some p.d, none] (encA A0 ks s) = .ok (.int ((s.m.steps + 1 : Nat) : Int)) (encA A0 ks s) := bin_ok (fld_ok rfl f_stepsA) rfl rfl
  have c3 : (mBin eqD (mBin ixD (mv 1) (mc (.int (0)))) (mc (.str "end"))) [some (.ref A0.length), some p.d, none] (encA A0 ks (upSA s)) = .ok (.bl false) (encA A0 ks (upSA s)) := bin_ok (bin_ok rfl rfl (h0 _)) rfl (by rw [eq_st, decide_eq_false hw])
  have c4 : (mFldS cs_here "here" (mv 0) (mMeth "AtOnce" "done" m_AtOnce_done (mv 0) (mCons (mv 1) mNil))) [some (.ref A0.length), some p.d, none] (encA A0 ks (upSA s)) = .exc ⟨"Stop", some [("word", .str "beyond")]⟩ [some (.ref A0.length), some p.d, none] (encA A0 ks (upSA s)) :=
    fldS_x (meth_x rfl insA (by simp [fsA, List.lookup]) (cons_ok rfl rfl) h)
  exact e0.trans (fin_of (seq_nx (asg_ok c1) (seq_nx (fldS_ok c2 rfl s_stepsA) (seq_nx (ifS_f c3 rfl) (seq_rt (try_x c4 (show 2 < 3 by decide) (fld_ok rfl f_hereA) rfl s_endA))))))
end

section
variable {A0 : AH} {ks : List D} {s : KM}
theorem doubZ {b t : Nat} {w : String} {v : Int} (hb : s.m.boxes.length = 6) (h1 : b < 6) (h2 : t < 6) (hw : (w = "add" ∧ v = ringI (bx s.m b + bx s.m t)) ∨ (w = "take" ∧ v = ringI (bx s.m b - bx s.m t)) ∨ (w = "less" ∧ v = if bx s.m b < bx s.m t then 1 else 0) ∨ (w = "same" ∧ v = if bx s.m b = bx s.m t then 1 else 0)) {x y : D} :
    m_Lazy_double [.ref A0.length, .str w, .tup [x, y, .int b, .int t]] (encZ A0 ks s) = .ok (.int v) (encZ A0 ks s) := by
  have e0 : m_Lazy_double [.ref A0.length, .str w, .tup [x, y, .int b, .int t]] (encZ A0 ks s) = finS (b_Lazy_double [some (.ref A0.length), some (.str w), some (.tup [x, y, .int b, .int t]), none, none] (encZ A0 ks s)) := rfl
  have p1 : (mMeth "Lazy" "box" m_Lazy_box (mv 0) (mCons (mBin ixD (mv 2) (mc (.int (2)))) mNil)) [some (.ref A0.length), some (.str w), some (.tup [x, y, .int b, .int t]), none, none] (encZ A0 ks s) = .ok (.int (bx s.m b)) (encZ A0 ks s) :=
    meth_ok rfl insZ (by simp [fsZ, List.lookup]) (cons_ok (bin_ok rfl rfl (ix_tup at2)) rfl) (boxZ (held_n hb h1))
  have p2 : (mMeth "Lazy" "box" m_Lazy_box (mv 0) (mCons (mBin ixD (mv 2) (mc (.int (3)))) mNil)) [some (.ref A0.length), some (.str w), some (.tup [x, y, .int b, .int t]), none, none] (encZ A0 ks s) = .ok (.int (bx s.m t)) (encZ A0 ks s) :=
    meth_ok rfl insZ (by simp [fsZ, List.lookup]) (cons_ok (bin_ok rfl rfl (ix_tup at3)) rfl) (boxZ (held_n hb h2))
  refine e0.trans (fin_of (seq_nx (par2 p1 p2) ?_))
  have kd : (mAndV (mBin ltD (mCall m_kind_of (mCons (mv 3) mNil)) (mc (.int (2)))) (mCall m_is_number (mCons (mv 4) mNil))) [some (.ref A0.length), some (.str w), some (.tup [x, y, .int b, .int t]), some (.int (bx s.m b)), some (.int (bx s.m t))] (encZ A0 ks s) = .ok (.bl true) (encZ A0 ks s) := by
    simp [kind_i, numb_i]
  have kn : (mAndV (mCall m_is_number (mCons (mv 3) mNil)) (mCall m_is_number (mCons (mv 4) mNil))) [some (.ref A0.length), some (.str w), some (.tup [x, y, .int b, .int t]), some (.int (bx s.m b)), some (.int (bx s.m t))] (encZ A0 ks s) = .ok (.bl true) (encZ A0 ks s) := by
    simp [numb_i]
  rcases hw with ⟨rfl, rfl⟩ | ⟨rfl, rfl⟩ | ⟨rfl, rfl⟩ | ⟨rfl, rfl⟩
  · have g : (mIf (mTb (mBin eqD (mv 1) (mc (.str "add")))) (mv 4) (mBin subD (mc (.int (0))) (mv 4))) [some (.ref A0.length), some (.str "add"), some (.tup [x, y, .int b, .int t]), some (.int (bx s.m b)), some (.int (bx s.m t))] (encZ A0 ks s) = .ok (.int (bx s.m t)) (encZ A0 ks s) := by simp
    exact seq_nx (ifS_f (eqw (i := 1) rfl (by decide)) rfl) (seq_nx (ifS_f (eqw (i := 1) rfl (by decide)) rfl) (seq_nx (drop_ok (call_ok (cons_ok kd (cons_ok rfl rfl)) need_t)) (Tg.ret_ok (call_ok (cons_ok rfl (cons_ok g rfl)) moved_n))))
  · have g : (mIf (mTb (mBin eqD (mv 1) (mc (.str "add")))) (mv 4) (mBin subD (mc (.int (0))) (mv 4))) [some (.ref A0.length), some (.str "take"), some (.tup [x, y, .int b, .int t]), some (.int (bx s.m b)), some (.int (bx s.m t))] (encZ A0 ks s) = .ok (.int (0 - bx s.m t)) (encZ A0 ks s) := by simp
    have q := moved_n (A := encZ A0 ks s) (i := bx s.m b) (j := 0 - bx s.m t)
    rw [show bx s.m b + (0 - bx s.m t) = bx s.m b - bx s.m t by omega] at q
    exact seq_nx (ifS_f (eqw (i := 1) rfl (by decide)) rfl) (seq_nx (ifS_f (eqw (i := 1) rfl (by decide)) rfl) (seq_nx (drop_ok (call_ok (cons_ok kd (cons_ok rfl rfl)) need_t)) (Tg.ret_ok (call_ok (cons_ok rfl (cons_ok g rfl)) q))))
  · have q : intD [.bl (decide (bx s.m b < bx s.m t))] (encZ A0 ks s) = .ok (.int (if bx s.m b < bx s.m t then 1 else 0)) (encZ A0 ks s) := by
      rw [int_b]
      by_cases h : bx s.m b < bx s.m t <;> simp [h]
    exact seq_nx (ifS_f (eqw (i := 1) rfl (by decide)) rfl) (seq_rt (ifS_t (eqw (i := 1) rfl (by decide)) (seq_nx (drop_ok (call_ok (cons_ok kn (cons_ok rfl rfl)) need_t)) (Tg.ret_ok (call_ok (cons_ok (bin_ok rfl rfl o_lt) rfl) q)))))
  · have q : intD [.bl (bx s.m b == bx s.m t)] (encZ A0 ks s) = .ok (.int (if bx s.m b = bx s.m t then 1 else 0)) (encZ A0 ks s) := by
      rw [int_b]
      by_cases h : bx s.m b = bx s.m t <;> simp [h]
    exact seq_rt (ifS_t (eqw (i := 1) rfl (by decide)) (Tg.ret_ok (call_ok (cons_ok (bin_ok rfl rfl eqI) rfl) q)))
theorem doub6Z {b : Nat} {x y : D} (hb : s.m.boxes.length = 6) (h1 : b < 6) : m_Lazy_double [.ref A0.length, .str "add", .tup [x, y, .int 7, .int b]] (encZ A0 ks s) = .ok (Q.k (ringI (0 + bx s.m b))).d (encZ A0 ks s) := by
  have e0 : m_Lazy_double [.ref A0.length, .str "add", .tup [x, y, .int 7, .int b]] (encZ A0 ks s) = finS (b_Lazy_double [some (.ref A0.length), some (.str "add"), some (.tup [x, y, .int 7, .int b]), none, none] (encZ A0 ks s)) := rfl
  have p1 : (mMeth "Lazy" "box" m_Lazy_box (mv 0) (mCons (mBin ixD (mv 2) (mc (.int (2)))) mNil)) [some (.ref A0.length), some (.str "add"), some (.tup [x, y, .int 7, .int b]), none, none] (encZ A0 ks s) = .ok (Q.k 0).d (encZ A0 ks s) :=
    meth_ok rfl insZ (by simp [fsZ, List.lookup]) (cons_ok (bin_ok rfl rfl (ix_tup at2)) rfl) (boxZ (r := 7) (held_7 hb))
  have p2 : (mMeth "Lazy" "box" m_Lazy_box (mv 0) (mCons (mBin ixD (mv 2) (mc (.int (3)))) mNil)) [some (.ref A0.length), some (.str "add"), some (.tup [x, y, .int 7, .int b]), none, none] (encZ A0 ks s) = .ok (.int (bx s.m b)) (encZ A0 ks s) :=
    meth_ok rfl insZ (by simp [fsZ, List.lookup]) (cons_ok (bin_ok rfl rfl (ix_tup at3)) rfl) (boxZ (held_n hb h1))
  refine e0.trans (fin_of (seq_nx (par2 p1 p2) ?_))
  have kd : (mAndV (mBin ltD (mCall m_kind_of (mCons (mv 3) mNil)) (mc (.int (2)))) (mCall m_is_number (mCons (mv 4) mNil))) [some (.ref A0.length), some (.str "add"), some (.tup [x, y, .int 7, .int b]), some (Q.k 0).d, some (.int (bx s.m b))] (encZ A0 ks s) = .ok (.bl true) (encZ A0 ks s) := by
    simp [kind_k, numb_i]
  have g : (mIf (mTb (mBin eqD (mv 1) (mc (.str "add")))) (mv 4) (mBin subD (mc (.int (0))) (mv 4))) [some (.ref A0.length), some (.str "add"), some (.tup [x, y, .int 7, .int b]), some (Q.k 0).d, some (.int (bx s.m b))] (encZ A0 ks s) = .ok (.int (bx s.m b)) (encZ A0 ks s) := by simp
  exact seq_nx (ifS_f (eqw (i := 1) rfl (by decide)) rfl) (seq_nx (ifS_f (eqw (i := 1) rfl (by decide)) rfl) (seq_nx (drop_ok (call_ok (cons_ok kd (cons_ok rfl rfl)) need_t)) (Tg.ret_ok (call_ok (cons_ok rfl (cons_ok g rfl)) moved_k))))
def wSlZ (A0 : AH) (w : String) (d : D) : Sl := [some (.ref A0.length), some (.str w), some d, none]
theorem worth_dZ {w : String} {d v : D} (hw : w = "add" ∨ w = "take" ∨ w = "less" ∨ w = "same") (h : m_Lazy_double [.ref A0.length, .str w, d] (encZ A0 ks s) = .ok v (encZ A0 ks s)) : m_Lazy_worth [.ref A0.length, .str w, d] (encZ A0 ks s) = .ok v (encZ A0 ks s) := by
  have e0 : m_Lazy_worth [.ref A0.length, .str w, d] (encZ A0 ks s) = finS (b_Lazy_worth [some (.ref A0.length), some (.str w), some d, none] (encZ A0 ks s)) := rfl
  have o6 : (mOr (mTb (mBin eqD (mv 1) (mc (.str "move")))) (mTb (mBin eqD (mv 1) (mc (.str "is"))))) [some (.ref A0.length), some (.str w), some d, none] (encZ A0 ks s) = .ok false (encZ A0 ks s) := by
    rcases hw with rfl | rfl | rfl | rfl <;> simp
  have i6 : ∀ a : MS, (mIfS (mOr (mTb (mBin eqD (mv 1) (mc (.str "move")))) (mTb (mBin eqD (mv 1) (mc (.str "is"))))) a mNx) [some (.ref A0.length), some (.str w), some d, none] (encZ A0 ks s) = .nx [some (.ref A0.length), some (.str w), some d, none] (encZ A0 ks s) := fun a => by
    rw [e_ifS, o6]
    rfl
  have m : (mMeth "Lazy" "double" m_Lazy_double (mv 0) (mCons (mv 1) (mCons (mv 2) mNil))) [some (.ref A0.length), some (.str w), some d, none] (encZ A0 ks s) = .ok v (encZ A0 ks s) := meth_ok rfl insZ (by simp [fsZ, List.lookup]) (cons_ok rfl (cons_ok rfl rfl)) h
  rcases hw with rfl | rfl | rfl | rfl
  · exact e0.trans (fin_of (seq_nx (ifS_f (eqw (i := 1) rfl (by decide)) rfl) (seq_nx (ifS_f (eqw (i := 1) rfl (by decide)) rfl) (seq_nx (ifS_f (eqw (i := 1) rfl (by decide)) rfl) (seq_nx (ifS_f (eqw (i := 1) rfl (by decide)) rfl) (seq_nx (ifS_f (eqw (i := 1) rfl (by decide)) rfl) (seq_nx (ifS_f (eqw (i := 1) rfl (by decide)) rfl) (seq_nx (i6 _) (Tg.ret_ok m)))))))))
  · exact e0.trans (fin_of (seq_nx (ifS_f (eqw (i := 1) rfl (by decide)) rfl) (seq_nx (ifS_f (eqw (i := 1) rfl (by decide)) rfl) (seq_nx (ifS_f (eqw (i := 1) rfl (by decide)) rfl) (seq_nx (ifS_f (eqw (i := 1) rfl (by decide)) rfl) (seq_nx (ifS_f (eqw (i := 1) rfl (by decide)) rfl) (seq_nx (ifS_f (eqw (i := 1) rfl (by decide)) rfl) (seq_nx (i6 _) (Tg.ret_ok m)))))))))
  · exact e0.trans (fin_of (seq_nx (ifS_f (eqw (i := 1) rfl (by decide)) rfl) (seq_nx (ifS_f (eqw (i := 1) rfl (by decide)) rfl) (seq_nx (ifS_f (eqw (i := 1) rfl (by decide)) rfl) (seq_nx (ifS_f (eqw (i := 1) rfl (by decide)) rfl) (seq_nx (ifS_f (eqw (i := 1) rfl (by decide)) rfl) (seq_nx (ifS_f (eqw (i := 1) rfl (by decide)) rfl) (seq_nx (i6 _) (Tg.ret_ok m)))))))))
  · exact e0.trans (fin_of (seq_nx (ifS_f (eqw (i := 1) rfl (by decide)) rfl) (seq_nx (ifS_f (eqw (i := 1) rfl (by decide)) rfl) (seq_nx (ifS_f (eqw (i := 1) rfl (by decide)) rfl) (seq_nx (ifS_f (eqw (i := 1) rfl (by decide)) rfl) (seq_nx (ifS_f (eqw (i := 1) rfl (by decide)) rfl) (seq_nx (ifS_f (eqw (i := 1) rfl (by decide)) rfl) (seq_nx (i6 _) (Tg.ret_ok m)))))))))
theorem worth_putZ {d v : D} (h : ∀ B, ixD d (.int 2) B = .ok v B) : m_Lazy_worth [.ref A0.length, .str "put", d] (encZ A0 ks s) = .ok v (encZ A0 ks s) := by
  have e0 : m_Lazy_worth [.ref A0.length, .str "put", d] (encZ A0 ks s) = finS (b_Lazy_worth [some (.ref A0.length), some (.str "put"), some d, none] (encZ A0 ks s)) := rfl
  exact e0.trans (fin_of (seq_rt (ifS_t (eqw (i := 1) rfl (by decide)) (Tg.ret_ok (bin_ok rfl rfl (h _))))))
theorem worth_moveZ {r b : Nat} (hb : s.m.boxes.length = 6) (h : b < 6) : m_Lazy_worth [.ref A0.length, .str "move", (PR.move r b).d] (encZ A0 ks s) = .ok (.int (bx s.m b)) (encZ A0 ks s) := by
  have e0 : m_Lazy_worth [.ref A0.length, .str "move", (PR.move r b).d] (encZ A0 ks s) = finS (b_Lazy_worth [some (.ref A0.length), some (.str "move"), some (PR.move r b).d, none] (encZ A0 ks s)) := rfl
  have bo : (mMeth "Lazy" "box" m_Lazy_box (mv 0) (mCons (mBin ixD (mv 2) (mc (.int (2)))) mNil)) [some (.ref A0.length), some (.str "move"), some (PR.move r b).d, none] (encZ A0 ks s) = .ok (.int (bx s.m b)) (encZ A0 ks s) :=
    meth_ok rfl insZ (by simp [fsZ, List.lookup]) (cons_ok (bin_ok rfl rfl (ix_tup at2)) rfl) (boxZ (held_n hb h))
  have o6 : (mOr (mTb (mBin eqD (mv 1) (mc (.str "move")))) (mTb (mBin eqD (mv 1) (mc (.str "is"))))) [some (.ref A0.length), some (.str "move"), some (PR.move r b).d, none] (encZ A0 ks s) = .ok true (encZ A0 ks s) := by
    rw [e_or, e_tb, eqw (i := 1) (b := true) rfl (by decide), kT_0, kOr_0]
  have t6 : mTb (mBin eqD (mv 1) (mc (.str "move"))) [some (.ref A0.length), some (.str "move"), some (PR.move r b).d, none] (encZ A0 ks s) = .ok true (encZ A0 ks s) := by
    rw [e_tb, eqw (i := 1) (b := true) rfl (by decide), kT_0]
  refine e0.trans (fin_of (seq_nx (ifS_f (eqw (i := 1) rfl (by decide)) rfl) (seq_nx (ifS_f (eqw (i := 1) rfl (by decide)) rfl) (seq_nx (ifS_f (eqw (i := 1) rfl (by decide)) rfl) (seq_nx (ifS_f (eqw (i := 1) rfl (by decide)) rfl) (seq_nx (ifS_f (eqw (i := 1) rfl (by decide)) rfl) (seq_nx (ifS_f (eqw (i := 1) rfl (by decide)) rfl) (seq_rt ?_))))))))
  rw [e_ifS]
  refine (congrArg (kIf _ _ _) o6).trans ?_
  rw [kIf_0]
  refine Tg.ret_ok ?_
  rw [e_if]
  refine (congrArg (kI _ _ _) t6).trans ?_
  rw [kI_0]
  exact bo
theorem worth_getZ {d v : D} (h : m_Lazy_taken_out [.ref A0.length, d] (encZ A0 ks s) = .ok v (encZ A0 ks s)) : m_Lazy_worth [.ref A0.length, .str "get", d] (encZ A0 ks s) = .ok v (encZ A0 ks s) := by
  have e0 : m_Lazy_worth [.ref A0.length, .str "get", d] (encZ A0 ks s) = finS (b_Lazy_worth [some (.ref A0.length), some (.str "get"), some d, none] (encZ A0 ks s)) := rfl
  exact e0.trans (fin_of (seq_nx (ifS_f (eqw (i := 1) rfl (by decide)) rfl) (seq_nx (ifS_f (eqw (i := 1) rfl (by decide)) rfl) (seq_rt (ifS_t (eqw (i := 1) rfl (by decide)) (Tg.ret_ok (meth_ok rfl insZ (by simp [fsZ, List.lookup]) (cons_ok rfl rfl) h)))))))
theorem worth_xZ {d : D} {x : XV} (h : m_Lazy_taken_out [.ref A0.length, d] (encZ A0 ks s) = .exc x (encZ A0 ks s)) : m_Lazy_worth [.ref A0.length, .str "get", d] (encZ A0 ks s) = .exc x (encZ A0 ks s) := by
  have e0 : m_Lazy_worth [.ref A0.length, .str "get", d] (encZ A0 ks s) = finS (b_Lazy_worth [some (.ref A0.length), some (.str "get"), some d, none] (encZ A0 ks s)) := rfl
  exact e0.trans (fin_x (seq_nx (ifS_f (eqw (i := 1) rfl (by decide)) rfl) (seq_nx (ifS_f (eqw (i := 1) rfl (by decide)) rfl) (seq_x (ifS_t (eqw (i := 1) rfl (by decide)) (Tg.ret_x (meth_x rfl insZ (by simp [fsZ, List.lookup]) (cons_ok rfl rfl) h)))))))
/-! done -/
theorem done_goZ {g : Nat} : m_Lazy_done [.ref A0.length, (PR.go g).d] (encZ A0 ks s) = .ok (.int g) (encZ A0 ks s) := by
  have e0 : m_Lazy_done [.ref A0.length, (PR.go g).d] (encZ A0 ks s) = finS (b_Lazy_done [some (.ref A0.length), some (PR.go g).d, none] (encZ A0 ks s)) := rfl
  exact e0.trans (fin_of (seq_nx (asg_ok (bin_ok rfl rfl (ix_tup at0))) (seq_rt (ifS_t (eqw (i := 2) rfl (by decide)) (Tg.ret_ok (bin_ok rfl rfl (ix_tup at1)))))))
theorem done_ifZ {r g : Nat} (hb : s.m.boxes.length = 6) (h : r < 6) : m_Lazy_done [.ref A0.length, (PR.iff r g).d] (encZ A0 ks s) = .ok (.int ((if bx s.m r ≠ 0 then g else s.m.here + 1 : Nat) : Int)) (encZ A0 ks s) := by
  have e0 : m_Lazy_done [.ref A0.length, (PR.iff r g).d] (encZ A0 ks s) = finS (b_Lazy_done [some (.ref A0.length), some (PR.iff r g).d, none] (encZ A0 ks s)) := rfl
  have bo : (mMeth "Lazy" "box" m_Lazy_box (mv 0) (mCons (mBin ixD (mv 1) (mc (.int (1)))) mNil)) [some (.ref A0.length), some (PR.iff r g).d, some (.str "if")] (encZ A0 ks s) = .ok (.int (bx s.m r)) (encZ A0 ks s) :=
    meth_ok rfl insZ (by simp [fsZ, List.lookup]) (cons_ok (bin_ok rfl rfl (ix_tup at1)) rfl) (boxZ (held_n hb h))
  have ts : mTb (mBin neD (mMeth "Lazy" "box" m_Lazy_box (mv 0) (mCons (mBin ixD (mv 1) (mc (.int (1)))) mNil)) (mc (.int (0)))) [some (.ref A0.length), some (PR.iff r g).d, some (.str "if")] (encZ A0 ks s) = .ok (!(bx s.m r == 0)) (encZ A0 ks s) := by
    rw [e_tb, bin_ok bo rfl o_neI, kT_0]
  have vl : (mIf (mTb (mBin neD (mMeth "Lazy" "box" m_Lazy_box (mv 0) (mCons (mBin ixD (mv 1) (mc (.int (1)))) mNil)) (mc (.int (0))))) (mBin ixD (mv 1) (mc (.int (2)))) (mBin addD (mFld cs_here "here" (mv 0)) (mc (.int (1))))) [some (.ref A0.length), some (PR.iff r g).d, some (.str "if")] (encZ A0 ks s) = .ok (.int ((if bx s.m r ≠ 0 then g else s.m.here + 1 : Nat) : Int)) (encZ A0 ks s) := by
    rw [e_if]
    refine (congrArg (kI _ _ _) ts).trans ?_
    by_cases hz : bx s.m r = 0
    · rw [hz]
      show kI _ _ _ (.ok false _) = _
      rw [kI_1, if_neg (fun q => q rfl)]
      exact bin_ok (fld_ok rfl f_hereZ) rfl rfl
    · rw [show (bx s.m r == 0) = false from by simpa using hz, if_pos hz]
      show kI _ _ _ (.ok true _) = _
      rw [kI_0]
      exact bin_ok rfl rfl (ix_tup at2)
  exact e0.trans (fin_of (seq_nx (asg_ok (bin_ok rfl rfl (ix_tup at0))) (seq_nx (ifS_f (eqw (i := 2) rfl (by decide)) rfl) (seq_rt (ifS_t (eqw (i := 2) rfl (by decide)) (Tg.ret_ok vl))))))
theorem done_sayZ {r : Nat} (hb : s.m.boxes.length = 6) (h : r < 6) (hs : s.m.said.length < 16777216) : m_Lazy_done [.ref A0.length, (PR.say r).d] (encZ A0 ks s) = .ok (.int ((s.m.here + 1 : Nat) : Int)) (encZ A0 ks { s with m := { s.m with said := s.m.said ++ [bx s.m r] } }) := by
  have e0 : m_Lazy_done [.ref A0.length, (PR.say r).d] (encZ A0 ks s) = finS (b_Lazy_done [some (.ref A0.length), some (PR.say r).d, none] (encZ A0 ks s)) := rfl
  have ty : tyMD (encZ A0 ks s) "list" (.ref (A0.length + 3)) = true := by
    rw [ty_list, seq_ref, tkZ]
    rfl
  exact e0.trans (fin_of (seq_nx (asg_ok (bin_ok rfl rfl (ix_tup at0))) (seq_nx (ifS_f (eqw (i := 2) rfl (by decide)) rfl) (seq_nx (ifS_f (eqw (i := 2) rfl (by decide)) rfl) (seq_nx (ifS_f (eqw (i := 2) rfl (by decide)) rfl)
    (seq_nx (ifS_t (eqw (i := 2) rfl (by decide)) (drop_ok (mt_ok (fld_ok rfl f_talkZ) ty (cons_ok (meth_ok rfl insZ (by simp [fsZ, List.lookup]) (cons_ok (bin_ok rfl rfl (ix_tup at1)) rfl) (numberZ (held_n hb h))) rfl) (w_talkZ hs)))) (Tg.ret_ok (bin_ok (fld_ok rfl f_hereZ) rfl rfl))))))))
theorem done_setZ {t : Nat} {s2 : KM} (h : m_Lazy_put_in [.ref A0.length, (KR.kset t).d] (encZ A0 ks s) = .ok .non (encZ A0 ks s2)) : m_Lazy_done [.ref A0.length, (KR.kset t).d] (encZ A0 ks s) = .ok (.int ((s2.m.here + 1 : Nat) : Int)) (encZ A0 ks s2) := by
  have e0 : m_Lazy_done [.ref A0.length, (KR.kset t).d] (encZ A0 ks s) = finS (b_Lazy_done [some (.ref A0.length), some (KR.kset t).d, none] (encZ A0 ks s)) := rfl
  exact e0.trans (fin_of (seq_nx (asg_ok (bin_ok rfl rfl (ix_tup at0))) (seq_nx (ifS_f (eqw (i := 2) rfl (by decide)) rfl) (seq_nx (ifS_f (eqw (i := 2) rfl (by decide)) rfl) (seq_nx (ifS_f (eqw (i := 2) rfl (by decide)) rfl)
    (seq_nx (ifS_f (eqw (i := 2) rfl (by decide)) (ifS_t (eqw (i := 2) rfl (by decide)) (drop_ok (meth_ok rfl insZ (by simp [fsZ, List.lookup]) (cons_ok rfl rfl) h)))) (Tg.ret_ok (bin_ok (fld_ok rfl f_hereZ) rfl rfl))))))))
theorem done_setxZ {t : Nat} {x : XV} (h : m_Lazy_put_in [.ref A0.length, (KR.kset t).d] (encZ A0 ks s) = .exc x (encZ A0 ks s)) : m_Lazy_done [.ref A0.length, (KR.kset t).d] (encZ A0 ks s) = .exc x (encZ A0 ks s) := by
  have e0 : m_Lazy_done [.ref A0.length, (KR.kset t).d] (encZ A0 ks s) = finS (b_Lazy_done [some (.ref A0.length), some (KR.kset t).d, none] (encZ A0 ks s)) := rfl
  exact e0.trans (fin_x (seq_nx (asg_ok (bin_ok rfl rfl (ix_tup at0))) (seq_nx (ifS_f (eqw (i := 2) rfl (by decide)) rfl) (seq_nx (ifS_f (eqw (i := 2) rfl (by decide)) rfl) (seq_nx (ifS_f (eqw (i := 2) rfl (by decide)) rfl)
    (seq_x (ifS_f (eqw (i := 2) rfl (by decide)) (ifS_t (eqw (i := 2) rfl (by decide)) (drop_x (meth_x rfl insZ (by simp [fsZ, List.lookup]) (cons_ok rfl rfl) h))))))))))
/-- a row that puts its worth into a box -/
theorem done_putZ {w : String} {d r v : D} {s2 : KM} (hw : w = "put" ∨ w = "move" ∨ w = "add" ∨ w = "take" ∨ w = "less" ∨ w = "same" ∨ w = "get") (h0 : ∀ B, ixD d (.int 0) B = .ok (.str w) B) (h1 : ∀ B, ixD d (.int 1) B = .ok r B) (h : m_Lazy_worth [.ref A0.length, .str w, d] (encZ A0 ks s) = .ok v (encZ A0 ks s))
    (hst : stSub (.ref (A0.length + 2)) r v (encZ A0 ks s) = some (encZ A0 ks s2)) : m_Lazy_done [.ref A0.length, d] (encZ A0 ks s) = .ok (.int ((s2.m.here + 1 : Nat) : Int)) (encZ A0 ks s2) := by
  have e0 : m_Lazy_done [.ref A0.length, d] (encZ A0 ks s) = finS (b_Lazy_done [some (.ref A0.length), some d, none] (encZ A0 ks s)) := rfl
  have ne : ∀ y : String, y = "go" ∨ y = "if" ∨ y = "enter" ∨ y = "say" ∨ y = "set" ∨ y = "shut" → decide (w = y) = false := fun y hy => by
    rcases hw with rfl | rfl | rfl | rfl | rfl | rfl | rfl <;> rcases hy with rfl | rfl | rfl | rfl | rfl | rfl <;> decide
  exact e0.trans (fin_of (seq_nx (asg_ok (bin_ok rfl rfl (h0 _))) (seq_nx (ifS_f (eqw (i := 2) rfl (ne _ (by simp))) rfl) (seq_nx (ifS_f (eqw (i := 2) rfl (ne _ (by simp))) rfl) (seq_nx (ifS_f (eqw (i := 2) rfl (ne _ (by simp))) rfl)
    (seq_nx (ifS_f (eqw (i := 2) rfl (ne _ (by simp))) (ifS_f (eqw (i := 2) rfl (ne _ (by simp))) (ifS_f (eqw (i := 2) rfl (ne _ (by simp))) (sub_ok (meth_ok rfl insZ (by simp [fsZ, List.lookup]) (cons_ok rfl (cons_ok rfl rfl)) h) (fld_ok rfl f_heldZ) (bin_ok rfl rfl (h1 _)) hst)))) (Tg.ret_ok (bin_ok (fld_ok rfl f_hereZ) rfl rfl))))))))
theorem done_getxZ {d : D} {x : XV} (h0 : ∀ B, ixD d (.int 0) B = .ok (.str "get") B) (h : m_Lazy_worth [.ref A0.length, .str "get", d] (encZ A0 ks s) = .exc x (encZ A0 ks s)) : m_Lazy_done [.ref A0.length, d] (encZ A0 ks s) = .exc x (encZ A0 ks s) := by
  have e0 : m_Lazy_done [.ref A0.length, d] (encZ A0 ks s) = finS (b_Lazy_done [some (.ref A0.length), some d, none] (encZ A0 ks s)) := rfl
  exact e0.trans (fin_x (seq_nx (asg_ok (bin_ok rfl rfl (h0 _))) (seq_nx (ifS_f (eqw (i := 2) rfl (by decide)) rfl) (seq_nx (ifS_f (eqw (i := 2) rfl (by decide)) rfl) (seq_nx (ifS_f (eqw (i := 2) rfl (by decide)) rfl)
    (seq_x (ifS_f (eqw (i := 2) rfl (by decide)) (ifS_f (eqw (i := 2) rfl (by decide)) (ifS_f (eqw (i := 2) rfl (by decide)) (sub_x (meth_x rfl insZ (by simp [fsZ, List.lookup]) (cons_ok rfl (cons_ok rfl rfl)) h)))))))))))
/-! step -/
def upSZ (s : KM) : KM := { s with m := { s.m with steps := s.m.steps + 1 } }
theorem step_ofZ {p : KR} {w : String} {n : Nat} {s2 : KM} (hp : ks[s.m.here]? = some p.d) (h0 : ∀ B, ixD p.d (.int 0) B = .ok (.str w) B) (hw : w ≠ "end") (he : s2.m.en = none) (h : m_Lazy_done [.ref A0.length, p.d] (encZ A0 ks (upSZ s)) = .ok (.int n) (encZ A0 ks s2)) :
    m_Lazy_step [.ref A0.length] (encZ A0 ks s) = .ok .non (encZ A0 ks { s2 with m := chk ks.length { s2.m with here := n } }) := by
  have e0 : m_Lazy_step [.ref A0.length] (encZ A0 ks s) = finS (b_Lazy_step [some (.ref A0.length), none, none] (encZ A0 ks s)) := rfl
  have c1 : (mBin ixD (mFld cs_program "program" (mv 0)) (mFld cs_here "here" (mv 0))) [some (.ref A0.length), none, none] (encZ A0 ks s) = .ok p.d (encZ A0 ks s) := bin_ok (fld_ok rfl f_progZ) (fld_ok rfl f_hereZ) (ix_tup (atI_ok hp))
  have c2 : (mBin addD (mFld cs_steps "steps" (mv 0)) (mc (.int (1)))) [some (.ref A0.length), some p.d, none] (encZ A0 ks s) = .ok (.int ((s.m.steps + 1 : Nat) : Int)) (encZ A0 ks s) := bin_ok (fld_ok rfl f_stepsZ) rfl rfl
  have c3 : (mBin eqD (mBin ixD (mv 1) (mc (.int (0)))) (mc (.str "end"))) [some (.ref A0.length), some p.d, none] (encZ A0 ks (upSZ s)) = .ok (.bl false) (encZ A0 ks (upSZ s)) := bin_ok (bin_ok rfl rfl (h0 _)) rfl (by rw [eq_st, decide_eq_false hw])
  have c4 := fldS_ok (s := [some (.ref A0.length), some p.d, none]) (a := mv 0) (meth_ok (mo := mv 0) (ma := mCons (mv 1) mNil) (c := "Lazy") (m := "done") rfl insZ (by simp [fsZ, List.lookup]) (cons_ok rfl rfl) h) rfl s_hereZ
  have c5 : (mBin eqD (mFld cs_here "here" (mv 0)) (mCall lenD (mCons (mFld cs_program "program" (mv 0)) mNil))) [some (.ref A0.length), some p.d, none] (encZ A0 ks { s2 with m := { s2.m with here := n } }) = .ok (.bl (decide (n = ks.length))) (encZ A0 ks { s2 with m := { s2.m with here := n } }) :=
    bin_ok (fld_ok rfl f_hereZ) (call_ok (cons_ok (fld_ok rfl f_progZ) rfl) rfl) (by
      rw [eqI]
      congr 2
      by_cases q : n = ks.length
      · simp [q]
      · have q2 : ¬ (n : Int) = (ks.length : Int) := by omega
        simp [q, q2])
  refine e0.trans (fin_nx (s2 := [some (.ref A0.length), some p.d, none]) (seq_nx (asg_ok c1) (seq_nx (fldS_ok c2 rfl s_stepsZ) (seq_nx (ifS_f c3 rfl) (seq_nx (try_nx c4) (s2 := [some (.ref A0.length), some p.d, none]) ?_)))))
  by_cases q : n = ks.length
  · rw [decide_eq_true q] at c5
    have : chk ks.length { s2.m with here := n } = { s2.m with here := n, en := some endD } := by
      unfold chk
      rw [if_pos q]
    rw [this]
    exact ifS_t c5 (fldS_ok rfl rfl s_endZ)
  · rw [decide_eq_false q] at c5
    have : chk ks.length { s2.m with here := n } = { s2.m with here := n } := by
      unfold chk
      rw [if_neg q]
    rw [this]
    exact ifS_f c5 rfl
theorem step_finZ (hp : ks[s.m.here]? = some PR.fin.d) : m_Lazy_step [.ref A0.length] (encZ A0 ks s) = .ok .non (encZ A0 ks { s with m := { s.m with steps := s.m.steps + 1, en := some endD } }) := by
  have e0 : m_Lazy_step [.ref A0.length] (encZ A0 ks s) = finS (b_Lazy_step [some (.ref A0.length), none, none] (encZ A0 ks s)) := rfl
  have c1 : (mBin ixD (mFld cs_program "program" (mv 0)) (mFld cs_here "here" (mv 0))) [some (.ref A0.length), none, none] (encZ A0 ks s) = .ok PR.fin.d (encZ A0 ks s) := bin_ok (fld_ok rfl f_progZ) (fld_ok rfl f_hereZ) (ix_tup (atI_ok hp))
  have c2 : (mBin addD (mFld cs_steps "steps" (mv 0)) (mc (.int (1)))) [some (.ref A0.length), some PR.fin.d, none] (encZ A0 ks s) = .ok (.int ((s.m.steps + 1 : Nat) : Int)) (encZ A0 ks s) := bin_ok (fld_ok rfl f_stepsZ) rfl rfl
  have c3 : (mBin eqD (mBin ixD (mv 1) (mc (.int (0)))) (mc (.str "end"))) [some (.ref A0.length), some PR.fin.d, none] (encZ A0 ks (upSZ s)) = .ok (.bl true) (encZ A0 ks (upSZ s)) := bin_ok (bin_ok rfl rfl (ix_tup at0)) rfl (by rw [eq_st]; rfl)
  exact e0.trans (fin_of (seq_nx (asg_ok c1) (seq_nx (fldS_ok c2 rfl s_stepsZ) (seq_rt (ifS_t c3 (seq_nx (fldS_ok rfl rfl s_endZ) rfl))))))
theorem step_xZ {p : KR} {w : String} (hp : ks[s.m.here]? = some p.d) (h0 : ∀ B, ixD p.d (.int 0) B = .ok (.str w) B) (hw : w ≠ "end") (h : m_Lazy_done [.ref A0.length, p.d] (encZ A0 ks (upSZ s)) = .exc ⟨"Stop", some [("word", .str "beyond")]⟩ (encZ A0 ks (upSZ s))) :
    m_Lazy_step [.ref A0.length] (encZ A0 ks s) = .ok .non (encZ A0 ks (faultK s)) := by
  have e0 : m_Lazy_step [.ref A0.length] (encZ A0 ks s) = finS (b_Lazy_step [some (.ref A0.length), none, none] (encZ A0 ks s)) := rfl
  have c1 : (mBin ixD (mFld cs_program "program" (mv 0)) (mFld cs_here "here" (mv 0))) [some (.ref A0.length), none, none] (encZ A0 ks s) = .ok p.d (encZ A0 ks s) := bin_ok (fld_ok rfl f_progZ) (fld_ok rfl f_hereZ) (ix_tup (atI_ok hp))
  have c2 : (mBin addD (mFld cs_steps "steps" (mv 0)) (mc (.int (1)))) [some (.ref A0.length), some p.d, none] (encZ A0 ks s) = .ok (.int ((s.m.steps + 1 : Nat) : Int)) (encZ A0 ks s) := bin_ok (fld_ok rfl f_stepsZ) rfl rfl
  have c3 : (mBin eqD (mBin ixD (mv 1) (mc (.int (0)))) (mc (.str "end"))) [some (.ref A0.length), some p.d, none] (encZ A0 ks (upSZ s)) = .ok (.bl false) (encZ A0 ks (upSZ s)) := bin_ok (bin_ok rfl rfl (h0 _)) rfl (by rw [eq_st, decide_eq_false hw])
  have c4 : (mFldS cs_here "here" (mv 0) (mMeth "Lazy" "done" m_Lazy_done (mv 0) (mCons (mv 1) mNil))) [some (.ref A0.length), some p.d, none] (encZ A0 ks (upSZ s)) = .exc ⟨"Stop", some [("word", .str "beyond")]⟩ [some (.ref A0.length), some p.d, none] (encZ A0 ks (upSZ s)) :=
    fldS_x (meth_x rfl insZ (by simp [fsZ, List.lookup]) (cons_ok rfl rfl) h)
  exact e0.trans (fin_of (seq_nx (asg_ok c1) (seq_nx (fldS_ok c2 rfl s_stepsZ) (seq_nx (ifS_f c3 rfl) (seq_rt (try_x c4 (show 2 < 3 by decide) (fld_ok rfl f_hereZ) rfl s_endZ))))))
end
end K16

set_option Elab.async false
set_option linter.all false
set_option maxRecDepth 100000
set_option maxHeartbeats 4000000
/-! K16S: steps, as stepK tells. -/
namespace K16
open PySem Tg L2
/-- what must hold ahead of a row by one key -/
structure KOk (rows : Nat) (z : KM) : Prop where
  c : z.m.cells.length = 64
  b : z.m.boxes.length = 6
  h : z.m.en = none → z.m.here < rows
  s : z.m.said.length ≤ z.m.steps
  e : ∀ d, z.m.en = some d → Tg.isNon d = false
def KR.fit (p : KR) (s : KM) : Prop := match p with
  | .kget _ => ∃ a, s.x = .k a
  | .kset _ => ∃ a, s.x = .k a
  | _ => True
theorem KOk.of {rows : Nat} {s : KM} (h : KOk rows s) : s.m.Ok rows := ⟨h.c, h.b, h.h, h.s, h.e⟩
theorem Ok.k {rows : Nat} {s : KM} (h : s.m.Ok rows) : KOk rows s := ⟨h.c, h.b, h.h, h.s, h.e⟩

section
variable {A0 : AH} {ks : List D} {s : KM}
theorem step_okA {p : KR} (ok : KOk ks.length s) (he : s.m.en = none) (hp : ks[s.m.here]? = some p.d) (hr : p.ok ks.length) (hf : p.fit s) (hS : s.m.steps < 10000) :
    m_AtOnce_step [.ref A0.length] (encA A0 ks s) = .ok .non (encA A0 ks (stepK ks.length p s)) := by
  have hb := ok.b
  have hc := ok.c
  have hb' : (upSA s).m.boxes.length = 6 := hb
  have hsd : (upSA s).m.said.length < 16777216 := by
    have := ok.s
    show s.m.said.length < 16777216
    omega
  cases p with
  | ad b => exact step_ofA (p := .ad b) (w := "add") (s2 := { upSA s with x := .k (ringI (0 + bx s.m b)) }) hp (fun _ => ix_tup at0) (by decide) he (done_putA (w := "add") (r := .int 6) (v := (Q.k (ringI (0 + bx s.m b))).d) (s2 := { upSA s with x := .k (ringI (0 + bx s.m b)) }) (by simp) (fun _ => ix_tup at0) (fun _ => ix_tup at1) (worth_dA (by simp) (doub6A hb' hr)) (w_held6A hb'))
  | kget r =>
    obtain ⟨a, hx⟩ := hf
    by_cases hin : 0 ≤ a ∧ a < 64
    · have e : stepK ks.length (.kget r) s = { s with m := chk ks.length { s.m with steps := s.m.steps + 1, here := s.m.here + 1, boxes := s.m.boxes.set r (s.m.cells.getD a.toNat 0) } } := by
        simp only [stepK, hx, if_pos hin]
      rw [e]
      exact step_ofA (p := .kget r) (w := "get") (s2 := { upSA s with m := { (upSA s).m with boxes := s.m.boxes.set r (s.m.cells.getD a.toNat 0) } }) hp (fun _ => ix_tup at0) (by decide) he (done_putA (w := "get") (r := .int r) (v := .int (s.m.cells.getD a.toNat 0)) (s2 := { upSA s with m := { (upSA s).m with boxes := s.m.boxes.set r (s.m.cells.getD a.toNat 0) } }) (by simp) (fun _ => ix_tup at0) (fun _ => ix_tup at1) (worth_getA (taken_inA hb' hc hx hin.1 hin.2)) (w_heldA hb' hr))
    · have e : stepK ks.length (.kget r) s = faultK s := by
        simp only [stepK, hx, if_neg hin]
      rw [e]
      exact step_xA (p := .kget r) (w := "get") hp (fun _ => ix_tup at0) (by decide) (done_getxA (fun _ => ix_tup at0) (worth_xA (taken_outA hb' hx hin)))
  | kset t =>
    obtain ⟨a, hx⟩ := hf
    by_cases hin : 0 ≤ a ∧ a < 64
    · have e : stepK ks.length (.kset t) s = { s with m := chk ks.length { s.m with steps := s.m.steps + 1, here := s.m.here + 1, cells := s.m.cells.set a.toNat (bx s.m t) } } := by
        simp only [stepK, hx, if_pos hin]
      rw [e]
      exact step_ofA (p := .kset t) (w := "set") (s2 := { upSA s with m := { (upSA s).m with cells := s.m.cells.set a.toNat (bx s.m t) } }) hp (fun _ => ix_tup at0) (by decide) he (done_setA (put_inA hr hb' hc hx hin.1 hin.2))
    · have e : stepK ks.length (.kset t) s = faultK s := by
        simp only [stepK, hx, if_neg hin]
      rw [e]
      exact step_xA (p := .kset t) (w := "set") hp (fun _ => ix_tup at0) (by decide) (done_setxA (put_outA hr hb' hx hin))
  | pl p =>
    obtain ⟨hr, hbare⟩ := hr
    cases p with
    | get r b => exact hbare.elim
    | set r t => exact hbare.elim
    | fin => exact step_finA hp
    | go g => exact step_ofA (p := .pl (.go g)) (w := "go") (s2 := upSA s) hp (fun _ => ix_tup at0) (by decide) he done_goA
    | iff r g =>
      have := step_ofA (A0 := A0) (p := .pl (.iff r g)) (w := "if") (s2 := upSA s) hp (fun _ => ix_tup at0) (by decide) he (done_ifA (r := r) (g := g) hb' hr.1)
      refine this.trans ?_
      congr 2
      unfold stepK stepM upSA
      dsimp only
      by_cases hz : bx s.m r = 0
      · have hz' : bx { s.m with steps := s.m.steps + 1 } r = 0 := hz
        rw [if_neg (fun q => q hz'), if_neg (fun q => q hz)]
      · have hz' : bx { s.m with steps := s.m.steps + 1 } r ≠ 0 := hz
        rw [if_pos hz', if_pos hz]
    | say r => exact step_ofA (p := .pl (.say r)) (w := "say") (s2 := { upSA s with m := { (upSA s).m with said := s.m.said ++ [bx s.m r] } }) hp (fun _ => ix_tup at0) (by decide) he (done_sayA (r := r) hb' hr hsd)
    | put r n => exact step_ofA (p := .pl (.put r n)) (w := "put") (s2 := { upSA s with m := { (upSA s).m with boxes := s.m.boxes.set r n } }) hp (fun _ => ix_tup at0) (by decide) he (done_putA (w := "put") (r := .int r) (v := .int n) (s2 := { upSA s with m := { (upSA s).m with boxes := s.m.boxes.set r n } }) (by simp) (fun _ => ix_tup at0) (fun _ => ix_tup at1) (worth_putA fun _ => ix_tup at2) (w_heldA hb' hr.1))
    | move r b => exact step_ofA (p := .pl (.move r b)) (w := "move") (s2 := { upSA s with m := { (upSA s).m with boxes := s.m.boxes.set r (bx s.m b) } }) hp (fun _ => ix_tup at0) (by decide) he (done_putA (w := "move") (r := .int r) (v := .int (bx s.m b)) (s2 := { upSA s with m := { (upSA s).m with boxes := s.m.boxes.set r (bx s.m b) } }) (by simp) (fun _ => ix_tup at0) (fun _ => ix_tup at1) (worth_moveA hb' hr.2) (w_heldA hb' hr.1))
    | add r b t => exact step_ofA (p := .pl (.add r b t)) (w := "add") (s2 := { upSA s with m := { (upSA s).m with boxes := s.m.boxes.set r (ringI (bx s.m b + bx s.m t)) } }) hp (fun _ => ix_tup at0) (by decide) he (done_putA (w := "add") (r := .int r) (v := .int (ringI (bx s.m b + bx s.m t))) (s2 := { upSA s with m := { (upSA s).m with boxes := s.m.boxes.set r (ringI (bx s.m b + bx s.m t)) } }) (by simp) (fun _ => ix_tup at0) (fun _ => ix_tup at1) (worth_dA (by simp) (doubA hb' hr.2.1 hr.2.2 (.inl ⟨rfl, rfl⟩))) (w_heldA hb' hr.1))
    | take r b t => exact step_ofA (p := .pl (.take r b t)) (w := "take") (s2 := { upSA s with m := { (upSA s).m with boxes := s.m.boxes.set r (ringI (bx s.m b - bx s.m t)) } }) hp (fun _ => ix_tup at0) (by decide) he (done_putA (w := "take") (r := .int r) (v := .int (ringI (bx s.m b - bx s.m t))) (s2 := { upSA s with m := { (upSA s).m with boxes := s.m.boxes.set r (ringI (bx s.m b - bx s.m t)) } }) (by simp) (fun _ => ix_tup at0) (fun _ => ix_tup at1) (worth_dA (by simp) (doubA hb' hr.2.1 hr.2.2 (.inr (.inl ⟨rfl, rfl⟩)))) (w_heldA hb' hr.1))
    | less r b t => exact step_ofA (p := .pl (.less r b t)) (w := "less") (s2 := { upSA s with m := { (upSA s).m with boxes := s.m.boxes.set r (if bx s.m b < bx s.m t then 1 else 0) } }) hp (fun _ => ix_tup at0) (by decide) he (done_putA (w := "less") (r := .int r) (v := .int (if bx s.m b < bx s.m t then 1 else 0)) (s2 := { upSA s with m := { (upSA s).m with boxes := s.m.boxes.set r (if bx s.m b < bx s.m t then 1 else 0) } }) (by simp) (fun _ => ix_tup at0) (fun _ => ix_tup at1) (worth_dA (by simp) (doubA hb' hr.2.1 hr.2.2 (.inr (.inr (.inl ⟨rfl, rfl⟩))))) (w_heldA hb' hr.1))
    | same r b t => exact step_ofA (p := .pl (.same r b t)) (w := "same") (s2 := { upSA s with m := { (upSA s).m with boxes := s.m.boxes.set r (if bx s.m b = bx s.m t then 1 else 0) } }) hp (fun _ => ix_tup at0) (by decide) he (done_putA (w := "same") (r := .int r) (v := .int (if bx s.m b = bx s.m t then 1 else 0)) (s2 := { upSA s with m := { (upSA s).m with boxes := s.m.boxes.set r (if bx s.m b = bx s.m t then 1 else 0) } }) (by simp) (fun _ => ix_tup at0) (fun _ => ix_tup at1) (worth_dA (by simp) (doubA hb' hr.2.1 hr.2.2 (.inr (.inr (.inr ⟨rfl, rfl⟩))))) (w_heldA hb' hr.1))
end

section
variable {A0 : AH} {ks : List D} {s : KM}
theorem step_okZ {p : KR} (ok : KOk ks.length s) (he : s.m.en = none) (hp : ks[s.m.here]? = some p.d) (hr : p.ok ks.length) (hf : p.fit s) (hS : s.m.steps < 10000) :
    m_Lazy_step [.ref A0.length] (encZ A0 ks s) = .ok .non (encZ A0 ks (stepK ks.length p s)) := by
  have hb := ok.b
  have hc := ok.c
  have hb' : (upSZ s).m.boxes.length = 6 := hb
  have hsd : (upSZ s).m.said.length < 16777216 := by
    have := ok.s
    show s.m.said.length < 16777216
    omega
  cases p with
  | ad b => exact step_ofZ (p := .ad b) (w := "add") (s2 := { upSZ s with x := .k (ringI (0 + bx s.m b)) }) hp (fun _ => ix_tup at0) (by decide) he (done_putZ (w := "add") (r := .int 6) (v := (Q.k (ringI (0 + bx s.m b))).d) (s2 := { upSZ s with x := .k (ringI (0 + bx s.m b)) }) (by simp) (fun _ => ix_tup at0) (fun _ => ix_tup at1) (worth_dZ (by simp) (doub6Z hb' hr)) (w_held6Z hb'))
  | kget r =>
    obtain ⟨a, hx⟩ := hf
    by_cases hin : 0 ≤ a ∧ a < 64
    · have e : stepK ks.length (.kget r) s = { s with m := chk ks.length { s.m with steps := s.m.steps + 1, here := s.m.here + 1, boxes := s.m.boxes.set r (s.m.cells.getD a.toNat 0) } } := by
        simp only [stepK, hx, if_pos hin]
      rw [e]
      exact step_ofZ (p := .kget r) (w := "get") (s2 := { upSZ s with m := { (upSZ s).m with boxes := s.m.boxes.set r (s.m.cells.getD a.toNat 0) } }) hp (fun _ => ix_tup at0) (by decide) he (done_putZ (w := "get") (r := .int r) (v := .int (s.m.cells.getD a.toNat 0)) (s2 := { upSZ s with m := { (upSZ s).m with boxes := s.m.boxes.set r (s.m.cells.getD a.toNat 0) } }) (by simp) (fun _ => ix_tup at0) (fun _ => ix_tup at1) (worth_getZ (taken_inZ hb' hc hx hin.1 hin.2)) (w_heldZ hb' hr))
    · have e : stepK ks.length (.kget r) s = faultK s := by
        simp only [stepK, hx, if_neg hin]
      rw [e]
      exact step_xZ (p := .kget r) (w := "get") hp (fun _ => ix_tup at0) (by decide) (done_getxZ (fun _ => ix_tup at0) (worth_xZ (taken_outZ hb' hx hin)))
  | kset t =>
    obtain ⟨a, hx⟩ := hf
    by_cases hin : 0 ≤ a ∧ a < 64
    · have e : stepK ks.length (.kset t) s = { s with m := chk ks.length { s.m with steps := s.m.steps + 1, here := s.m.here + 1, cells := s.m.cells.set a.toNat (bx s.m t) } } := by
        simp only [stepK, hx, if_pos hin]
      rw [e]
      exact step_ofZ (p := .kset t) (w := "set") (s2 := { upSZ s with m := { (upSZ s).m with cells := s.m.cells.set a.toNat (bx s.m t) } }) hp (fun _ => ix_tup at0) (by decide) he (done_setZ (put_inZ hr hb' hc hx hin.1 hin.2))
    · have e : stepK ks.length (.kset t) s = faultK s := by
        simp only [stepK, hx, if_neg hin]
      rw [e]
      exact step_xZ (p := .kset t) (w := "set") hp (fun _ => ix_tup at0) (by decide) (done_setxZ (put_outZ hr hb' hx hin))
  | pl p =>
    obtain ⟨hr, hbare⟩ := hr
    cases p with
    | get r b => exact hbare.elim
    | set r t => exact hbare.elim
    | fin => exact step_finZ hp
    | go g => exact step_ofZ (p := .pl (.go g)) (w := "go") (s2 := upSZ s) hp (fun _ => ix_tup at0) (by decide) he done_goZ
    | iff r g =>
      have := step_ofZ (A0 := A0) (p := .pl (.iff r g)) (w := "if") (s2 := upSZ s) hp (fun _ => ix_tup at0) (by decide) he (done_ifZ (r := r) (g := g) hb' hr.1)
      refine this.trans ?_
      congr 2
      unfold stepK stepM upSZ
      dsimp only
      by_cases hz : bx s.m r = 0
      · have hz' : bx { s.m with steps := s.m.steps + 1 } r = 0 := hz
        rw [if_neg (fun q => q hz'), if_neg (fun q => q hz)]
      · have hz' : bx { s.m with steps := s.m.steps + 1 } r ≠ 0 := hz
        rw [if_pos hz', if_pos hz]
    | say r => exact step_ofZ (p := .pl (.say r)) (w := "say") (s2 := { upSZ s with m := { (upSZ s).m with said := s.m.said ++ [bx s.m r] } }) hp (fun _ => ix_tup at0) (by decide) he (done_sayZ (r := r) hb' hr hsd)
    | put r n => exact step_ofZ (p := .pl (.put r n)) (w := "put") (s2 := { upSZ s with m := { (upSZ s).m with boxes := s.m.boxes.set r n } }) hp (fun _ => ix_tup at0) (by decide) he (done_putZ (w := "put") (r := .int r) (v := .int n) (s2 := { upSZ s with m := { (upSZ s).m with boxes := s.m.boxes.set r n } }) (by simp) (fun _ => ix_tup at0) (fun _ => ix_tup at1) (worth_putZ fun _ => ix_tup at2) (w_heldZ hb' hr.1))
    | move r b => exact step_ofZ (p := .pl (.move r b)) (w := "move") (s2 := { upSZ s with m := { (upSZ s).m with boxes := s.m.boxes.set r (bx s.m b) } }) hp (fun _ => ix_tup at0) (by decide) he (done_putZ (w := "move") (r := .int r) (v := .int (bx s.m b)) (s2 := { upSZ s with m := { (upSZ s).m with boxes := s.m.boxes.set r (bx s.m b) } }) (by simp) (fun _ => ix_tup at0) (fun _ => ix_tup at1) (worth_moveZ hb' hr.2) (w_heldZ hb' hr.1))
    | add r b t => exact step_ofZ (p := .pl (.add r b t)) (w := "add") (s2 := { upSZ s with m := { (upSZ s).m with boxes := s.m.boxes.set r (ringI (bx s.m b + bx s.m t)) } }) hp (fun _ => ix_tup at0) (by decide) he (done_putZ (w := "add") (r := .int r) (v := .int (ringI (bx s.m b + bx s.m t))) (s2 := { upSZ s with m := { (upSZ s).m with boxes := s.m.boxes.set r (ringI (bx s.m b + bx s.m t)) } }) (by simp) (fun _ => ix_tup at0) (fun _ => ix_tup at1) (worth_dZ (by simp) (doubZ hb' hr.2.1 hr.2.2 (.inl ⟨rfl, rfl⟩))) (w_heldZ hb' hr.1))
    | take r b t => exact step_ofZ (p := .pl (.take r b t)) (w := "take") (s2 := { upSZ s with m := { (upSZ s).m with boxes := s.m.boxes.set r (ringI (bx s.m b - bx s.m t)) } }) hp (fun _ => ix_tup at0) (by decide) he (done_putZ (w := "take") (r := .int r) (v := .int (ringI (bx s.m b - bx s.m t))) (s2 := { upSZ s with m := { (upSZ s).m with boxes := s.m.boxes.set r (ringI (bx s.m b - bx s.m t)) } }) (by simp) (fun _ => ix_tup at0) (fun _ => ix_tup at1) (worth_dZ (by simp) (doubZ hb' hr.2.1 hr.2.2 (.inr (.inl ⟨rfl, rfl⟩)))) (w_heldZ hb' hr.1))
    | less r b t => exact step_ofZ (p := .pl (.less r b t)) (w := "less") (s2 := { upSZ s with m := { (upSZ s).m with boxes := s.m.boxes.set r (if bx s.m b < bx s.m t then 1 else 0) } }) hp (fun _ => ix_tup at0) (by decide) he (done_putZ (w := "less") (r := .int r) (v := .int (if bx s.m b < bx s.m t then 1 else 0)) (s2 := { upSZ s with m := { (upSZ s).m with boxes := s.m.boxes.set r (if bx s.m b < bx s.m t then 1 else 0) } }) (by simp) (fun _ => ix_tup at0) (fun _ => ix_tup at1) (worth_dZ (by simp) (doubZ hb' hr.2.1 hr.2.2 (.inr (.inr (.inl ⟨rfl, rfl⟩))))) (w_heldZ hb' hr.1))
    | same r b t => exact step_ofZ (p := .pl (.same r b t)) (w := "same") (s2 := { upSZ s with m := { (upSZ s).m with boxes := s.m.boxes.set r (if bx s.m b = bx s.m t then 1 else 0) } }) hp (fun _ => ix_tup at0) (by decide) he (done_putZ (w := "same") (r := .int r) (v := .int (if bx s.m b = bx s.m t then 1 else 0)) (s2 := { upSZ s with m := { (upSZ s).m with boxes := s.m.boxes.set r (if bx s.m b = bx s.m t then 1 else 0) } }) (by simp) (fun _ => ix_tup at0) (fun _ => ix_tup at1) (worth_dZ (by simp) (doubZ hb' hr.2.1 hr.2.2 (.inr (.inr (.inr ⟨rfl, rfl⟩))))) (w_heldZ hb' hr.1))
end
end K16

set_option Elab.async false
set_option linter.all false
set_option maxRecDepth 100000
set_option maxHeartbeats 4000000
/-! K16T: rows by one key go as rows by numbers; plain Lean. -/
namespace K16
open PySem Tg L2
def wd : PR → Nat
  | .get .. => 2
  | .set .. => 2
  | _ => 1
def begP (prog : List PR) : Nat → Nat
  | 0 => 0
  | k + 1 => begP prog k + (match prog[k]? with
    | some p => wd p
    | none => 0)
def goalK (b : Nat → Nat) : PR → PR
  | .go g => .go (b g)
  | .iff r g => .iff r (b g)
  | p => p
def kof (b : Nat → Nat) : PR → List KR
  | .get r s => [.ad s, .kget r]
  | .set r t => [.ad r, .kset t]
  | p => [.pl (goalK b p)]
def kRows (prog : List PR) : List KR := prog.flatMap (kof (begP prog))
def orgs (prog : List PR) : Nat → List Nat
  | 0 => []
  | k + 1 => orgs prog k ++ (match prog[k]? with
    | some p => List.replicate (wd p) k
    | none => [])
theorem wd_pos (p : PR) : 1 ≤ wd p := by cases p <;> simp [wd]
theorem wd_le (p : PR) : wd p ≤ 2 := by cases p <;> simp [wd]
theorem kof_len (b : Nat → Nat) (p : PR) : (kof b p).length = wd p := by cases p <;> rfl
section
variable {prog : List PR}
theorem begP_succ {i : Nat} {p : PR} (h : prog[i]? = some p) : begP prog (i + 1) = begP prog i + wd p := by
  show begP prog i + (match prog[i]? with
    | some p => wd p
    | none => 0) = _
  rw [h]
theorem begP_le {i : Nat} (h : i ≤ prog.length) : begP prog i ≤ 2 * i := by
  induction i with
  | zero => exact Nat.le_refl _
  | succ i ih =>
    rw [begP_succ (List.getElem?_eq_getElem (show i < prog.length by omega))]
    have := wd_le (prog[i])
    have := ih (by omega)
    omega
theorem begP_ge {i : Nat} (h : i ≤ prog.length) : i ≤ begP prog i := by
  induction i with
  | zero => exact Nat.zero_le _
  | succ i ih =>
    rw [begP_succ (List.getElem?_eq_getElem (show i < prog.length by omega))]
    have := wd_pos (prog[i])
    have := ih (by omega)
    omega
theorem begP_lt {i j : Nat} (h : j ≤ prog.length) (hij : i < j) : begP prog i < begP prog j := by
  induction j with
  | zero => omega
  | succ j ih =>
    rw [begP_succ (List.getElem?_eq_getElem (show j < prog.length by omega))]
    have := wd_pos (prog[j])
    rcases Nat.lt_or_ge i j with q | q
    · have := ih (by omega) q
      omega
    · have : i = j := by omega
      subst this
      omega
theorem begP_inj {i : Nat} (h : i ≤ prog.length) : begP prog i = begP prog prog.length ↔ i = prog.length := by
  refine ⟨fun e => ?_, fun e => by rw [e]⟩
  rcases Nat.lt_or_ge i prog.length with q | q
  · have := begP_lt (Nat.le_refl _) q
    omega
  · omega
theorem take_succ {i : Nat} {p : PR} (h : prog[i]? = some p) : prog.take (i + 1) = prog.take i ++ [p] := by
  rw [List.take_succ, h]
  rfl
theorem fl_len {b : Nat → Nat} {i : Nat} (h : i ≤ prog.length) : ((prog.take i).flatMap (kof b)).length = begP prog i := by
  induction i with
  | zero => rfl
  | succ i ih =>
    have e := List.getElem?_eq_getElem (show i < prog.length by omega)
    rw [take_succ e, List.flatMap_append, List.length_append, ih (by omega), begP_succ e]
    simp [kof_len]
theorem rows_len : (kRows prog).length = begP prog prog.length := by
  have := fl_len (prog := prog) (b := begP prog) (Nat.le_refl _)
  rw [List.take_length] at this
  exact this
theorem rows_at {i j : Nat} {p : PR} (h : prog[i]? = some p) (hj : j < wd p) : (kRows prog)[begP prog i + j]? = (kof (begP prog) p)[j]? := by
  have hi := (List.getElem?_eq_some_iff.mp h).1
  have hp := (List.getElem?_eq_some_iff.mp h).2
  have e : ∀ b, prog.flatMap (kof b) = (prog.take i).flatMap (kof b) ++ (kof b p ++ (prog.drop (i + 1)).flatMap (kof b)) := fun b => by
    conv => lhs; rw [← List.take_append_drop i prog, List.drop_eq_getElem_cons hi, hp]
    rw [List.flatMap_append, List.flatMap_cons]
  unfold kRows
  rw [e, List.getElem?_append_right (by rw [fl_len (by omega)]; omega), fl_len (by omega), Nat.add_sub_cancel_left, List.getElem?_append_left (by rw [kof_len]; exact hj)]
theorem orgs_len {i : Nat} (h : i ≤ prog.length) : (orgs prog i).length = begP prog i := by
  induction i with
  | zero => rfl
  | succ i ih =>
    have e := List.getElem?_eq_getElem (show i < prog.length by omega)
    rw [begP_succ e]
    show (orgs prog i ++ (match prog[i]? with
      | some p => List.replicate (wd p) i
      | none => [])).length = _
    rw [e, List.length_append, ih (by omega), List.length_replicate]
theorem orgs_at {i j k : Nat} {p : PR} (h : prog[i]? = some p) (hj : j < wd p) (hk : k ≤ prog.length) (hik : i < k) : (orgs prog k)[begP prog i + j]? = some i := by
  induction k with
  | zero => omega
  | succ k ih =>
    have e := List.getElem?_eq_getElem (show k < prog.length by omega)
    have u : orgs prog (k + 1) = orgs prog k ++ List.replicate (wd prog[k]) k := by
      show (orgs prog k ++ (match prog[k]? with
        | some p => List.replicate (wd p) k
        | none => [])) = _
      rw [e]
    rw [u]
    rcases Nat.lt_or_ge i k with q | q
    · have b1 : begP prog (i + 1) ≤ begP prog k := by
        rcases Nat.lt_or_ge (i + 1) k with z | z
        · exact Nat.le_of_lt (begP_lt (by omega) z)
        · rw [show i + 1 = k by omega]
          exact Nat.le_refl _
      rw [begP_succ h] at b1
      rw [List.getElem?_append_left (by rw [orgs_len (by omega)]; omega)]
      exact ih (by omega) q
    · have : i = k := by omega
      subst this
      rw [h] at e
      rw [← Option.some.inj e]
      rw [List.getElem?_append_right (by rw [orgs_len (by omega)]; omega), orgs_len (by omega), Nat.add_sub_cancel_left, List.getElem?_replicate, if_pos hj]
theorem orgs_mem {k : Nat} (hk : k ≤ prog.length) : ∀ z ∈ orgs prog k, z < prog.length := by
  induction k with
  | zero => intro z hz; cases hz
  | succ k ih =>
    intro z hz
    have e := List.getElem?_eq_getElem (show k < prog.length by omega)
    have u : orgs prog (k + 1) = orgs prog k ++ List.replicate (wd prog[k]) k := by
      show (orgs prog k ++ (match prog[k]? with
        | some p => List.replicate (wd p) k
        | none => [])) = _
      rw [e]
    rw [u] at hz
    rcases List.mem_append.mp hz with hz | hz
    · exact ih (by omega) z hz
    · rw [(List.mem_replicate.mp hz).2]
      omega
/-! ### rows that can be -/
theorem kof_ok (hn : prog.length ≤ 60) {p : PR} (hp : p.ok prog.length) : ∀ q ∈ kof (begP prog) p, q.ok (kRows prog).length := by
  have g : ∀ g, g < prog.length → begP prog g < (kRows prog).length := fun g hg => by
    rw [rows_len]
    exact begP_lt (Nat.le_refl _) hg
  intro q hq
  cases p with
  | get r s =>
    rcases List.mem_cons.mp hq with rfl | hq
    · exact hp.2
    · rcases List.mem_cons.mp hq with rfl | hq
      · exact hp.1
      · cases hq
  | set r t =>
    rcases List.mem_cons.mp hq with rfl | hq
    · exact hp.1
    · rcases List.mem_cons.mp hq with rfl | hq
      · exact hp.2
      · cases hq
  | go n =>
    rcases List.mem_cons.mp hq with rfl | hq
    · exact ⟨g _ hp, trivial⟩
    · cases hq
  | iff r n =>
    rcases List.mem_cons.mp hq with rfl | hq
    · exact ⟨⟨hp.1, g _ hp.2⟩, trivial⟩
    · cases hq
  | _ =>
    rcases List.mem_cons.mp hq with rfl | hq
    · exact ⟨hp, trivial⟩
    · cases hq
theorem rows_ok (hP : ∀ p ∈ prog, p.ok prog.length) (hn : prog.length ≤ 60) : ∀ q ∈ kRows prog, q.ok (kRows prog).length := fun q hq => by
  obtain ⟨p, hp, h⟩ := List.mem_flatMap.mp hq
  exact kof_ok hn (hP p hp) q h
end
/-! ### going on -/
def nxtM (prog : List PR) (m : M) : M := match prog[m.here]? with
  | some p => stepM prog.length p m
  | none => m
def itM (prog : List PR) : Nat → M → M
  | 0, m => m
  | k + 1, m => nxtM prog (itM prog k m)
theorem itM_l (prog : List PR) : ∀ (k : Nat) (m : M), itM prog (k + 1) m = itM prog k (nxtM prog m)
  | 0, _ => rfl
  | k + 1, m => by
    show nxtM prog (itM prog (k + 1) m) = nxtM prog (itM prog k (nxtM prog m))
    rw [itM_l prog k m]
def nxtK (rows : List KR) (s : KM) : KM := match rows[s.m.here]? with
  | some p => stepK rows.length p s
  | none => s
def itK (rows : List KR) : Nat → KM → KM
  | 0, m => m
  | k + 1, m => nxtK rows (itK rows k m)
theorem itK_l (rows : List KR) : ∀ (k : Nat) (m : KM), itK rows (k + 1) m = itK rows k (nxtK rows m)
  | 0, _ => rfl
  | k + 1, m => by
    show nxtK rows (itK rows (k + 1) m) = nxtK rows (itK rows k (nxtK rows m))
    rw [itK_l rows k m]
def runK (rows : List KR) (fuel : Int) : Nat → KM → KM
  | 0, m => m
  | k + 1, m => if m.m.en = none ∧ (m.m.steps : Int) < fuel then runK rows fuel k (nxtK rows m) else m
section
variable {prog : List PR} {rows : List KR}
theorem runM_it {fuel : Int} : ∀ (f : Nat) (m : M), (m.en = none → m.here < prog.length) → (∀ m, m.Ok prog.length → m.en = none → (nxtM prog m).Ok prog.length ∧ (nxtM prog m).steps = m.steps + 1) → m.Ok prog.length → fuel - m.steps < f →
    ∃ t, runM prog fuel f m = itM prog t m ∧ (∀ i, i < t → (itM prog i m).en = none ∧ ((itM prog i m).steps : Int) < fuel) ∧ ((itM prog t m).en ≠ none ∨ fuel ≤ (itM prog t m).steps) ∧ (itM prog t m).steps = m.steps + t
  | 0, m, _, _, _, h => ⟨0, rfl, fun i h => absurd h (Nat.not_lt_zero i), .inr (by show fuel ≤ (m.steps : Int); omega), rfl⟩
  | f + 1, m, hh, hN, ok, h => by
    by_cases hc : m.en = none ∧ (m.steps : Int) < fuel
    · have hp := List.getElem?_eq_getElem (hh hc.1)
      have e : runM prog fuel (f + 1) m = runM prog fuel f (nxtM prog m) := by
        conv => lhs; unfold runM
        rw [if_pos hc]
        unfold nxtM
        rw [hp]
      obtain ⟨o1, o2⟩ := hN m ok hc.1
      have h1 : fuel - (m.steps : Int) < ((f + 1 : Nat) : Int) := h
      have h2 : fuel - ((nxtM prog m).steps : Int) < (f : Int) := by rw [o2]; omega
      obtain ⟨t, e1, e2, e3, e4⟩ := runM_it f (nxtM prog m) o1.h hN o1 h2
      refine ⟨t + 1, ?_, ?_, ?_, ?_⟩
      · rw [e, e1, itM_l]
      · intro i hi
        cases i with
        | zero => exact hc
        | succ i =>
          rw [itM_l]
          exact e2 i (by omega)
      · rw [itM_l]
        exact e3
      · rw [itM_l, e4]
        omega
    · refine ⟨0, ?_, fun i h => by omega, ?_, rfl⟩
      · conv => lhs; unfold runM
        rw [if_neg hc]
        rfl
      · show m.en ≠ none ∨ fuel ≤ (m.steps : Int)
        by_cases he : m.en = none
        · exact .inr (by
            have : ¬ (m.steps : Int) < fuel := fun q => hc ⟨he, q⟩
            omega)
        · exact .inl he
theorem runK_it {fuel : Int} (I : KM → Prop) (hN : ∀ m, I m → m.m.en = none → I (nxtK rows m) ∧ (nxtK rows m).m.steps = m.m.steps + 1) : ∀ (f : Nat) (m : KM), I m → fuel - m.m.steps < f →
    ∃ t, runK rows fuel f m = itK rows t m ∧ (∀ i, i < t → (itK rows i m).m.en = none ∧ ((itK rows i m).m.steps : Int) < fuel) ∧ ((itK rows t m).m.en ≠ none ∨ fuel ≤ (itK rows t m).m.steps) ∧ (itK rows t m).m.steps = m.m.steps + t
  | 0, m, _, h => ⟨0, rfl, fun i h => absurd h (Nat.not_lt_zero i), .inr (by show fuel ≤ (m.m.steps : Int); omega), rfl⟩
  | f + 1, m, ok, h => by
    by_cases hc : m.m.en = none ∧ (m.m.steps : Int) < fuel
    · have e : runK rows fuel (f + 1) m = runK rows fuel f (nxtK rows m) := by
        conv => lhs; unfold runK
        rw [if_pos hc]
      obtain ⟨o1, o2⟩ := hN m ok hc.1
      have h1 : fuel - (m.m.steps : Int) < ((f + 1 : Nat) : Int) := h
      have h2 : fuel - ((nxtK rows m).m.steps : Int) < (f : Int) := by rw [o2]; omega
      obtain ⟨t, e1, e2, e3, e4⟩ := runK_it I hN f (nxtK rows m) o1 h2
      refine ⟨t + 1, ?_, ?_, ?_, ?_⟩
      · rw [e, e1, itK_l]
      · intro i hi
        cases i with
        | zero => exact hc
        | succ i =>
          rw [itK_l]
          exact e2 i (by omega)
      · rw [itK_l]
        exact e3
      · rw [itK_l, e4]
        omega
    · refine ⟨0, ?_, fun i h => by omega, ?_, rfl⟩
      · conv => lhs; unfold runK
        rw [if_neg hc]
        rfl
      · show m.m.en ≠ none ∨ fuel ≤ (m.m.steps : Int)
        by_cases he : m.m.en = none
        · exact .inr (by
            have : ¬ (m.m.steps : Int) < fuel := fun q => hc ⟨he, q⟩
            omega)
        · exact .inl he
end
end K16

set_option Elab.async false
set_option linter.all false
set_option maxRecDepth 100000
set_option maxHeartbeats 4000000
/-! K16U: rows by one key say what rows by numbers say; plain Lean. -/
namespace K16
open PySem Tg L2
structure Inv (prog : List PR) (s : KM) : Prop where
  k : KOk (kRows prog).length s
  p : s.m.en = none → ∃ i p, prog[i]? = some p ∧ (s.m.here = begP prog i ∨ (s.m.here = begP prog i + 1 ∧ wd p = 2 ∧ ∃ a, s.x = .k a))
theorem chk_yes {rows : Nat} {m : M} (h : m.here = rows) : chk rows m = { m with en := some endD } := by
  unfold chk
  rw [if_pos h]
theorem chk_no {rows : Nat} {m : M} (h : m.here ≠ rows) : chk rows m = m := by
  unfold chk
  rw [if_neg h]
def Out (prog : List PR) (s s' : KM) : Prop := Inv prog s' ∧ s'.m.steps = s.m.steps + 1 ∧ ∃ l, s'.m.said = s.m.said ++ l
section
variable {prog : List PR}
theorem chk_inv {i : Nat} (hi : i ≤ prog.length) {m : M} {x : Q} (hc : m.cells.length = 64) (hb : m.boxes.length = 6) (hs : m.said.length ≤ m.steps) (he : m.en = none) (hh : m.here = begP prog i) : Inv prog { m := chk (kRows prog).length m, x := x } := by
  by_cases q : i = prog.length
  · have e : m.here = (kRows prog).length := by rw [hh, q, rows_len]
    rw [chk_yes e]
    exact ⟨⟨hc, hb, (fun z => nomatch z), hs, fun d z => by cases z; rfl⟩, (fun z => nomatch z)⟩
  · have lt : i < prog.length := by omega
    have l2 := begP_lt (prog := prog) (Nat.le_refl _) lt
    have e : m.here ≠ (kRows prog).length := by rw [hh, rows_len]; omega
    rw [chk_no e]
    refine ⟨⟨hc, hb, fun _ => ?_, hs, fun d z => ?_⟩, fun _ => ⟨i, prog[i], List.getElem?_eq_getElem lt, .inl hh⟩⟩
    · show m.here < _
      rw [hh, rows_len]
      exact l2
    · rw [show m.en = none from he] at z
      cases z
theorem out_chk {i : Nat} (hi : i ≤ prog.length) {s : KM} {m : M} {x : Q} (hc : m.cells.length = 64) (hb : m.boxes.length = 6) (hl : ∃ l, m.said = s.m.said ++ l) (hs : m.said.length ≤ m.steps) (ht : m.steps = s.m.steps + 1) (he : m.en = none) (hh : m.here = begP prog i) :
    Out prog s { m := chk (kRows prog).length m, x := x } := by
  refine ⟨chk_inv hi hc hb hs he hh, ?_, ?_⟩
  · show (chk _ m).steps = _
    rw [chk_t, ht]
  · obtain ⟨l, e⟩ := hl
    exact ⟨l, by show (chk _ m).said = _; rw [chk_s, e]⟩
theorem out_fault {s : KM} (I : Inv prog s) : Out prog s (faultK s) := by
  have hs := I.k.s
  exact ⟨⟨⟨I.k.c, I.k.b, (fun z => nomatch z), by show s.m.said.length ≤ s.m.steps + 1; omega, fun d z => by cases z; rfl⟩, (fun z => nomatch z)⟩, rfl, [], by show s.m.said = s.m.said ++ []; rw [List.append_nil]⟩
theorem inv_step (hP : ∀ p ∈ prog, p.ok prog.length) (hn : prog.length ≤ 60) {s : KM} (I : Inv prog s) (he : s.m.en = none) :
    ∃ q, (kRows prog)[s.m.here]? = some q ∧ q.ok (kRows prog).length ∧ q.fit s ∧ Out prog s (stepK (kRows prog).length q s) := by
  have hc := I.k.c
  have hb := I.k.b
  have hs := I.k.s
  have hs1 : s.m.said.length ≤ s.m.steps + 1 := by omega
  have nil : ∃ l, s.m.said = s.m.said ++ l := ⟨[], by rw [List.append_nil]⟩
  obtain ⟨i, p, hp, h⟩ := I.p he
  have hi := (List.getElem?_eq_some_iff.mp hp).1
  have hpo := hP p (List.mem_of_getElem? hp)
  have sc := begP_succ hp
  have ko := fun q => kof_ok hn hpo q
  have lt := begP_lt (prog := prog) (Nat.le_refl _) hi
  rcases h with h | ⟨h, w, a, hx⟩
  · have r0 := rows_at hp (j := 0) (wd_pos p)
    rw [Nat.add_zero, ← h] at r0
    have bare : ∀ {p'} {m : M}, kof (begP prog) p = [.pl p'] → stepK (kRows prog).length (.pl p') s = { s with m := chk (kRows prog).length m } → (∃ i, i ≤ prog.length ∧ m.here = begP prog i) → m.cells.length = 64 → m.boxes.length = 6 → (∃ l, m.said = s.m.said ++ l) → m.said.length ≤ m.steps → m.steps = s.m.steps + 1 → m.en = none →
        ∃ q, (kRows prog)[s.m.here]? = some q ∧ q.ok (kRows prog).length ∧ q.fit s ∧ Out prog s (stepK (kRows prog).length q s) := by
      intro p' m e1 e2 e3 e4 e5 e6 e7 e8 e9
      obtain ⟨j, hj, e3⟩ := e3
      refine ⟨.pl p', by rw [r0, e1]; rfl, ko _ (by rw [e1]; exact List.mem_cons_self), trivial, ?_⟩
      rw [e2]
      exact out_chk hj e4 e5 e6 e7 e8 e9 e3
    cases p with
    | fin =>
      refine ⟨.pl .fin, r0, ⟨trivial, trivial⟩, trivial, ⟨⟨hc, hb, (fun z => nomatch z), hs1, fun d z => by cases z; rfl⟩, (fun z => nomatch z)⟩, rfl, [], ?_⟩
      show s.m.said = s.m.said ++ []
      rw [List.append_nil]
    | go g => exact bare (p' := .go (begP prog g)) rfl rfl ⟨g, Nat.le_of_lt hpo, rfl⟩ hc hb nil hs1 rfl he
    | iff r g =>
      by_cases z : bx s.m r = 0
      · exact bare (p' := .iff r (begP prog g)) (m := { s.m with steps := s.m.steps + 1, here := s.m.here + 1 }) rfl (by simp only [stepK, stepM]; rw [if_neg (fun q => q z)]) ⟨i + 1, hi, by show s.m.here + 1 = _; rw [sc, h]; rfl⟩ hc hb nil hs1 rfl he
      · exact bare (p' := .iff r (begP prog g)) (m := { s.m with steps := s.m.steps + 1, here := begP prog g }) rfl (by simp only [stepK, stepM]; rw [if_pos z]) ⟨g, Nat.le_of_lt hpo.2, rfl⟩ hc hb nil hs1 rfl he
    | say r => exact bare (p' := .say r) rfl rfl ⟨i + 1, hi, by show s.m.here + 1 = _; rw [sc, h]; rfl⟩ hc hb ⟨[bx s.m r], rfl⟩ (by show (s.m.said ++ [_]).length ≤ s.m.steps + 1; rw [List.length_append, List.length_singleton]; omega) rfl he
    | get r b =>
      refine ⟨.ad b, r0, hpo.2, trivial, ?_⟩
      have sc' : begP prog (i + 1) = begP prog i + 2 := sc
      have ne : s.m.here + 1 ≠ (kRows prog).length := by
        have := begP_lt (prog := prog) (i := i + 1) (j := prog.length) (Nat.le_refl _)
        rw [rows_len]
        rcases Nat.lt_or_ge (i + 1) prog.length with z | z
        · have := this z
          omega
        · rw [← show i + 1 = prog.length by omega, sc']
          omega
      have l1 : s.m.here + 1 < (kRows prog).length := by
        rw [rows_len] at ne ⊢
        omega
      show Out prog s { m := chk (kRows prog).length { s.m with steps := s.m.steps + 1, here := s.m.here + 1 }, x := .k (ringI (0 + bx s.m b)) }
      rw [chk_no (by exact ne)]
      exact ⟨⟨⟨hc, hb, fun _ => l1, hs1, fun d z => by rw [show s.m.en = some d from z] at he; cases he⟩, fun _ => ⟨i, _, hp, .inr ⟨by show s.m.here + 1 = _; rw [h], rfl, _, rfl⟩⟩⟩, rfl, nil⟩
    | set b t =>
      refine ⟨.ad b, r0, hpo.1, trivial, ?_⟩
      have sc' : begP prog (i + 1) = begP prog i + 2 := sc
      have ne : s.m.here + 1 ≠ (kRows prog).length := by
        have := begP_lt (prog := prog) (i := i + 1) (j := prog.length) (Nat.le_refl _)
        rw [rows_len]
        rcases Nat.lt_or_ge (i + 1) prog.length with z | z
        · have := this z
          omega
        · rw [← show i + 1 = prog.length by omega, sc']
          omega
      have l1 : s.m.here + 1 < (kRows prog).length := by
        rw [rows_len] at ne ⊢
        omega
      show Out prog s { m := chk (kRows prog).length { s.m with steps := s.m.steps + 1, here := s.m.here + 1 }, x := .k (ringI (0 + bx s.m b)) }
      rw [chk_no (by exact ne)]
      exact ⟨⟨⟨hc, hb, fun _ => l1, hs1, fun d z => by rw [show s.m.en = some d from z] at he; cases he⟩, fun _ => ⟨i, _, hp, .inr ⟨by show s.m.here + 1 = _; rw [h], rfl, _, rfl⟩⟩⟩, rfl, nil⟩
    | put r n => exact bare (p' := .put r n) rfl rfl ⟨i + 1, hi, by show s.m.here + 1 = _; rw [sc, h]; rfl⟩ hc (by show (s.m.boxes.set _ _).length = 6; rw [List.length_set, hb]) nil hs1 rfl he
    | move r b => exact bare (p' := .move r b) rfl rfl ⟨i + 1, hi, by show s.m.here + 1 = _; rw [sc, h]; rfl⟩ hc (by show (s.m.boxes.set _ _).length = 6; rw [List.length_set, hb]) nil hs1 rfl he
    | add r b t => exact bare (p' := .add r b t) rfl rfl ⟨i + 1, hi, by show s.m.here + 1 = _; rw [sc, h]; rfl⟩ hc (by show (s.m.boxes.set _ _).length = 6; rw [List.length_set, hb]) nil hs1 rfl he
    | take r b t => exact bare (p' := .take r b t) rfl rfl ⟨i + 1, hi, by show s.m.here + 1 = _; rw [sc, h]; rfl⟩ hc (by show (s.m.boxes.set _ _).length = 6; rw [List.length_set, hb]) nil hs1 rfl he
    | less r b t => exact bare (p' := .less r b t) rfl rfl ⟨i + 1, hi, by show s.m.here + 1 = _; rw [sc, h]; rfl⟩ hc (by show (s.m.boxes.set _ _).length = 6; rw [List.length_set, hb]) nil hs1 rfl he
    | same r b t => exact bare (p' := .same r b t) rfl rfl ⟨i + 1, hi, by show s.m.here + 1 = _; rw [sc, h]; rfl⟩ hc (by show (s.m.boxes.set _ _).length = 6; rw [List.length_set, hb]) nil hs1 rfl he
  · have r1 := rows_at hp (j := 1) (by rw [w]; decide)
    rw [← h] at r1
    cases p with
    | get r b =>
      refine ⟨.kget r, r1, hpo.1, ⟨a, hx⟩, ?_⟩
      by_cases hin : 0 ≤ a ∧ a < 64
      · have e : stepK (kRows prog).length (.kget r) s = { s with m := chk (kRows prog).length { s.m with steps := s.m.steps + 1, here := s.m.here + 1, boxes := s.m.boxes.set r (s.m.cells.getD a.toNat 0) } } := by
          simp only [stepK, hx, if_pos hin]
        rw [e]
        exact out_chk (i := i + 1) hi hc (by show (s.m.boxes.set _ _).length = 6; rw [List.length_set, hb]) nil hs1 rfl he (by show s.m.here + 1 = _; rw [sc, h]; rfl)
      · have e : stepK (kRows prog).length (.kget r) s = faultK s := by
          simp only [stepK, hx, if_neg hin]
        rw [e]
        exact out_fault I
    | set b t =>
      refine ⟨.kset t, r1, hpo.2, ⟨a, hx⟩, ?_⟩
      by_cases hin : 0 ≤ a ∧ a < 64
      · have e : stepK (kRows prog).length (.kset t) s = { s with m := chk (kRows prog).length { s.m with steps := s.m.steps + 1, here := s.m.here + 1, cells := s.m.cells.set a.toNat (bx s.m t) } } := by
          simp only [stepK, hx, if_pos hin]
        rw [e]
        exact out_chk (i := i + 1) hi (by show (s.m.cells.set _ _).length = 64; rw [List.length_set, hc]) hb nil hs1 rfl he (by show s.m.here + 1 = _; rw [sc, h]; rfl)
      · have e : stepK (kRows prog).length (.kset t) s = faultK s := by
          simp only [stepK, hx, if_neg hin]
        rw [e]
        exact out_fault I
    | _ => exact absurd w (by simp [wd])
theorem nxtK_of {rows : List KR} {s : KM} {q : KR} (h : rows[s.m.here]? = some q) : nxtK rows s = stepK rows.length q s := by
  unfold nxtK
  rw [h]
theorem nxtM_of {m : M} {p : PR} (h : prog[m.here]? = some p) : nxtM prog m = stepM prog.length p m := by
  unfold nxtM
  rw [h]
/-! ### the same -/
structure Rel (prog : List PR) (m : M) (s : KM) : Prop where
  c : s.m.cells = m.cells
  b : s.m.boxes = m.boxes
  t : s.m.said = m.said
  e : (m.en = none ∧ s.m.en = none ∧ m.here < prog.length ∧ s.m.here = begP prog m.here) ∨ (m.en = some endD ∧ s.m.en = some endD) ∨ ∃ i j, m.en = some (faultD i) ∧ s.m.en = some (faultD j) ∧ (orgs prog prog.length)[j]? = some i
def inH (z : Int) : Prop := -10000 ≤ z ∧ z < 10000
def Bnd (m : M) : Prop := (∀ z ∈ m.cells, inH z) ∧ ∀ z ∈ m.boxes, inH z
theorem getD_in {l : List Int} (h : ∀ z ∈ l, inH z) {r : Nat} : inH (l.getD r 0) := by
  rw [List.getD_eq_getElem?_getD]
  cases e : l[r]? with
  | none => exact ⟨by decide, by decide⟩
  | some z => exact h z (List.mem_of_getElem? e)
theorem set_in {l : List Int} (h : ∀ z ∈ l, inH z) {r : Nat} {v : Int} (hv : inH v) : ∀ z ∈ l.set r v, inH z := fun z hz => by
  rcases List.mem_or_eq_of_mem_set hz with q | q
  · exact h z q
  · rw [q]
    exact hv
theorem ring_in {v : Int} : inH (ringI v) := by
  unfold ringI inH
  omega
theorem ring_id {v : Int} (h : inH v) : ringI (0 + v) = v := by
  unfold ringI
  unfold inH at h
  omega
theorem bnd_chk {rows : Nat} {m : M} (h : Bnd m) : Bnd (chk rows m) := by
  unfold Bnd
  rw [chk_c, chk_b]
  exact h
theorem bnd_step {rows : Nat} {p : PR} {m : M} (hp : p.ok rows) (h : Bnd m) : Bnd (stepM rows p m) := by
  have hx : ∀ r, inH (bx m r) := fun r => getD_in h.2
  cases p with
  | fin => exact h
  | go g => exact bnd_chk h
  | iff r g =>
    unfold stepM
    dsimp only
    split
    · exact bnd_chk h
    · exact bnd_chk h
  | get r s =>
    unfold stepM
    dsimp only
    split
    · exact bnd_chk ⟨h.1, set_in h.2 (getD_in h.1)⟩
    · exact h
  | set r t =>
    unfold stepM
    dsimp only
    split
    · exact bnd_chk ⟨set_in h.1 (hx _), h.2⟩
    · exact h
  | say r => exact bnd_chk h
  | put r n => exact bnd_chk ⟨h.1, set_in h.2 hp.2⟩
  | move r s => exact bnd_chk ⟨h.1, set_in h.2 (hx _)⟩
  | add r s t => exact bnd_chk ⟨h.1, set_in h.2 ring_in⟩
  | take r s t => exact bnd_chk ⟨h.1, set_in h.2 ring_in⟩
  | less r s t => exact bnd_chk ⟨h.1, set_in h.2 (by split <;> exact ⟨by decide, by decide⟩)⟩
  | same r s t => exact bnd_chk ⟨h.1, set_in h.2 (by split <;> exact ⟨by decide, by decide⟩)⟩
theorem rel_chk {m k : M} {x : Q} {h : Nat} (c : k.cells = m.cells) (b : k.boxes = m.boxes) (t : k.said = m.said) (em : m.en = none) (ek : k.en = none) (hm : m.here = h) (hk : k.here = begP prog h) (hh : h ≤ prog.length) :
    Rel prog (chk prog.length m) { m := chk (kRows prog).length k, x := x } := by
  refine ⟨?_, ?_, ?_, ?_⟩
  · show (chk _ k).cells = _
    rw [chk_c, chk_c, c]
  · show (chk _ k).boxes = _
    rw [chk_b, chk_b, b]
  · show (chk _ k).said = _
    rw [chk_s, chk_s, t]
  · show ((chk prog.length m).en = none ∧ (chk (kRows prog).length k).en = none ∧ (chk prog.length m).here < prog.length ∧ (chk (kRows prog).length k).here = begP prog (chk prog.length m).here) ∨ ((chk prog.length m).en = some endD ∧ (chk (kRows prog).length k).en = some endD) ∨ _
    by_cases q : h = prog.length
    · rw [chk_yes (by rw [hm, q]), chk_yes (by rw [hk, q, rows_len])]
      exact .inr (.inl ⟨rfl, rfl⟩)
    · have lt : h < prog.length := by omega
      have := begP_lt (prog := prog) (Nat.le_refl _) lt
      rw [chk_no (by rw [hm]; exact q), chk_no (by rw [hk, rows_len]; omega)]
      exact .inl ⟨em, ek, by rw [hm]; exact lt, by rw [hk, hm]⟩
theorem bx_eq {m : M} {s : KM} (h : s.m.boxes = m.boxes) {r : Nat} : bx s.m r = bx m r := by
  unfold bx
  rw [h]
theorem sim_step (hP : ∀ p ∈ prog, p.ok prog.length) {m : M} {s : KM} (R : Rel prog m s) (B : Bnd m) (he : m.en = none) :
    ∃ j, (j = 1 ∨ j = 2) ∧ Rel prog (nxtM prog m) (itK (kRows prog) j s) ∧ (j = 2 → (itK (kRows prog) 1 s).m.en = none) := by
  obtain ⟨hc, hb, ht, hE⟩ := R
  have hE : s.m.en = none ∧ m.here < prog.length ∧ s.m.here = begP prog m.here := by
    rcases hE with ⟨_, h⟩ | ⟨h, _⟩ | ⟨_, _, h, _⟩
    · exact h
    · rw [he] at h
      cases h
    · rw [he] at h
      cases h
  obtain ⟨ek, hi, hh⟩ := hE
  obtain ⟨p, hp⟩ : ∃ p, prog[m.here]? = some p := ⟨_, List.getElem?_eq_getElem hi⟩
  have hpo := hP p (List.mem_of_getElem? hp)
  have sc := begP_succ hp
  have r0 := rows_at hp (j := 0) (wd_pos p)
  rw [Nat.add_zero, ← hh] at r0
  have bX : ∀ r, bx s.m r = bx m r := fun r => bx_eq hb
  have one : ∀ {q}, (kRows prog)[s.m.here]? = some q → Rel prog (stepM prog.length p m) (stepK (kRows prog).length q s) → ∃ j, (j = 1 ∨ j = 2) ∧ Rel prog (nxtM prog m) (itK (kRows prog) j s) ∧ (j = 2 → (itK (kRows prog) 1 s).m.en = none) := by
    intro q h1 h2
    refine ⟨1, .inl rfl, ?_, fun z => by omega⟩
    rw [nxtM_of hp]
    show Rel prog _ (nxtK _ s)
    rw [nxtK_of h1]
    exact h2
  have two : ∀ {q1 q2} {s1 : KM}, (kRows prog)[s.m.here]? = some q1 → stepK (kRows prog).length q1 s = s1 → s1.m.en = none → (kRows prog)[s1.m.here]? = some q2 → Rel prog (stepM prog.length p m) (stepK (kRows prog).length q2 s1) → ∃ j, (j = 1 ∨ j = 2) ∧ Rel prog (nxtM prog m) (itK (kRows prog) j s) ∧ (j = 2 → (itK (kRows prog) 1 s).m.en = none) := by
    intro q1 q2 s1 h1 h2 h3 h4 h5
    have e1 : itK (kRows prog) 1 s = s1 := by
      show nxtK _ s = _
      rw [nxtK_of h1, h2]
    have e2 : itK (kRows prog) 2 s = stepK (kRows prog).length q2 s1 := by
      show nxtK _ (itK (kRows prog) 1 s) = _
      rw [e1, nxtK_of h4]
    refine ⟨2, .inr rfl, ?_, fun _ => by rw [e1]; exact h3⟩
    rw [nxtM_of hp, e2]
    exact h5
  have ne : wd p = 2 → s.m.here + 1 ≠ (kRows prog).length := fun w => by
    rw [w] at sc
    rw [rows_len]
    rcases Nat.lt_or_ge (m.here + 1) prog.length with z | z
    · have := begP_lt (prog := prog) (Nat.le_refl _) z
      omega
    · rw [← show m.here + 1 = prog.length by omega, sc]
      omega
  cases p with
  | fin =>
    exact one (q := .pl .fin) r0 ⟨hc, hb, ht, .inr (.inl ⟨rfl, rfl⟩)⟩
  | go g => exact one (q := .pl (.go (begP prog g))) r0 (rel_chk (h := g) hc hb ht he ek rfl rfl (Nat.le_of_lt hpo))
  | iff r g =>
    refine one (q := .pl (.iff r (begP prog g))) r0 ?_
    simp only [stepK, stepM]
    rw [bX r]
    by_cases z : bx m r = 0
    · rw [if_neg (fun q => q z), if_neg (fun q => q z)]
      exact rel_chk (h := m.here + 1) hc hb ht he ek rfl (by show s.m.here + 1 = _; rw [sc, hh]; rfl) hi
    · rw [if_pos z, if_pos z]
      exact rel_chk (h := g) hc hb ht he ek rfl rfl (Nat.le_of_lt hpo.2)
  | say r => exact one (q := .pl (.say r)) r0 (rel_chk (h := m.here + 1) hc hb (by show s.m.said ++ [bx s.m r] = m.said ++ [bx m r]; rw [ht, bX]) he ek rfl (by show s.m.here + 1 = _; rw [sc, hh]; rfl) hi)
  | get r b =>
    have r1 := rows_at hp (j := 1) (show 1 < 2 by decide)
    have rg := ring_id (getD_in (r := b) B.2)
    have hk : stepK (kRows prog).length (.ad b) s = { m := { s.m with steps := s.m.steps + 1, here := s.m.here + 1 }, x := .k (bx m b) } := by
      show KM.mk (chk _ _) (.k (ringI (0 + bx s.m b))) = _
      rw [bX, show ringI (0 + bx m b) = bx m b from rg, chk_no (by exact ne rfl)]
    refine two (q1 := .ad b) (q2 := .kget r) r0 hk ek (by show (kRows prog)[s.m.here + 1]? = _; rw [hh]; exact r1) ?_
    have hin := Classical.em (0 ≤ bx m b ∧ bx m b < 64)
    rcases hin with hin | hin
    · simp only [stepK, stepM, if_pos hin]
      exact rel_chk (h := m.here + 1) hc (by show s.m.boxes.set _ (s.m.cells.getD _ _) = m.boxes.set _ (m.cells.getD _ _); rw [hb, hc]) ht he ek rfl (by show s.m.here + 1 + 1 = _; rw [sc, hh]; rfl) hi
    · simp only [stepK, stepM, if_neg hin]
      exact ⟨hc, hb, ht, .inr (.inr ⟨m.here, s.m.here + 1, rfl, rfl, by rw [hh]; exact orgs_at hp (j := 1) (show 1 < 2 by decide) (Nat.le_refl _) hi⟩)⟩
  | set b t =>
    have r1 := rows_at hp (j := 1) (show 1 < 2 by decide)
    have rg := ring_id (getD_in (r := b) B.2)
    have hk : stepK (kRows prog).length (.ad b) s = { m := { s.m with steps := s.m.steps + 1, here := s.m.here + 1 }, x := .k (bx m b) } := by
      show KM.mk (chk _ _) (.k (ringI (0 + bx s.m b))) = _
      rw [bX, show ringI (0 + bx m b) = bx m b from rg, chk_no (by exact ne rfl)]
    refine two (q1 := .ad b) (q2 := .kset t) r0 hk ek (by show (kRows prog)[s.m.here + 1]? = _; rw [hh]; exact r1) ?_
    have hin := Classical.em (0 ≤ bx m b ∧ bx m b < 64)
    rcases hin with hin | hin
    · simp only [stepK, stepM, if_pos hin]
      exact rel_chk (h := m.here + 1) (by show s.m.cells.set _ (bx s.m t) = m.cells.set _ (bx m t); rw [hc, bX]) hb ht he ek rfl (by show s.m.here + 1 + 1 = _; rw [sc, hh]; rfl) hi
    · simp only [stepK, stepM, if_neg hin]
      exact ⟨hc, hb, ht, .inr (.inr ⟨m.here, s.m.here + 1, rfl, rfl, by rw [hh]; exact orgs_at hp (j := 1) (show 1 < 2 by decide) (Nat.le_refl _) hi⟩)⟩
  | put r n => exact one (q := .pl (.put r n)) r0 (rel_chk (h := m.here + 1) hc (by show s.m.boxes.set _ _ = m.boxes.set _ _; rw [hb]) ht he ek rfl (by show s.m.here + 1 = _; rw [sc, hh]; rfl) hi)
  | move r b => exact one (q := .pl (.move r b)) r0 (rel_chk (h := m.here + 1) hc (by show s.m.boxes.set _ (bx s.m _) = m.boxes.set _ (bx m _); rw [hb, bX]) ht he ek rfl (by show s.m.here + 1 = _; rw [sc, hh]; rfl) hi)
  | add r b t => exact one (q := .pl (.add r b t)) r0 (rel_chk (h := m.here + 1) hc (by show s.m.boxes.set _ (ringI (bx s.m _ + bx s.m _)) = m.boxes.set _ (ringI (bx m _ + bx m _)); rw [hb, bX, bX]) ht he ek rfl (by show s.m.here + 1 = _; rw [sc, hh]; rfl) hi)
  | take r b t => exact one (q := .pl (.take r b t)) r0 (rel_chk (h := m.here + 1) hc (by show s.m.boxes.set _ (ringI (bx s.m _ - bx s.m _)) = m.boxes.set _ (ringI (bx m _ - bx m _)); rw [hb, bX, bX]) ht he ek rfl (by show s.m.here + 1 = _; rw [sc, hh]; rfl) hi)
  | less r b t => exact one (q := .pl (.less r b t)) r0 (rel_chk (h := m.here + 1) hc (by show s.m.boxes.set _ (if bx s.m _ < bx s.m _ then 1 else 0) = m.boxes.set _ (if bx m _ < bx m _ then 1 else 0); rw [hb, bX, bX]) ht he ek rfl (by show s.m.here + 1 = _; rw [sc, hh]; rfl) hi)
  | same r b t => exact one (q := .pl (.same r b t)) r0 (rel_chk (h := m.here + 1) hc (by show s.m.boxes.set _ (if bx s.m _ = bx s.m _ then 1 else 0) = m.boxes.set _ (if bx m _ = bx m _ then 1 else 0); rw [hb, bX, bX]) ht he ek rfl (by show s.m.here + 1 = _; rw [sc, hh]; rfl) hi)
theorem nxt_okM (hP : ∀ p ∈ prog, p.ok prog.length) {m : M} (ok : m.Ok prog.length) (he : m.en = none) : (nxtM prog m).Ok prog.length ∧ (nxtM prog m).steps = m.steps + 1 := by
  have hp := List.getElem?_eq_getElem (ok.h he)
  rw [nxtM_of hp]
  exact ⟨stepM_ok ok he (hP _ (List.mem_of_getElem? hp)), stepM_steps⟩
theorem nxt_okK (hP : ∀ p ∈ prog, p.ok prog.length) (hn : prog.length ≤ 60) {s : KM} (I : Inv prog s) (he : s.m.en = none) : Out prog s (nxtK (kRows prog) s) := by
  obtain ⟨q, h1, h2, h3, h4⟩ := inv_step hP hn I he
  rw [nxtK_of h1]
  exact h4
theorem sim (hP : ∀ p ∈ prog, p.ok prog.length) (hn : prog.length ≤ 60) {m : M} {s : KM} (R : Rel prog m s) (B : Bnd m) (ok : m.Ok prog.length) : ∀ i, (∀ k, k < i → (itM prog k m).en = none) →
    ∃ j, j ≤ 2 * i ∧ Rel prog (itM prog i m) (itK (kRows prog) j s) ∧ Bnd (itM prog i m) ∧ (itM prog i m).Ok prog.length ∧ ∀ k, k < j → (itK (kRows prog) k s).m.en = none
  | 0, _ => ⟨0, Nat.le_refl _, R, B, ok, fun k h => by omega⟩
  | i + 1, h => by
    obtain ⟨j, h1, h2, h3, h4, h5⟩ := sim hP hn R B ok i fun k hk => h k (by omega)
    have he := h i (by omega)
    obtain ⟨d, hd, h6, h7⟩ := sim_step hP h2 h3 he
    have hp := List.getElem?_eq_getElem (h4.h he)
    have o := nxt_okM hP h4 he
    have b2 : Bnd (nxtM prog (itM prog i m)) := by
      rw [nxtM_of hp]
      exact bnd_step (hP _ (List.mem_of_getElem? hp)) h3
    have ej : (itK (kRows prog) j s).m.en = none := by
      rcases h2.e with ⟨_, q, _⟩ | ⟨q, _⟩ | ⟨_, _, q, _⟩
      · exact q
      · rw [he] at q
        cases q
      · rw [he] at q
        cases q
    rcases hd with rfl | rfl
    · refine ⟨j + 1, by omega, h6, b2, o.1, fun k hk => ?_⟩
      rcases Nat.lt_or_ge k j with q | q
      · exact h5 k q
      · rw [show k = j by omega]
        exact ej
    · refine ⟨j + 2, by omega, h6, b2, o.1, fun k hk => ?_⟩
      rcases Nat.lt_or_ge k j with q | q
      · exact h5 k q
      · rcases Nat.lt_or_ge k (j + 1) with q2 | q2
        · rw [show k = j by omega]
          exact ej
        · rw [show k = j + 1 by omega]
          exact h7 rfl
def s0K (cells : List Int) : KM := { m := m0 cells, x := .n 0 }
def finK (prog : List PR) (cells : List Int) : KM := runK (kRows prog) 3000 fuelN (s0K cells)
theorem s0_inv {cells : List Int} (hl : cells.length = 64) (h0 : prog ≠ []) : Inv prog (s0K cells) := by
  have lt := List.length_pos_iff.mpr h0
  have := begP_lt (prog := prog) (Nat.le_refl _) lt
  exact ⟨⟨hl, rfl, fun _ => by show 0 < _; rw [rows_len]; exact Nat.lt_of_le_of_lt (Nat.zero_le _) this, Nat.le_refl _, fun d z => nomatch z⟩, fun _ => ⟨0, prog[0], List.getElem?_eq_getElem lt, .inl rfl⟩⟩
theorem s0_rel {cells : List Int} (h0 : prog ≠ []) : Rel prog (m0 cells) (s0K cells) :=
  ⟨rfl, rfl, rfl, .inl ⟨rfl, rfl, List.length_pos_iff.mpr h0, rfl⟩⟩
theorem m0_bnd {cells : List Int} (h : ∀ z ∈ cells, inH z) : Bnd (m0 cells) := ⟨h, fun z hz => by
  have e : z = 0 := by
    simp only [m0, List.mem_cons, List.not_mem_nil, or_false] at hz
    omega
  rw [e]
  exact ⟨by decide, by decide⟩⟩
theorem inv_it (hP : ∀ p ∈ prog, p.ok prog.length) (hn : prog.length ≤ 60) {s : KM} (I : Inv prog s) : ∀ j, (∀ k, k < j → (itK (kRows prog) k s).m.en = none) → Inv prog (itK (kRows prog) j s)
  | 0, _ => I
  | j + 1, h => (nxt_okK hP hn (inv_it hP hn I j fun k hk => h k (by omega)) (h j (by omega))).1
theorem said_it (hP : ∀ p ∈ prog, p.ok prog.length) (hn : prog.length ≤ 60) {s : KM} (I : Inv prog s) (j : Nat) : ∀ d, (∀ k, k < j + d → (itK (kRows prog) k s).m.en = none) → ∃ l, (itK (kRows prog) (j + d) s).m.said = (itK (kRows prog) j s).m.said ++ l
  | 0, _ => ⟨[], by rw [List.append_nil]; rfl⟩
  | d + 1, h => by
    obtain ⟨l, e⟩ := said_it hP hn I j d fun k hk => h k (by omega)
    obtain ⟨_, _, l2, e2⟩ := nxt_okK hP hn (inv_it hP hn I (j + d) fun k hk => h k (by omega)) (h (j + d) (by omega))
    exact ⟨l ++ l2, by show (nxtK (kRows prog) (itK (kRows prog) (j + d) s)).m.said = _; rw [e2, e, List.append_assoc]⟩
/-- how the two runs end -/
theorem same (hP : ∀ p ∈ prog, p.ok prog.length) (hn : prog.length ≤ 30) (h0 : prog ≠ []) {cells : List Int} (hl : cells.length = 64) (hc : ∀ z ∈ cells, inH z) :
    ∃ t, finK prog cells = itK (kRows prog) t (s0K cells) ∧ (∀ k, k < t → (itK (kRows prog) k (s0K cells)).m.en = none) ∧ (finK prog cells).m.steps = t ∧ t ≤ 3000 ∧ Inv prog (finK prog cells) ∧
      ((fin prog cells 150).en ≠ none → Rel prog (fin prog cells 150) (finK prog cells)) ∧ ∃ l, (finK prog cells).m.said = (fin prog cells 150).said ++ l := by
  have hn2 : prog.length ≤ 60 := by omega
  have I := s0_inv (prog := prog) hl h0
  have hN : (fuelN : Nat) = 1000000 := rfl
  obtain ⟨i, a1, a2, a3, a4⟩ := runM_it (prog := prog) (fuel := 150) fuelN (m0 cells) (fun _ => List.length_pos_iff.mpr h0) (fun m ok he => nxt_okM hP ok he) (m0_ok hl h0) (by rw [hN]; show (150 : Int) - ((0 : Nat) : Int) < _; omega)
  obtain ⟨t, b1, b2, b3, b4⟩ := runK_it (rows := kRows prog) (fuel := 3000) (Inv prog) (fun m ok he => ⟨(nxt_okK hP hn2 ok he).1, (nxt_okK hP hn2 ok he).2.1⟩) fuelN (s0K cells) I (by rw [hN]; show (3000 : Int) - ((0 : Nat) : Int) < _; omega)
  obtain ⟨j, c1, c2, c3, c4, c5⟩ := sim hP hn2 (s0_rel (cells := cells) h0) (m0_bnd hc) (m0_ok hl h0) i fun k hk => (a2 k hk).1
  have z0 : (m0 cells).steps = 0 := rfl
  have z1 : (s0K cells).m.steps = 0 := rfl
  have steps : ∀ k, (∀ k', k' < k → (itK (kRows prog) k' (s0K cells)).m.en = none) → (itK (kRows prog) k (s0K cells)).m.steps = k := by
    intro k
    induction k with
    | zero => intro _; rfl
    | succ k ih =>
      intro h
      have := (nxt_okK hP hn2 (inv_it hP hn2 I k fun k' hk => h k' (by omega)) (h k (by omega))).2.1
      rw [ih fun k' hk => h k' (by omega)] at this
      exact this
  have stepsM : ∀ k, k ≤ i → (itM prog k (m0 cells)).Ok prog.length ∧ (itM prog k (m0 cells)).steps = k := by
    intro k
    induction k with
    | zero => intro _; exact ⟨m0_ok hl h0, rfl⟩
    | succ k ih =>
      intro h
      obtain ⟨o1, o2⟩ := ih (by omega)
      obtain ⟨o3, o4⟩ := nxt_okM hP o1 (a2 k (by omega)).1
      exact ⟨o3, by show (nxtM prog (itM prog k (m0 cells))).steps = _; rw [o4, o2]⟩
  have hi : i ≤ 150 := by
    rcases Nat.eq_zero_or_pos i with q | q
    · omega
    · have := (a2 (i - 1) (by omega)).2
      rw [(stepsM (i - 1) (by omega)).2] at this
      omega
  have hal := fun k (hk : k < t) => (b2 k hk).1
  have ht : t ≤ 3000 := by
    rcases Nat.eq_zero_or_pos t with q | q
    · omega
    · have := (b2 (t - 1) (by omega)).2
      rw [steps (t - 1) fun k' hk => hal k' (by omega)] at this
      omega
  have hjt : j ≤ t := by
    rcases Nat.lt_or_ge t j with q | q
    · have e := c5 t q
      rcases b3 with b3 | b3
      · exact absurd e b3
      · rw [steps t hal] at b3
        omega
    · exact q
  have eF : fin prog cells 150 = itM prog i (m0 cells) := a1
  have eK : finK prog cells = itK (kRows prog) t (s0K cells) := b1
  refine ⟨t, eK, hal, ?_, ht, ?_, ?_, ?_⟩
  · rw [eK, steps t hal]
  · rw [eK]
    exact inv_it hP hn2 I t hal
  · intro hne
    rw [eF] at hne ⊢
    rw [eK]
    have : t = j := by
      rcases Nat.lt_or_ge j t with q | q
      · have e := hal j q
        rcases c2.e with ⟨q2, _⟩ | ⟨_, q2⟩ | ⟨_, _, _, q2, _⟩
        · exact absurd q2 hne
        · rw [e] at q2
          cases q2
        · rw [e] at q2
          cases q2
      · omega
    rw [this]
    exact c2
  · obtain ⟨l, e⟩ := said_it hP hn2 I j (t - j) fun k hk => hal k (by omega)
    rw [show j + (t - j) = t by omega] at e
    exact ⟨l, by rw [eK, e, eF, c2.t]⟩
end
end K16

set_option Elab.async false
set_option linter.all false
set_option maxRecDepth 100000
set_option maxHeartbeats 4000000
/-! K16V: keyed; programs by one key can be. -/
namespace K16
open PySem Tg L2
open SX (S)
def nD (i : Nat) : D := .int (i : Int)
def kb1 : MS := (mSeq (mDrop (mMt "list" appD (mv 1) (mCons (mCall lenD (mCons (mv 2) mNil)) mNil)))
  (mDrop (mMt "list" extD (mv 2) (mCons (mBin mulD (mLst (mCons (mv 3) mNil)) (mIf (mTb (mBin inD (mBin ixD (mBin ixD (mv 0) (mv 3)) (mc (.int (0)))) (mTup (mCons (mc (.str "get")) (mCons (mc (.str "set")) mNil))))) (mc (.int (2))) (mc (.int (1))))) mNil))))
def kb2 : MS := (mIfS (mTb (mBin eqD (mBin ixD (mv 5) (mc (.int (0)))) (mc (.str "get")))) (mDrop (mMt "list" extD (mv 4) (mCons (mLst (mCons (mTup (mCons (mc (.str "add")) (mCons (mc g_PLACE) (mCons (mc g_WHOLE) (mCons (mBin ixD (mv 5) (mc (.int (2)))) mNil))))) (mCons (mTup (mCons (mc (.str "get")) (mCons (mBin ixD (mv 5) (mc (.int (1)))) (mCons (mc g_PLACE) (mCons (mc (.int (0))) mNil))))) mNil))) mNil))) (mIfS (mTb (mBin eqD (mBin ixD (mv 5) (mc (.int (0)))) (mc (.str "set")))) (mDrop (mMt "list" extD (mv 4) (mCons (mLst (mCons (mTup (mCons (mc (.str "add")) (mCons (mc g_PLACE) (mCons (mc g_WHOLE) (mCons (mBin ixD (mv 5) (mc (.int (1)))) mNil))))) (mCons (mTup (mCons (mc (.str "set")) (mCons (mc g_PLACE) (mCons (mc (.int (0))) (mCons (mBin ixD (mv 5) (mc (.int (3)))) mNil))))) mNil))) mNil))) (mIfS (mTb (mBin inD (mBin ixD (mv 5) (mc (.int (0)))) (mTup (mCons (mc (.str "go")) (mCons (mc (.str "if")) mNil))))) (mDrop (mMt "list" appD (mv 4) (mCons (mBin addD (mSl (mv 5) mNoPart (mPart (mUn negD (mc (.int (1)))))) (mTup (mCons (mBin ixD (mv 1) (mBin ixD (mv 5) (mUn negD (mc (.int (1)))))) mNil))) mNil))) (mDrop (mMt "list" appD (mv 4) (mCons (mv 5) mNil))))))
def kr : MS := (mRet (mTup (mCons (mCall tupD (mCons (mv 4) mNil)) (mCons (mCall tupD (mCons (mv 2) mNil)) mNil))))
theorem flat1 {d : D} : ∀ k : Nat, (List.replicate k [d]).flatten = List.replicate k d
  | 0 => rfl
  | k + 1 => by
    rw [List.replicate_succ, List.replicate_succ, List.flatten_cons, flat1 k]
    rfl
theorem mulL {d : D} {k : Nat} {A : AH} (hk : k ≤ 1000) : mulD (.lst [d]) (.int (k : Int)) A = .ok (.lst (List.replicate k d)) A := by
  simp only [mulD, lstL]
  rw [Int.toNat_natCast, if_pos ⟨by omega, by omega, by rw [List.length_singleton]; omega⟩]
  unfold repD
  rw [flat1]
theorem ext_ref {n : Nat} {ds es : List D} {A : AH} (hA : A[n]? = some (.lst ds)) (h : ds.length + es.length ≤ 16777216) : extD (.ref n) [.lst es] A = .ok .non (A.set n (.lst (ds ++ es))) := by
  have e : extD (.ref n) [.lst es] A = match A[n]?, lstL A (.lst es) with
    | some (.lst ds), some es => if ds.length + es.length ≤ 16777216 then .ok .non (A.set n (.lst (ds ++ es))) else .bad
    | _, _ => .bad := rfl
  rw [e, hA]
  show (if ds.length + es.length ≤ 16777216 then _ else _) = _
  rw [if_pos h]
theorem app_at {n : Nat} {d : D} {ds : List D} {A : AH} (hA : A[n]? = some (.lst ds)) (h : ds.length < 16777216) : appD (.ref n) [d] A = .ok .non (A.set n (.lst (ds ++ [d]))) := by
  rw [app_ref, hA]
  dsimp only
  rw [if_pos h]
theorem ty_ref {n : Nat} {ds : List D} {A : AH} (hA : A[n]? = some (.lst ds)) : tyMD A "list" (.ref n) = true := by simp [tyMD, seq_ref, hA]
def AB (A0 : AH) (b o : List Nat) : AH := A0 ++ [.lst (b.map nD), .lst (o.map nD)]
section
variable {prog : List PR} {A0 : AH} {o4 o5 : Option D}
theorem kb1_ok {b o : List Nat} {j : Nat} {p : PR} (hp : prog[j]? = some p) (hb : b.length ≤ 60) (ho : o.length ≤ 60) :
    kb1 [some (.tup (prog.map PR.d)), some (.ref A0.length), some (.ref (A0.length + 1)), some (nD j), o4, o5] (AB A0 b o) = .nx [some (.tup (prog.map PR.d)), some (.ref A0.length), some (.ref (A0.length + 1)), some (nD j), o4, o5] (AB A0 (b ++ [o.length]) (o ++ List.replicate (wd p) j)) := by
  have hq : ∀ B, ixD (.tup (prog.map PR.d)) (nD j) B = .ok p.d B := fun B => ix_tup (by
    show atI _ (j : Int) = _
    rw [Tg.atI_nat, List.getElem?_map, hp]
    rfl)
  have a1 : (AB A0 b o)[A0.length]? = some (.lst (b.map nD)) := by simp [AB]
  have a2 : (AB A0 b o)[A0.length + 1]? = some (.lst (o.map nD)) := by simp [AB]
  have a3 : (AB A0 (b ++ [o.length]) o)[A0.length + 1]? = some (.lst (o.map nD)) := by simp [AB]
  have c1 : mDrop (mMt "list" appD (mv 1) (mCons (mCall lenD (mCons (mv 2) mNil)) mNil)) [some (.tup (prog.map PR.d)), some (.ref A0.length), some (.ref (A0.length + 1)), some (nD j), o4, o5] (AB A0 b o) = .nx [some (.tup (prog.map PR.d)), some (.ref A0.length), some (.ref (A0.length + 1)), some (nD j), o4, o5] (AB A0 (b ++ [o.length]) o) := by
    have l : lenD [.ref (A0.length + 1)] (AB A0 b o) = .ok (nD o.length) (AB A0 b o) := by
      simp [len_ref, a2, nD]
    have e : (AB A0 b o).set A0.length (.lst (b.map nD ++ [nD o.length])) = AB A0 (b ++ [o.length]) o := by simp [AB]
    refine drop_ok (d := .non) (mt_ok rfl (ty_ref a1) (cons_ok (call_ok (cons_ok rfl rfl) l) rfl) ((app_at a1 (by rw [List.length_map]; omega)).trans ?_))
    rw [e]
  have c2 : (mIf (mTb (mBin inD (mBin ixD (mBin ixD (mv 0) (mv 3)) (mc (.int (0)))) (mTup (mCons (mc (.str "get")) (mCons (mc (.str "set")) mNil))))) (mc (.int (2))) (mc (.int (1)))) [some (.tup (prog.map PR.d)), some (.ref A0.length), some (.ref (A0.length + 1)), some (nD j), o4, o5] (AB A0 (b ++ [o.length]) o) = .ok (.int (wd p : Nat)) (AB A0 (b ++ [o.length]) o) := by
    generalize AB A0 (b ++ [o.length]) o = B
    cases p <;> simp [hq, PR.d, in_str, wd]
  have e : (AB A0 (b ++ [o.length]) o).set (A0.length + 1) (.lst (o.map nD ++ List.replicate (wd p) (nD j))) = AB A0 (b ++ [o.length]) (o ++ List.replicate (wd p) j) := by
    simp [AB, List.map_replicate]
  have hw := wd_le p
  refine seq_nx c1 (drop_ok (d := .non) (mt_ok rfl (ty_ref a3) (cons_ok (bin_ok (show (mLst (mCons (mv 3) mNil)) _ _ = .ok (.lst [nD j]) _ from rfl) c2 (mulL (by omega))) rfl) ((ext_ref a3 (by rw [List.length_map, List.length_replicate]; omega)).trans ?_)))
  rw [e]
def AR (A0 : AH) (b o : List Nat) (rs : List D) : AH := A0 ++ [.lst (b.map nD), .lst (o.map nD), .lst rs]
theorem kb2_ok {o : List Nat} {rs : List D} {p : PR} {o3 : Option D} (hp : p.ok prog.length) (hr : rs.length ≤ 60) :
    kb2 [some (.tup (prog.map PR.d)), some (.ref A0.length), some (.ref (A0.length + 1)), o3, some (.ref (A0.length + 2)), some p.d] (AR A0 ((List.range prog.length).map (begP prog)) o rs) = .nx [some (.tup (prog.map PR.d)), some (.ref A0.length), some (.ref (A0.length + 1)), o3, some (.ref (A0.length + 2)), some p.d] (AR A0 ((List.range prog.length).map (begP prog)) o (rs ++ (kof (begP prog) p).map KR.d)) := by
  have a1 : (AR A0 ((List.range prog.length).map (begP prog)) o rs)[A0.length]? = some (.lst (((List.range prog.length).map (begP prog)).map nD)) := by simp [AR]
  have a3 : (AR A0 ((List.range prog.length).map (begP prog)) o rs)[A0.length + 2]? = some (.lst rs) := by simp [AR]
  have hs : ∀ rs', (AR A0 ((List.range prog.length).map (begP prog)) o rs).set (A0.length + 2) (.lst rs') = AR A0 ((List.range prog.length).map (begP prog)) o rs' := fun rs' => by simp [AR]
  have bg : ∀ {g : Nat}, g < prog.length → ixD (.ref A0.length) (.int (g : Int)) (AR A0 ((List.range prog.length).map (begP prog)) o rs) = .ok (.int (begP prog g : Nat)) (AR A0 ((List.range prog.length).map (begP prog)) o rs) := fun {g} hg => ix_ref a1 (by
    rw [Tg.atI_nat, List.map_map, List.getElem?_map, List.getElem?_range hg]
    rfl)
  have ext : ∀ es : List D, es.length ≤ 2 → extD (.ref (A0.length + 2)) [.lst es] (AR A0 ((List.range prog.length).map (begP prog)) o rs) = .ok .non (AR A0 ((List.range prog.length).map (begP prog)) o (rs ++ es)) := fun es he => by
    rw [ext_ref a3 (by omega), hs]
  have app : ∀ e : D, appD (.ref (A0.length + 2)) [e] (AR A0 ((List.range prog.length).map (begP prog)) o rs) = .ok .non (AR A0 ((List.range prog.length).map (begP prog)) o (rs ++ [e])) := fun e => by
    rw [app_at a3 (by omega), hs]
  have ty := ty_ref a3
  have low : ∀ (x : D) (w : String), (∀ B, ixD x (.int 0) B = .ok (.str w) B) → w ≠ "get" → w ≠ "set" → w ≠ "go" → w ≠ "if" →
      kb2 [some (.tup (prog.map PR.d)), some (.ref A0.length), some (.ref (A0.length + 1)), o3, some (.ref (A0.length + 2)), some x] (AR A0 ((List.range prog.length).map (begP prog)) o rs) = .nx [some (.tup (prog.map PR.d)), some (.ref A0.length), some (.ref (A0.length + 1)), o3, some (.ref (A0.length + 2)), some x] (AR A0 ((List.range prog.length).map (begP prog)) o (rs ++ [x])) := by
    intro x w h0 h1 h2 h3 h4
    refine ifS_f (bin_ok (bin_ok rfl rfl (h0 _)) rfl (by rw [eq_st, decide_eq_false h1])) (ifS_f (bin_ok (bin_ok rfl rfl (h0 _)) rfl (by rw [eq_st, decide_eq_false h2])) (ifS_f (bin_ok (bin_ok rfl rfl (h0 _)) rfl ?_) (drop_ok (d := .non) (mt_ok rfl ty (cons_ok rfl rfl) (app x)))))
    simp [in_str, h3, h4]
    exact ⟨fun q => h3 q.symm, fun q => h4 q.symm⟩
  have goes : ∀ (x y : D) (w : String) (l : List D) (g : Nat), (∀ B, ixD x (.int 0) B = .ok (.str w) B) → (w = "go" ∨ w = "if") → g < prog.length → (∀ B, ixD x (.int (-1)) B = .ok (.int (g : Int)) B) → (∀ B, slD x none (some (-1)) B = .ok (.tup l) B) → l.length ≤ 3 → .tup (l ++ [.int (begP prog g : Nat)]) = y →
      kb2 [some (.tup (prog.map PR.d)), some (.ref A0.length), some (.ref (A0.length + 1)), o3, some (.ref (A0.length + 2)), some x] (AR A0 ((List.range prog.length).map (begP prog)) o rs) = .nx [some (.tup (prog.map PR.d)), some (.ref A0.length), some (.ref (A0.length + 1)), o3, some (.ref (A0.length + 2)), some x] (AR A0 ((List.range prog.length).map (begP prog)) o (rs ++ [y])) := by
    intro x y w l g h0 h1 hg h2 h3 hl hy
    have n1 : w ≠ "get" := by rcases h1 with rfl | rfl <;> decide
    have n2 : w ≠ "set" := by rcases h1 with rfl | rfl <;> decide
    have sl : (mSl (mv 5) mNoPart (mPart (mUn negD (mc (.int (1)))))) [some (.tup (prog.map PR.d)), some (.ref A0.length), some (.ref (A0.length + 1)), o3, some (.ref (A0.length + 2)), some x] (AR A0 ((List.range prog.length).map (begP prog)) o rs) = .ok (.tup l) (AR A0 ((List.range prog.length).map (begP prog)) o rs) := by
      simp [h3]
    have ad : addD (.tup l) (.tup [.int (begP prog g : Nat)]) (AR A0 ((List.range prog.length).map (begP prog)) o rs) = .ok y (AR A0 ((List.range prog.length).map (begP prog)) o rs) := by
      show (if l.length + 1 ≤ 16777216 then R.ok (D.tup (l ++ [.int (begP prog g : Nat)])) _ else .bad) = _
      rw [if_pos (by omega), hy]
    have t2 : (mTup (mCons (mBin ixD (mv 1) (mBin ixD (mv 5) (mUn negD (mc (.int (1)))))) mNil)) [some (.tup (prog.map PR.d)), some (.ref A0.length), some (.ref (A0.length + 1)), o3, some (.ref (A0.length + 2)), some x] (AR A0 ((List.range prog.length).map (begP prog)) o rs) = .ok (.tup [.int (begP prog g : Nat)]) (AR A0 ((List.range prog.length).map (begP prog)) o rs) := by
      simp [h2, bg hg]
    refine ifS_f (bin_ok (bin_ok rfl rfl (h0 _)) rfl (by rw [eq_st, decide_eq_false n1])) (ifS_f (bin_ok (bin_ok rfl rfl (h0 _)) rfl (by rw [eq_st, decide_eq_false n2])) (ifS_t (bin_ok (bin_ok rfl rfl (h0 _)) rfl ?_) (drop_ok (d := .non) (mt_ok rfl ty (cons_ok (bin_ok sl t2 ad) rfl) (app y)))))
    rcases h1 with rfl | rfl <;> simp [in_str]
  cases p with
  | get r s => exact ifS_t (bin_ok (bin_ok rfl rfl (ix_tup at0)) rfl (by rw [eq_st]; rfl)) (drop_ok (d := .non) (mt_ok rfl ty (cons_ok (d := .lst [(KR.ad s).d, (KR.kget r).d]) rfl rfl) (ext _ (Nat.le_refl 2))))
  | set r t => exact ifS_f (bin_ok (bin_ok rfl rfl (ix_tup at0)) rfl (by rw [eq_st]; rfl)) (ifS_t (bin_ok (bin_ok rfl rfl (ix_tup at0)) rfl (by rw [eq_st]; rfl)) (drop_ok (d := .non) (mt_ok rfl ty (cons_ok (d := .lst [(KR.ad r).d, (KR.kset t).d]) rfl rfl) (ext _ (Nat.le_refl 2)))))
  | go g => exact goes _ _ "go" [.str "go"] g (fun _ => ix_tup at0) (.inl rfl) hp (fun _ => ix_tup rfl) (fun B => by show R.ok (D.tup (cutD _ _ _)) B = _; simp [cutD, HT.sIx]) (by decide) rfl
  | iff r g => exact goes _ _ "if" [.str "if", .int r] g (fun _ => ix_tup at0) (.inr rfl) hp.2 (fun _ => ix_tup rfl) (fun B => by show R.ok (D.tup (cutD _ _ _)) B = _; simp [cutD, HT.sIx]) (by simp) rfl
  | fin => exact low _ "end" (fun _ => ix_tup at0) (by decide) (by decide) (by decide) (by decide)
  | say r => exact low _ "say" (fun _ => ix_tup at0) (by decide) (by decide) (by decide) (by decide)
  | put r n => exact low _ "put" (fun _ => ix_tup at0) (by decide) (by decide) (by decide) (by decide)
  | move r s => exact low _ "move" (fun _ => ix_tup at0) (by decide) (by decide) (by decide) (by decide)
  | add r s t => exact low _ "add" (fun _ => ix_tup at0) (by decide) (by decide) (by decide) (by decide)
  | take r s t => exact low _ "take" (fun _ => ix_tup at0) (by decide) (by decide) (by decide) (by decide)
  | less r s t => exact low _ "less" (fun _ => ix_tup at0) (by decide) (by decide) (by decide) (by decide)
  | same r s t => exact low _ "same" (fun _ => ix_tup at0) (by decide) (by decide) (by decide) (by decide)
theorem orgs_succ {j : Nat} {p : PR} (h : prog[j]? = some p) : orgs prog (j + 1) = orgs prog j ++ List.replicate (wd p) j := by
  show (orgs prog j ++ (match prog[j]? with
    | some p => List.replicate (wd p) j
    | none => [])) = _
  rw [h]
theorem keyed_ok {A : AH} (hP : ∀ p ∈ prog, p.ok prog.length) (h0 : prog ≠ []) (h1 : prog.length ≤ 30) : ∃ l, m_keyed [.tup (prog.map PR.d)] A = .ok (.tup [.tup ((kRows prog).map KR.d), .tup ((orgs prog prog.length).map nD)]) (A ++ l) := by
  have e0 : m_keyed [.tup (prog.map PR.d)] A = finS (mSeq (mDrop (mCall m_need_plain (mCons (mv 0) mNil))) (mSeq (mAsg (mLstN mNil) (gmN 1)) (mSeq (mAsg (mLstN mNil) (gmN 2)) (mSeq (mFor (mRng1 (mCons (mCall lenD (mCons (mv 0) mNil)) mNil)) (gmN 3) kb1) (mSeq (mAsg (mLstN mNil) (gmN 4)) (mSeq (mFor (miAny (mv 0)) (gmN 5) kb2) kr))))) [some (.tup (prog.map PR.d)), none, none, none, none, none] A) := rfl
  have hb : ∀ j, j ≤ prog.length → (orgs prog j).length ≤ 60 := fun j hj => by
    rw [orgs_len hj]
    have := begP_le hj
    omega
  have c1 : mDrop (mCall m_need_plain (mCons (mv 0) mNil)) [some (.tup (prog.map PR.d)), none, none, none, none, none] A = .nx [some (.tup (prog.map PR.d)), none, none, none, none, none] A := drop_ok (call_ok (cons_ok rfl rfl) (need_plain_ok hP h0 h1))
  have c2 : mAsg (mLstN mNil) (gmN 1) [some (.tup (prog.map PR.d)), none, none, none, none, none] A = .nx [some (.tup (prog.map PR.d)), some (.ref A.length), none, none, none, none] (A ++ [.lst []]) := rfl
  have c3 : mAsg (mLstN mNil) (gmN 2) [some (.tup (prog.map PR.d)), some (.ref A.length), none, none, none, none] (A ++ [.lst []]) = .nx [some (.tup (prog.map PR.d)), some (.ref A.length), some (.ref (A.length + 1)), none, none, none] (AB A [] []) := by
    simp [AB]
  obtain ⟨s', A', e4, o3, rfl, rfl⟩ := mFor_at (g := gmN 3) (b := kb1) (mi := mRng1 (mCons (mCall lenD (mCons (mv 0) mNil)) mNil)) (it := .data ((List.range prog.length).map fun i : Nat => D.int (i : Int))) (ds := (List.range prog.length).map fun i : Nat => D.int (i : Int)) (s := [some (.tup (prog.map PR.d)), some (.ref A.length), some (.ref (A.length + 1)), none, none, none]) (A := AB A [] []) (A1 := AB A [] [])
    (fun j s' A' => ∃ o3, s' = [some (.tup (prog.map PR.d)), some (.ref A.length), some (.ref (A.length + 1)), o3, none, none] ∧ A' = AB A ((List.range j).map (begP prog)) (orgs prog j))
    (rngP (by omega)) rfl ⟨none, rfl, rfl⟩ (fun _ _ _ _ => rfl) (fun j d s' A' hd hI => by
      obtain ⟨o3, rfl, rfl⟩ := hI
      have hj : j < prog.length := by
        have := (List.getElem?_eq_some_iff.mp hd).1
        rwa [List.length_map, List.length_range] at this
      have ed : d = nD j := by
        rw [List.getElem?_map, List.getElem?_range hj] at hd
        exact (Option.some.inj hd).symm
      subst ed
      have hp := List.getElem?_eq_getElem hj
      refine ⟨_, _, _, rfl, kb1_ok hp (by rw [List.length_map, List.length_range]; omega) (hb j (by omega)), some (nD j), rfl, ?_⟩
      rw [orgs_len (by omega), ← orgs_succ hp, List.range_succ, List.map_append]
      rfl)
  rw [List.length_map, List.length_range] at e4
  have c5 : mAsg (mLstN mNil) (gmN 4) [some (.tup (prog.map PR.d)), some (.ref A.length), some (.ref (A.length + 1)), o3, none, none] (AB A ((List.range prog.length).map (begP prog)) (orgs prog prog.length)) = .nx [some (.tup (prog.map PR.d)), some (.ref A.length), some (.ref (A.length + 1)), o3, some (.ref (A.length + 2)), none] (AR A ((List.range prog.length).map (begP prog)) (orgs prog prog.length) []) := by
    simp [AB, AR]
  obtain ⟨s', A', e6, o5, rfl, rfl⟩ := mFor_at (g := gmN 5) (b := kb2) (mi := miAny (mv 0)) (it := .data (prog.map PR.d)) (ds := prog.map PR.d) (s := [some (.tup (prog.map PR.d)), some (.ref A.length), some (.ref (A.length + 1)), o3, some (.ref (A.length + 2)), none]) (A := AR A ((List.range prog.length).map (begP prog)) (orgs prog prog.length) []) (A1 := AR A ((List.range prog.length).map (begP prog)) (orgs prog prog.length) [])
    (fun j s' A' => ∃ o5, s' = [some (.tup (prog.map PR.d)), some (.ref A.length), some (.ref (A.length + 1)), o3, some (.ref (A.length + 2)), o5] ∧ A' = AR A ((List.range prog.length).map (begP prog)) (orgs prog prog.length) (((prog.take j).flatMap (kof (begP prog))).map KR.d))
    rfl rfl ⟨none, rfl, rfl⟩ (fun _ _ _ _ => rfl) (fun j d s' A' hd hI => by
      obtain ⟨o5, rfl, rfl⟩ := hI
      have hj : j < prog.length := by
        have := (List.getElem?_eq_some_iff.mp hd).1
        rwa [List.length_map] at this
      have hp := List.getElem?_eq_getElem hj
      have ed : d = (prog[j]).d := by
        rw [List.getElem?_map, hp] at hd
        exact (Option.some.inj hd).symm
      subst ed
      refine ⟨_, _, _, rfl, kb2_ok (hP _ (List.getElem_mem hj)) ?_, some (prog[j]).d, rfl, ?_⟩
      · rw [List.length_map, fl_len (by omega)]
        have := begP_le (prog := prog) (i := j) (by omega)
        omega
      · rw [take_succ hp, List.flatMap_append, List.map_append]
        simp)
  rw [List.length_map, List.take_length] at e6
  have c7 : kr [some (.tup (prog.map PR.d)), some (.ref A.length), some (.ref (A.length + 1)), o3, some (.ref (A.length + 2)), o5] (AR A ((List.range prog.length).map (begP prog)) (orgs prog prog.length) ((prog.flatMap (kof (begP prog))).map KR.d)) = .rt (.tup [.tup ((kRows prog).map KR.d), .tup ((orgs prog prog.length).map nD)]) (AR A ((List.range prog.length).map (begP prog)) (orgs prog prog.length) ((prog.flatMap (kof (begP prog))).map KR.d)) := by
    have a2 : (AR A ((List.range prog.length).map (begP prog)) (orgs prog prog.length) ((prog.flatMap (kof (begP prog))).map KR.d))[A.length + 1]? = some (.lst ((orgs prog prog.length).map nD)) := by simp [AR]
    have a3 : (AR A ((List.range prog.length).map (begP prog)) (orgs prog prog.length) ((prog.flatMap (kof (begP prog))).map KR.d))[A.length + 2]? = some (.lst ((kRows prog).map KR.d)) := by simp [AR, kRows]
    generalize AR A ((List.range prog.length).map (begP prog)) (orgs prog prog.length) ((prog.flatMap (kof (begP prog))).map KR.d) = B at a2 a3 ⊢
    simp [kr, tupD, itemsD, seq_ref, a2, a3]
  refine ⟨[.lst (((List.range prog.length).map (begP prog)).map nD), .lst ((orgs prog prog.length).map nD), .lst ((prog.flatMap (kof (begP prog))).map KR.d)], ?_⟩
  rw [e0, e_seq, c1, RS.nxt_nx, e_seq, c2, RS.nxt_nx, e_seq, c3, RS.nxt_nx, e_seq, e4, RS.nxt_nx, e_seq, c5, RS.nxt_nx, e_seq, e6, RS.nxt_nx, c7]
  rfl
end
/-! ### programs by one key can be -/
theorem rowK_ok {q : KR} {rows : Nat} {A : AH} (h : q.ok rows) : m_is_row [q.d, .int rows] A = .ok (.bl true) A := by
  have pb : ∀ {r : Nat}, r < 8 → ∀ {B : AH}, m_is_part [.int (r : Int), .str "b", .int rows] B = .ok (.bl true) B := fun hr => part_ok (k := "b") rfl (by omega) (by omega)
  have p6 : ∀ {B : AH}, m_is_part [.int 6, .str "b", .int rows] B = .ok (.bl true) B := part_ok (k := "b") rfl (by omega) (by omega)
  have p7 : ∀ {B : AH}, m_is_part [.int 7, .str "b", .int rows] B = .ok (.bl true) B := part_ok (k := "b") rfl (by omega) (by omega)
  have po : ∀ {B : AH}, m_is_part [.int 0, .str "o", .int rows] B = .ok (.bl true) B := part_ok (k := "o") rfl (by omega) (by omega)
  cases q with
  | pl p => exact row_ok h.1
  | ad b =>
    have h1 : b < 8 := Nat.lt_trans h (by decide)
    have e0 : m_is_row [(KR.ad b).d, .int rows] A = finS (b_is_row [some (KR.ad b).d, some (.int rows), none, none] A) := rfl
    rw [e0]
    simp [b_is_row, KR.d, subTy, eq_tupF, eq_lstF, feqs, w_put, w_move, w_add, w_take, w_less, w_same, w_get, w_set, w_say, w_go, w_if, w_end, w_long, w_fault, w_beyond, okF_int, kninD, kixD, tb_FORMS, List.lookup, l_bn, l_bb, l_bbb, l_bbo, l_bob, l_b, l_r, l_br, l_e, kR1_0, kR1_1, kR1_2, kR1_3, bn0, bn1, bb0, bb1, bbb0, bbb1, bbb2, bbo0, bbo1, bbo2, bob0, bob1, bob2, b0, r0, br0, br1, po, p6, p7, pb h1]
  | kget b =>
    have h1 : b < 8 := Nat.lt_trans h (by decide)
    have e0 : m_is_row [(KR.kget b).d, .int rows] A = finS (b_is_row [some (KR.kget b).d, some (.int rows), none, none] A) := rfl
    rw [e0]
    simp [b_is_row, KR.d, subTy, eq_tupF, eq_lstF, feqs, w_put, w_move, w_add, w_take, w_less, w_same, w_get, w_set, w_say, w_go, w_if, w_end, w_long, w_fault, w_beyond, okF_int, kninD, kixD, tb_FORMS, List.lookup, l_bn, l_bb, l_bbb, l_bbo, l_bob, l_b, l_r, l_br, l_e, kR1_0, kR1_1, kR1_2, kR1_3, bn0, bn1, bb0, bb1, bbb0, bbb1, bbb2, bbo0, bbo1, bbo2, bob0, bob1, bob2, b0, r0, br0, br1, po, p6, p7, pb h1]
  | kset b =>
    have h1 : b < 8 := Nat.lt_trans h (by decide)
    have e0 : m_is_row [(KR.kset b).d, .int rows] A = finS (b_is_row [some (KR.kset b).d, some (.int rows), none, none] A) := rfl
    rw [e0]
    simp [b_is_row, KR.d, subTy, eq_tupF, eq_lstF, feqs, w_put, w_move, w_add, w_take, w_less, w_same, w_get, w_set, w_say, w_go, w_if, w_end, w_long, w_fault, w_beyond, okF_int, kninD, kixD, tb_FORMS, List.lookup, l_bn, l_bb, l_bbb, l_bbo, l_bob, l_b, l_r, l_br, l_e, kR1_0, kR1_1, kR1_2, kR1_3, bn0, bn1, bb0, bb1, bbb0, bbb1, bbb2, bbo0, bbo1, bbo2, bob0, bob1, bob2, b0, r0, br0, br1, po, p6, p7, pb h1]
def KR.f (p : KR) : List D := match p.d with
  | .tup ds => ds
  | _ => []
theorem KR.df (p : KR) : p.d = .tup p.f := by
  cases p with
  | pl p => exact p.df
  | _ => rfl
theorem KR.okf (p : KR) : p.f.all okF = true := by
  cases p with
  | pl p => exact p.okf
  | _ => simp [KR.f, KR.d, okF_int, w_add, w_get, w_set]
theorem eq_rowsK {ks : List KR} {A : AH} (h0 : ks ≠ []) : eqD (.tup (ks.map KR.d)) (.tup []) A = .ok (.bl false) A := by
  have e : ks.map KR.d = (ks.map KR.f).map D.tup := by
    rw [List.map_map]
    exact List.map_congr_left fun p _ => p.df
  rw [e]
  refine eq_tups_nil (fun ds hd => ?_) (by simpa using h0)
  obtain ⟨p, _, rfl⟩ := List.mem_map.mp hd
  exact p.okf
theorem bNPK_ok {ks : List KR} {A : AH} (hP : ∀ p ∈ ks, p.ok ks.length) (h1 : ks.length ≤ 60) {i : Nat} (hi : i < ks.length) : bNP [some (.tup (ks.map KR.d)), some (.int i)] A = .nx [some (.tup (ks.map KR.d)), some (.int i)] A := by
  have hq : atI (ks.map KR.d) (i : Int) = some (ks[i]).d := by
    rw [Tg.atI_nat, List.getElem?_map, List.getElem?_eq_getElem hi]
    rfl
  have h60 : ¬ (60 : Int) ≤ i := by omega
  simp [bNP, g_MOST_ROWS, hq, h60, rowK_ok (hP _ (List.getElem_mem hi))]
theorem need_programK_ok {ks : List KR} {A : AH} (hP : ∀ p ∈ ks, p.ok ks.length) (h0 : ks ≠ []) (h1 : ks.length ≤ 60) : m_need_program [.tup (ks.map KR.d)] A = .ok .non A := by
  have e0 : m_need_program [.tup (ks.map KR.d)] A = finS (b_need_program [some (.tup (ks.map KR.d)), none] A) := rfl
  have e1 : eqD (.tup (ks.map KR.d)) (.tup []) A = .ok (.bl false) A := eq_rowsK h0
  obtain ⟨o', e2⟩ := loopN (A := A) (fun i hi => bNPK_ok hP h1 hi) (o := none)
  have e5 := rngLen (ds := ks.map KR.d) (o := [none]) (A := A) (by rw [List.length_map]; omega)
  rw [List.length_map] at e5
  have e3 : mFor (mRng1 (mCons (mCall lenD (mCons (mv 0) mNil)) mNil)) (gmN 1) bNP [some (.tup (ks.map KR.d)), none] A = .nx [some (.tup (ks.map KR.d)), o'] A := by
    rw [mFor_data (ds := (List.range ks.length).map fun i : Nat => D.int (i : Int)) (A1 := A) e5]
    exact e2
  rw [e0]
  have e4 : b_need_program = mSeq (mIfS (mOr (mNot (mTb (mUn (isiD "tuple") (mv 0)))) (mTb (mBin eqD (mv 0) (mTup mNil)))) mNever mNx) (mFor (mRng1 (mCons (mCall lenD (mCons (mv 0) mNil)) mNil)) (gmN 1) bNP) := rfl
  rw [e4]
  have c1 : mIfS (mOr (mNot (mTb (mUn (isiD "tuple") (mv 0)))) (mTb (mBin eqD (mv 0) (mTup mNil)))) mNever mNx [some (.tup (ks.map KR.d)), none] A = .nx [some (.tup (ks.map KR.d)), none] A := by
    simp [subTy, e1]
  rw [e_seq, c1, RS.nxt_nx, e3]
  rfl
end K16

set_option Elab.async false
set_option linter.all false
set_option maxRecDepth 100000
set_option maxHeartbeats 4000000
/-! K16W: words that can be. -/
namespace K16
namespace W
open PySem Tg L2
open SX (S)
/-! ### words that can be -/
theorem kIt_str {z : Str} {A : AH} : kIt (.ok (.str z) A) = .ok (.data (signs z)) A := rfl
theorem e_emp : Str.ofString "" = S [] := by decide
theorem e_rts : Str.ofString "ghls" = S [103, 104, 108, 115] := by decide
theorem sg_rts : signs (S [103, 104, 108, 115]) = [.str ⟨#[103]⟩, .str ⟨#[104]⟩, .str ⟨#[108]⟩, .str ⟨#[115]⟩] := rfl
theorem joinL_one : ∀ l : List Nat, TL.joinL [] (l.map fun c => [c]) = l
  | [] => rfl
  | [c] => rfl
  | c :: d :: l => by
    show [c] ++ ([] ++ TL.joinL [] ((d :: l).map fun c => [c])) = _
    rw [joinL_one (d :: l)]
    rfl
theorem rights_join {l : List Nat} (h : l ∈ Tg.R16) {A : AH} : joinD (.str (S [])) [.lst (l.map fun c => .str ⟨#[c]⟩)] A = .ok (.str (S l)) A := by
  have := join_S (A := A) (s := []) (k := 1) (ls := l.map fun c => [c]) (fun x hx => by
    obtain ⟨c, _, rfl⟩ := List.mem_map.mp hx
    exact Nat.le_refl 1) (by rw [List.length_map]; have := (R16_ok l h).2; omega)
  rw [joinL_one, List.map_map] at this
  exact this
def raL : ME := mLc (miAny (mc g_RIGHTS)) (gmN 1) (mTb (mBin inD (mv 1) (mv 0))) (mv 1) [1] finF
theorem raL_ok {l : List Nat} (h : l ∈ Tg.R16) {A : AH} : raL [some (.str (S l)), none] A = .ok (.lst (l.map fun c => .str ⟨#[c]⟩)) A := by
  have h' := h
  simp only [Tg.R16, List.mem_cons, List.not_mem_nil, or_false] at h'
  rcases h' with rfl | rfl | rfl | rfl | rfl | rfl | rfl | rfl | rfl | rfl | rfl | rfl | rfl | rfl | rfl | rfl
  all_goals simp [raL, g_RIGHTS, kIt_str, e_rts, sg_rts, in_S]
theorem are_ok {l : List Nat} (h : l ∈ Tg.R16) {A : AH} : m_are_rights [.str (S l)] A = .ok (.bl true) A := by
  have e0 : m_are_rights [.str (S l)] A = finS (mRet (mAndV (mUn (isiD "str") (mv 0)) (mBin eqD (mv 0) (mMt "str" joinD (mc (.str "")) (mCons raL mNil)))) [some (.str (S l)), none] A) := rfl
  rw [e0]
  simp [subTy, raL_ok h, e_emp, rights_join h, tyMD]
theorem numb_int {i : Int} {A : AH} : m_is_number [.int i] A = .ok (.bl true) A := by
  have e0 : m_is_number [.int i] A = finS (b_is_number [some (.int i)] A) := rfl
  rw [e0]
  simp [b_is_number, subTy]
theorem numb_tup {ds : List D} {A : AH} : m_is_number [.tup ds] A = .ok (.bl false) A := by
  have e0 : m_is_number [.tup ds] A = finS (b_is_number [some (.tup ds)] A) := rfl
  rw [e0]
  simp [b_is_number, subTy]
theorem numb_w {w : Wo} {A : AH} : m_is_number [w.d] A = .ok (.bl w.isNum) A := by
  cases w with
  | pl p => cases p with
    | num i => exact numb_int
    | key => exact numb_tup
  | gate => exact numb_tup
theorem within_ok {i lo hi : Int} {A : AH} (h1 : lo ≤ i) (h2 : i < hi) : m_is_within [.int i, .int lo, .int hi] A = .ok (.bl true) A := by
  have e0 : m_is_within [.int i, .int lo, .int hi] A = finS (b_is_within [some (.int i), some (.int lo), some (.int hi)] A) := rfl
  rw [e0]
  simp [b_is_within, numb_int, h1, h2]
theorem within_tup {ds : List D} {lo hi : Int} {A : AH} : m_is_within [.tup ds, .int lo, .int hi] A = .ok (.bl false) A := by
  have e0 : m_is_within [.tup ds, .int lo, .int hi] A = finS (b_is_within [some (.tup ds), some (.int lo), some (.int hi)] A) := rfl
  rw [e0]
  simp [b_is_within, numb_tup]
def k1 : MS := (mIfS (mOr (mNot (mTb (mUn (isiD "tuple") (mv 0)))) (mOr (mTb (mBin neD (mCall lenD (mCons (mv 0) mNil)) (mc (.int (5))))) (mTb (mBin neD (mBin ixD (mv 0) (mc (.int (0)))) (mc g_KEY))))) (mRet (mc (.bl false))) mNx)
def k2 : MS := (mAsg (mSl (mv 0) (mPart (mc (.int (1)))) mNoPart) (gmTup 4 (gmCons (gmN 2) (gmCons (gmN 3) (gmCons (gmN 4) (gmCons (gmN 5) gmNil))))))
def k3 : MS := (mIfS (mOr (mNot (mTb (mCall m_is_within (mCons (mv 2) (mCons (mc (.int (0))) (mCons (mv 1) mNil)))))) (mNot (mTb (mCall m_is_within (mCons (mv 3) (mCons (mBin addD (mv 2) (mc (.int (1)))) (mCons (mBin addD (mv 1) (mc (.int (1)))) mNil))))))) (mRet (mc (.bl false))) mNx)
def k4 : MS := (mRet (mAndV (mCall m_is_within (mCons (mv 4) (mCons (mBin subD (mc (.int (0))) (mc g_HALF)) (mCons (mc g_HALF) mNil)))) (mCall m_are_rights (mCons (mv 5) mNil))))

theorem key_ok {b e a : Int} {r : List Nat} {most : Nat} {A : AH} (h : Pl.Ok most (.key b e a r)) : m_is_key [(Pl.key b e a r).d, .int most] A = .ok (.bl true) A := by
  have e0 : m_is_key [(Pl.key b e a r).d, .int most] A = finS (mSeq k1 (mSeq k2 (mSeq k3 k4)) [some (Pl.key b e a r).d, some (.int most), none, none, none, none] A) := rfl
  cases h with
  | key h1 h2 h3 h4 h5 h6 hr =>
    have c1 : k1 [some (Pl.key b e a r).d, some (.int most), none, none, none, none] A = .nx [some (Pl.key b e a r).d, some (.int most), none, none, none, none] A := by
      simp [k1, Pl.d, subTy, g_KEY]
    have c2 : k2 [some (Pl.key b e a r).d, some (.int most), none, none, none, none] A = .nx [some (Pl.key b e a r).d, some (.int most), some (.int b), some (.int e), some (.int a), some (.str (S r))] A := by
      have : (mSl (mv 0) (mPart (mc (.int (1)))) mNoPart) [some (Pl.key b e a r).d, some (.int most), none, none, none, none] A = .ok (.tup [.int b, .int e, .int a, .str (S r)]) A := by
        have q : slD (Pl.key b e a r).d (some 1) none A = .ok (.tup [.int b, .int e, .int a, .str (S r)]) A := by
          show R.ok (D.tup (cutD _ _ _)) A = _
          rw [cutD1]
        simp [q]
      unfold k2 mAsg
      rw [this]
      rfl
    have c3 : k3 [some (Pl.key b e a r).d, some (.int most), some (.int b), some (.int e), some (.int a), some (.str (S r))] A = .nx [some (Pl.key b e a r).d, some (.int most), some (.int b), some (.int e), some (.int a), some (.str (S r))] A := by
      simp [k3, within_ok h1 h2, within_ok h3 (show e < (most : Int) + 1 by omega)]
    have c4 : k4 [some (Pl.key b e a r).d, some (.int most), some (.int b), some (.int e), some (.int a), some (.str (S r))] A = .rt (.bl true) A := by
      simp [k4, g_HALF, within_ok h5 h6, are_ok hr]
    rw [e0, e_seq, c1, RS.nxt_nx, e_seq, c2, RS.nxt_nx, e_seq, c3, RS.nxt_nx, c4, finS_rt]
theorem key_gate {g : Int} {p : Pl} {most : Nat} {A : AH} : m_is_key [(Wo.gate g p).d, .int most] A = .ok (.bl false) A := by
  have e0 : m_is_key [(Wo.gate g p).d, .int most] A = finS (mSeq k1 (mSeq k2 (mSeq k3 k4)) [some (Wo.gate g p).d, some (.int most), none, none, none, none] A) := rfl
  have c1 : k1 [some (Wo.gate g p).d, some (.int most), none, none, none, none] A = .rt (.bl false) A := by
    simp [k1, Wo.d, subTy, g_KEY]
  rw [e0, e_seq, c1, RS.nxt_rt, finS_rt]
theorem plain_ok {p : Pl} {most : Nat} {A : AH} (h : p.Ok most) : m_is_plain_words [p.d, .int most] A = .ok (.bl true) A := by
  have e0 : m_is_plain_words [p.d, .int most] A = finS (b_is_plain_words [some p.d, some (.int most)] A) := rfl
  rw [e0]
  cases h with
  | num h1 h2 => simp [b_is_plain_words, Pl.d, g_HALF, within_ok h1 h2]
  | @key b e a r h1 h2 h3 h4 h5 h6 hr =>
    have := key_ok (A := A) (Pl.Ok.key h1 h2 h3 h4 h5 h6 hr)
    simp only [Pl.d] at this ⊢
    simp [b_is_plain_words, g_HALF, within_tup, this]
theorem plain_gate {g : Int} {p : Pl} {most : Nat} {A : AH} : m_is_plain_words [(Wo.gate g p).d, .int most] A = .ok (.bl false) A := by
  have e0 : m_is_plain_words [(Wo.gate g p).d, .int most] A = finS (b_is_plain_words [some (Wo.gate g p).d, some (.int most)] A) := rfl
  have := key_gate (g := g) (p := p) (most := most) (A := A)
  rw [e0]
  simp only [Wo.d] at this ⊢
  simp [b_is_plain_words, g_HALF, within_tup, this]
theorem word_ok {w : Wo} {rows most : Nat} {A : AH} (h : w.Ok rows most) : m_is_word [w.d, .int most, .int rows] A = .ok (.bl true) A := by
  have e0 : m_is_word [w.d, .int most, .int rows] A = finS (b_is_word [some w.d, some (.int most), some (.int rows)] A) := rfl
  rw [e0]
  cases h with
  | pl h => simp [b_is_word, Wo.d, plain_ok h]
  | @gate g p h1 h2 h3 =>
    have a := plain_gate (g := g) (p := p) (most := most) (A := A)
    have b := plain_ok (A := A) h3
    simp only [Wo.d] at a ⊢
    simp [b_is_word, a, b, subTy, g_GATE, within_ok h1 h2]
def n1 : MS := (mIfS (mNot (mTb (mCall m_is_within (mCons (mv 1) (mCons (mc (.int (0))) (mCons (mBin addD (mc g_MOST_ROOMS) (mc (.int (1)))) mNil)))))) mNever mNx)
def n2 : MS := (mAsg (mBin subD (mc g_CELLS) (mBin mulD (mc g_ROOM) (mv 1))) (gmN 4))
def n3 : MS := (mDrop (mCall m_need_words (mCons (mv 2) (mCons (mv 4) (mCons (mv 4) (mCons (mv 0) (mCons (mc (.int (0))) mNil)))))))
def n4 : MS := (mDrop (mCall m_need_words (mCons (mv 3) (mCons (mc g_BOXES_words) (mCons (mv 4) (mCons (mv 0) (mCons (mv 4) mNil)))))))

def bW : MS := (mIfS (mOr (mTb (mBin geD (mv 5) (mCall lenD (mCons (mv 0) mNil)))) (mNot (mTb (mCall m_is_word (mCons (mBin ixD (mv 0) (mv 5)) (mCons (mv 2) (mCons (mv 3) mNil))))))) mNever mNx)
def nW : MS := (mIfS (mTb (mBin gtD (mCall lenD (mCons (mv 0) mNil)) (mv 1))) mNever mNx)
theorem words_ok {ws : List Wo} {rows most many before : Nat} {A : AH} (h : ∀ w ∈ ws, w.Ok rows most) (hl : ws.length = many) (hm : many ≤ 1000) :
    m_need_words [.lst (ws.map Wo.d), .int many, .int most, .int rows, .int before] A = .ok .non A := by
  have e0 : m_need_words [.lst (ws.map Wo.d), .int many, .int most, .int rows, .int before] A = finS (mSeq (mFor (mRng1 (mCons (mv 1) mNil)) (gmN 5) bW) nW [some (.lst (ws.map Wo.d)), some (.int many), some (.int most), some (.int rows), some (.int before), none] A) := rfl
  subst hl
  have hb : ∀ i, i < ws.length → bW [some (.lst (ws.map Wo.d)), some (.int ws.length), some (.int most), some (.int rows), some (.int before), some (.int (i : Int))] A = .nx [some (.lst (ws.map Wo.d)), some (.int ws.length), some (.int most), some (.int rows), some (.int before), some (.int (i : Int))] A := fun i hi => by
    have hq : ixD (.lst (ws.map Wo.d)) (.int (i : Int)) A = .ok (ws[i]).d A := ix_lst (atI_ok (by rw [List.getElem?_map, List.getElem?_eq_getElem hi]; rfl))
    have hi' : ¬ ((ws.length : Int) ≤ i) := by omega
    have hw := word_ok (A := A) (h _ (List.getElem_mem hi))
    simp only [bW, e_ifS, e_or, e_tb, e_bin, e_mvS, e_mv0, kB1_0, e_call, e_cons, e_nil, kC1_0, kC2_0, kCall_0, len_frz, List.length_map, kB2_0, o_ge, hi', decide_false, kT_0, kOr_1, e_not, hq, hw, kN_0, Bool.not_true, kIf_1, e_nx]
  obtain ⟨s', A', e, e2, o', e3⟩ := forL_inv (g := gmN 5) (b := bW) (ds := (List.range ws.length).map fun i : Nat => D.int (i : Int)) (s := [some (.lst (ws.map Wo.d)), some (.int ws.length), some (.int most), some (.int rows), some (.int before), none]) (A := A)
    (fun s' A' => A' = A ∧ ∃ o', s' = [some (.lst (ws.map Wo.d)), some (.int ws.length), some (.int most), some (.int rows), some (.int before), o']) ⟨rfl, none, rfl⟩ (fun d hd s B hB => by
    obtain ⟨rfl, o', rfl⟩ := hB
    obtain ⟨i, hi, rfl⟩ := List.mem_map.mp hd
    exact ⟨_, _, _, rfl, hb i (List.mem_range.mp hi), rfl, _, rfl⟩)
  subst e2 e3
  have e5 : (mCons (mv 1) mNil) [some (.lst (ws.map Wo.d)), some (.int ws.length), some (.int most), some (.int rows), some (.int before), none] A' = .ok [.int (ws.length : Int)] A' := rfl
  have c2 : nW [some (.lst (ws.map Wo.d)), some (.int ws.length), some (.int most), some (.int rows), some (.int before), o'] A' = .nx [some (.lst (ws.map Wo.d)), some (.int ws.length), some (.int most), some (.int rows), some (.int before), o'] A' := by
    simp [nW]
  rw [e0, e_seq, mFor_data (rng1 e5 (by omega)), e, RS.nxt_nx, c2]
  rfl
theorem drop_call {g : List D → AH → R D} {ma : MA} {s : Sl} {A A1 : AH} {ds : List D} {x : D} (h : ma s A = .ok ds A) (hg : g ds A = .ok x A1) : mDrop (mCall g ma) s A = .nx s A1 := by
  rw [e_drop, e_call, h, kCall_0, hg, kDrop_0]
theorem mul_rooms {rooms : Nat} {A : AH} (h : rooms ≤ 12) : mulD (.int 4) (.int rooms) A = .ok (.int (4 * (rooms : Int))) A := by
  have e : ∀ j : Int, 0 ≤ j → j < 100 → mulD (.int 4) (.int j) A = .ok (.int (4 * j)) A := fun j h0 h1 => o_mulR (Int.lt_of_lt_of_le (b := 0) (by simp) h0) (Int.lt_of_lt_of_le h1 (by simp))
  exact e _ (by omega) (by omega)
theorem state_ok {rows rooms : Nat} {cells boxes : List Wo} {A : AH} (hr : rooms ≤ 12) (hc : ∀ w ∈ cells, w.Ok rows (64 - 4 * rooms)) (hb : ∀ w ∈ boxes, w.Ok rows (64 - 4 * rooms)) (lc : cells.length = 64 - 4 * rooms) (lb : boxes.length = 8) :
    m_need_state [.int rows, .int rooms, .lst (cells.map Wo.d), .lst (boxes.map Wo.d)] A = .ok .non A := by
  have e0 : m_need_state [.int rows, .int rooms, .lst (cells.map Wo.d), .lst (boxes.map Wo.d)] A = finS (b_need_state [some (.int rows), some (.int rooms), some (.lst (cells.map Wo.d)), some (.lst (boxes.map Wo.d)), none] A) := rfl
  have a := words_ok (A := A) (before := 0) hc lc (by omega)
  have b := words_ok (A := A) (before := 64 - 4 * rooms) hb lb (by omega)
  have em : (64 : Int) - 4 * (rooms : Int) = ((64 - 4 * rooms : Nat) : Int) := by omega
  have hm := mul_rooms (A := A) hr
  have a' : m_need_words [.lst (cells.map Wo.d), .int ((64 - 4 * rooms : Nat) : Int), .int ((64 - 4 * rooms : Nat) : Int), .int rows, .int 0] A = .ok .non A := a
  have b' : m_need_words [.lst (boxes.map Wo.d), .int 8, .int ((64 - 4 * rooms : Nat) : Int), .int rows, .int ((64 - 4 * rooms : Nat) : Int)] A = .ok .non A := b
  have c1 : n1 [some (.int rows), some (.int rooms), some (.lst (cells.map Wo.d)), some (.lst (boxes.map Wo.d)), none] A = .nx [some (.int rows), some (.int rooms), some (.lst (cells.map Wo.d)), some (.lst (boxes.map Wo.d)), none] A := by
    simp [n1, g_MOST_ROOMS, within_ok (show (0 : Int) ≤ rooms by omega) (show (rooms : Int) < 13 by omega)]
  have c2 : n2 [some (.int rows), some (.int rooms), some (.lst (cells.map Wo.d)), some (.lst (boxes.map Wo.d)), none] A = .nx [some (.int rows), some (.int rooms), some (.lst (cells.map Wo.d)), some (.lst (boxes.map Wo.d)), some (.int ((64 - 4 * rooms : Nat) : Int))] A := by
    simp only [n2, e_asgN, e_bin, e_mc, kB1_0, e_mvS, e_mv0, kB2_0, g_CELLS, g_ROOM, hm, o_sub, em]
    rfl
  have c3 : n3 [some (.int rows), some (.int rooms), some (.lst (cells.map Wo.d)), some (.lst (boxes.map Wo.d)), some (.int ((64 - 4 * rooms : Nat) : Int))] A = .nx [some (.int rows), some (.int rooms), some (.lst (cells.map Wo.d)), some (.lst (boxes.map Wo.d)), some (.int ((64 - 4 * rooms : Nat) : Int))] A := drop_call rfl a'
  have c4 : n4 [some (.int rows), some (.int rooms), some (.lst (cells.map Wo.d)), some (.lst (boxes.map Wo.d)), some (.int ((64 - 4 * rooms : Nat) : Int))] A = .nx [some (.int rows), some (.int rooms), some (.lst (cells.map Wo.d)), some (.lst (boxes.map Wo.d)), some (.int ((64 - 4 * rooms : Nat) : Int))] A := drop_call rfl b'
  rw [e0, show b_need_state = mSeq n1 (mSeq n2 (mSeq n3 n4)) from rfl, e_seq, c1, RS.nxt_nx, e_seq, c2, RS.nxt_nx, e_seq, c3, RS.nxt_nx, c4]
  rfl
end W
end K16


set_option Elab.async false
set_option linter.all false
set_option maxRecDepth 100000
set_option maxHeartbeats 4000000
/-! K16X: run, the machine. -/
namespace K16
open PySem Tg L2
open SX (S)
theorem make_ok {c : Str} {g : List D → AH → R D} {ma : MA} {s : Sl} {A A1 A2 : AH} {ds : List D} (h : ma s A = .ok ds A1) (hg : g (.ref A1.length :: ds) (A1 ++ [.ins c []]) = .ok .non A2) : mMake c g ma s A = .ok (.ref A1.length) A2 := by
  rw [e_make, h, kMk1_0, hg, kMk2_0]
def boxD : List D := List.replicate 7 (.int 0) ++ [(Q.k 0).d]
theorem held0 {cells : List Int} : heldD (s0K cells) = boxD := rfl
def boxW : List Wo := List.replicate 7 (.pl (.num 0)) ++ [.pl (.key 0 64 0 [103, 115])]
theorem boxW_d : boxW.map Wo.d = boxD := by
  have e : S [103, 115] = Str.ofString "gs" := by decide
  show List.replicate 7 (D.int 0) ++ [.tup [.str "key", .int 0, .int 64, .int 0, .str (S [103, 115])]] = _
  rw [e]
  rfl
theorem stateK_ok {rows : Nat} {cells : List Int} {A : AH} (hl : cells.length = 64) (hc : ∀ z ∈ cells, inH z) : m_need_state [.int rows, .int 0, .lst (cells.map .int), .lst boxD] A = .ok .non A := by
  have e1 : (cells.map fun z => Wo.pl (.num z)).map Wo.d = cells.map .int := by
    rw [List.map_map]
    rfl
  have h := W.state_ok (rows := rows) (rooms := 0) (cells := cells.map fun z => Wo.pl (.num z)) (boxes := boxW) (A := A) (by decide) (fun w hw => by
    obtain ⟨z, hz, rfl⟩ := List.mem_map.mp hw
    exact .pl (.num (hc z hz).1 (hc z hz).2)) (fun w hw => by
    rcases List.mem_append.mp hw with hw | hw
    · rw [(List.mem_replicate.mp hw).2]
      exact .pl (.num (by decide) (by decide))
    · rw [List.mem_singleton.mp hw]
      exact .pl (.key (by decide) (by decide) (by decide) (by decide) (by decide) (by decide) (by decide))) (by rw [List.length_map, hl]) rfl
  rw [e1, boxW_d] at h
  exact h
theorem m40 {A : AH} : mulD (.int 4) (.int 0) A = .ok (.int 0) A := W.mul_rooms (rooms := 0) (by decide)
theorem mz0 {A : AH} : mulD (.lst [.int 0]) (.int 0) A = .ok (.lst []) A := mulL (k := 0) (by decide)
theorem addN_nil {ds : List D} {A : AH} (h : ds.length ≤ 1000) : addN (.lst ds) (.lst []) A = .ok (.ref A.length) (A ++ [.lst ds]) := by
  have e : addN (.lst ds) (.lst []) A = if ds.length + 0 ≤ 16777216 then .ok (.ref A.length) (A ++ [.lst (ds ++ [])]) else .bad := rfl
  rw [e, if_pos (by omega), List.append_nil]
theorem list_lst {ds : List D} {A : AH} : listD [.lst ds] A = .ok (.lst ds) A := rfl
def q1 : MS := (mDrop (mCall m_need_program (mCons (mv 0) mNil)))
def q2 : MS := (mDrop (mCall m_need_state (mCons (mCall lenD (mCons (mv 0) mNil)) (mCons (mv 1) (mCons (mv 2) (mCons (mv 3) mNil))))))
def q3 : MS := (mDrop (mCall m_need_fuel (mCons (mv 4) mNil)))
def q4 : MS := (mAsg (mMake "AtOnce" m_AtOnce___init__ (mCons (mv 0) (mCons (mv 1) (mCons (mv 2) (mCons (mv 3) mNil))))) (gmN 5))
def q5 : MS := (whG (mAnd (mTb (mBin isD (mFld cs_end "end" (mv 5)) (mc .non))) (mTb (mBin ltD (mFld cs_steps "steps" (mv 5)) (mv 4)))) (mDrop (mMeth "AtOnce" "step" m_AtOnce_step (mv 5) mNil)) fuelN)
def q6 : MS := (mRet (mTup (mCons (mFld cs_talk "talk" (mv 5)) (mCons (mIf (mTb (mBin isD (mFld cs_end "end" (mv 5)) (mc .non))) (mc g_LONG) (mFld cs_end "end" (mv 5))) (mCons (mFld cs_steps "steps" (mv 5)) mNil)))))

def cWK : MT := (mAnd (mTb (mBin isD (mFld cs_end "end" (mv 5)) (mc .non))) (mTb (mBin ltD (mFld cs_steps "steps" (mv 5)) (mv 4))))

/-! ### AtOnce -/
section
variable {A0 : AH} {prog : List PR} {cells : List Int} {s : KM}
theorem rowsA_ok (hl : cells.length = 64) {ks : List D} : m_Rows___init__ [.ref A0.length, .tup ks, .int 0, .lst (cells.map .int), .lst boxD] (A0 ++ [.ins "AtOnce" []]) = .ok .non (A0 ++ [.ins "AtOnce" [("program", .tup ks), ("first", .int 64), ("store", .ref (A0.length + 1)), ("held", .ref (A0.length + 2)), ("here", .int 0), ("talk", .ref (A0.length + 3)), ("steps", .int 0), ("end", .non)], .lst (cells.map .int), .lst boxD, .lst []]) := by
  have e0 : m_Rows___init__ [.ref A0.length, .tup ks, .int 0, .lst (cells.map .int), .lst boxD] (A0 ++ [.ins "AtOnce" []]) = finS (b_Rows___init__ [some (.ref A0.length), some (.tup ks), some (.int 0), some (.lst (cells.map .int)), some (.lst boxD)] (A0 ++ [.ins "AtOnce" []])) := rfl
  have hc : (cells.map D.int).length ≤ 1000 := by rw [List.length_map]; omega
  rw [e0]
  generalize cells.map D.int = cs at hc ⊢
  generalize boxD = bs
  simp [b_Rows___init__, cs_program, cs_first, cs_store, cs_held, cs_here, cs_talk, cs_steps, cs_end, sfld_ref, putFD, listN, list_lst, itemsD, seqL, m40, mz0, addN_nil hc, g_CELLS, g_ROOM]
theorem stepA (hP : ∀ p ∈ prog, p.ok prog.length) (hn : prog.length ≤ 60) (I : Inv prog s) (he : s.m.en = none) (hS : s.m.steps < 10000) :
    m_AtOnce_step [.ref A0.length] (encA A0 ((kRows prog).map KR.d) s) = .ok .non (encA A0 ((kRows prog).map KR.d) (nxtK (kRows prog) s)) := by
  obtain ⟨q, h1, h2, h3, h4⟩ := inv_step hP hn I he
  have e := step_okA (A0 := A0) (ks := (kRows prog).map KR.d) (p := q) (by rw [List.length_map]; exact I.k) he (by rw [List.getElem?_map, h1]; rfl) (by rw [List.length_map]; exact h2) h3 hS
  rw [List.length_map] at e
  rw [nxtK_of h1]
  exact e
end

/-! ### Lazy -/
section
variable {A0 : AH} {prog : List PR} {cells : List Int} {s : KM}
theorem rowsZ_ok (hl : cells.length = 64) {ks : List D} : m_Rows___init__ [.ref A0.length, .tup ks, .int 0, .lst (cells.map .int), .lst boxD] (A0 ++ [.ins "Lazy" []]) = .ok .non (A0 ++ [.ins "Lazy" [("program", .tup ks), ("first", .int 64), ("store", .ref (A0.length + 1)), ("held", .ref (A0.length + 2)), ("here", .int 0), ("talk", .ref (A0.length + 3)), ("steps", .int 0), ("end", .non)], .lst (cells.map .int), .lst boxD, .lst []]) := by
  have e0 : m_Rows___init__ [.ref A0.length, .tup ks, .int 0, .lst (cells.map .int), .lst boxD] (A0 ++ [.ins "Lazy" []]) = finS (b_Rows___init__ [some (.ref A0.length), some (.tup ks), some (.int 0), some (.lst (cells.map .int)), some (.lst boxD)] (A0 ++ [.ins "Lazy" []])) := rfl
  have hc : (cells.map D.int).length ≤ 1000 := by rw [List.length_map]; omega
  rw [e0]
  generalize cells.map D.int = cs at hc ⊢
  generalize boxD = bs
  simp [b_Rows___init__, cs_program, cs_first, cs_store, cs_held, cs_here, cs_talk, cs_steps, cs_end, sfld_ref, putFD, listN, list_lst, itemsD, seqL, m40, mz0, addN_nil hc, g_CELLS, g_ROOM]
theorem stepZ (hP : ∀ p ∈ prog, p.ok prog.length) (hn : prog.length ≤ 60) (I : Inv prog s) (he : s.m.en = none) (hS : s.m.steps < 10000) :
    m_Lazy_step [.ref A0.length] (encZ A0 ((kRows prog).map KR.d) s) = .ok .non (encZ A0 ((kRows prog).map KR.d) (nxtK (kRows prog) s)) := by
  obtain ⟨q, h1, h2, h3, h4⟩ := inv_step hP hn I he
  have e := step_okZ (A0 := A0) (ks := (kRows prog).map KR.d) (p := q) (by rw [List.length_map]; exact I.k) he (by rw [List.getElem?_map, h1]; rfl) (by rw [List.length_map]; exact h2) h3 hS
  rw [List.length_map] at e
  rw [nxtK_of h1]
  exact e
end

/-! ### run -/
def bWK : MS := mDrop (mMeth "AtOnce" "step" m_AtOnce_step (mv 5) mNil)
section
variable {A0 : AH} {prog : List PR} {cells : List Int} {s : KM}
theorem initA_ok (hl : cells.length = 64) : m_AtOnce___init__ [.ref A0.length, .tup ((kRows prog).map KR.d), .int 0, .lst (cells.map .int), .lst boxD] (A0 ++ [.ins "AtOnce" []]) = .ok .non (encA A0 ((kRows prog).map KR.d) (s0K cells)) := by
  have e0 : m_AtOnce___init__ [.ref A0.length, .tup ((kRows prog).map KR.d), .int 0, .lst (cells.map .int), .lst boxD] (A0 ++ [.ins "AtOnce" []]) = finS (b_AtOnce___init__ [some (.ref A0.length), some (.tup ((kRows prog).map KR.d)), some (.int 0), some (.lst (cells.map .int)), some (.lst boxD)] (A0 ++ [.ins "AtOnce" []])) := rfl
  have e : heldD (s0K cells) = boxD := rfl
  rw [e0]
  simp [b_AtOnce___init__, rowsA_ok hl, cs_lent_ones, sfld_ref, putFD, encA, fsA, e]
  simp [s0K, m0]
theorem loopA_ok (hP : ∀ p ∈ prog, p.ok prog.length) (hn : prog.length ≤ 60) {c0 c1 c2 : D} {fuel : Int} (hf : fuel ≤ 5000) : ∀ (f : Nat) (s : KM), Inv prog s → fuel - s.m.steps < f → 0 < f →
    whG cWK bWK f [some (.tup ((kRows prog).map KR.d)), some c0, some c1, some c2, some (.int fuel), some (.ref A0.length)] (encA A0 ((kRows prog).map KR.d) s) = .nx [some (.tup ((kRows prog).map KR.d)), some c0, some c1, some c2, some (.int fuel), some (.ref A0.length)] (encA A0 ((kRows prog).map KR.d) (runK (kRows prog) fuel f s))
  | 0, _, _, _, h => by omega
  | f + 1, s, I, h1, _ => by
    have cond : ∀ b : Bool, (s.m.en = none ∧ (s.m.steps : Int) < fuel ↔ b = true) → cWK [some (.tup ((kRows prog).map KR.d)), some c0, some c1, some c2, some (.int fuel), some (.ref A0.length)] (encA A0 ((kRows prog).map KR.d) s) = .ok b (encA A0 ((kRows prog).map KR.d) s) := fun b hb => by
      cases he : s.m.en with
      | none =>
        have : decide ((s.m.steps : Int) < fuel) = b := by
          cases b with
          | true => exact decide_eq_true (hb.mpr rfl).2
          | false => exact decide_eq_false fun q => (nomatch hb.mp ⟨he, q⟩)
        rw [← this]
        simp [cWK, f_endA, f_stepsA, he, Tg.isNon]
      | some e =>
        have : b = false := by
          cases b with
          | true => exact absurd (hb.mpr rfl).1 (by rw [he]; simp)
          | false => rfl
        rw [this]
        simp [cWK, f_endA, f_stepsA, he, I.k.e e he]
    by_cases hc : s.m.en = none ∧ (s.m.steps : Int) < fuel
    · have st := stepA (A0 := A0) hP hn I hc.1 (by omega)
      have e : bWK [some (.tup ((kRows prog).map KR.d)), some c0, some c1, some c2, some (.int fuel), some (.ref A0.length)] (encA A0 ((kRows prog).map KR.d) s) = .nx [some (.tup ((kRows prog).map KR.d)), some c0, some c1, some c2, some (.int fuel), some (.ref A0.length)] (encA A0 ((kRows prog).map KR.d) (nxtK (kRows prog) s)) := drop_ok (meth_ok rfl insA (by simp [fsA, List.lookup]) rfl st)
      rw [wh_true (cond true (by simp [hc])) e]
      have e2 : runK (kRows prog) fuel (f + 1) s = runK (kRows prog) fuel f (nxtK (kRows prog) s) := by
        conv => lhs; unfold runK
        rw [if_pos hc]
      rw [e2]
      obtain ⟨o1, o2, _⟩ := nxt_okK hP hn I hc.1
      exact loopA_ok hP hn hf f _ o1 (by omega) (by omega)
    · have e2 : runK (kRows prog) fuel (f + 1) s = s := by
        conv => lhs; unfold runK
        rw [if_neg hc]
      rw [wh_false (cond false (by simp [hc])), e2]
theorem rowsK_ne (h0 : prog ≠ []) : kRows prog ≠ [] := fun e => by
  have := begP_lt (prog := prog) (Nat.le_refl _) (List.length_pos_iff.mpr h0)
  rw [← rows_len, e] at this
  exact absurd this (Nat.not_lt_zero _)
theorem rowsK_len (hn : prog.length ≤ 30) : (kRows prog).length ≤ 60 := by
  rw [rows_len]
  have := begP_le (prog := prog) (Nat.le_refl _)
  omega
theorem runA_ok (hP : ∀ p ∈ prog, p.ok prog.length) (h0 : prog ≠ []) (hn : prog.length ≤ 30) (hl : cells.length = 64) (hc : ∀ z ∈ cells, inH z) (I : Inv prog (finK prog cells)) :
    m_run [.tup ((kRows prog).map KR.d), .int 0, .lst (cells.map .int), .lst boxD, .int 3000] A0 = .ok (.tup [.ref (A0.length + 3), (finK prog cells).m.en.getD longD, .int (finK prog cells).m.steps]) (encA A0 ((kRows prog).map KR.d) (finK prog cells)) := by
  have hn2 : prog.length ≤ 60 := by omega
  have hN : (fuelN : Nat) = 1000000 := rfl
  have l := loopA_ok (A0 := A0) hP hn2 (c0 := .int 0) (c1 := .lst (cells.map .int)) (c2 := .lst boxD) (fuel := 3000) (by omega) fuelN (s0K cells) (s0_inv hl h0) (by rw [hN]; show (3000 : Int) - ((0 : Nat) : Int) < _; omega) (by rw [hN]; decide)
  have e0 : m_run [.tup ((kRows prog).map KR.d), .int 0, .lst (cells.map .int), .lst boxD, .int 3000] A0 = finS (mSeq q1 (mSeq q2 (mSeq q3 (mSeq q4 (mSeq (whG cWK bWK fuelN) q6)))) [some (.tup ((kRows prog).map KR.d)), some (.int 0), some (.lst (cells.map .int)), some (.lst boxD), some (.int 3000), none] A0) := rfl
  have c1 : q1 [some (.tup ((kRows prog).map KR.d)), some (.int 0), some (.lst (cells.map .int)), some (.lst boxD), some (.int 3000), none] A0 = .nx [some (.tup ((kRows prog).map KR.d)), some (.int 0), some (.lst (cells.map .int)), some (.lst boxD), some (.int 3000), none] A0 := drop_ok (call_ok (cons_ok rfl rfl) (need_programK_ok (rows_ok hP hn2) (rowsK_ne h0) (rowsK_len hn)))
  have c2 : q2 [some (.tup ((kRows prog).map KR.d)), some (.int 0), some (.lst (cells.map .int)), some (.lst boxD), some (.int 3000), none] A0 = .nx [some (.tup ((kRows prog).map KR.d)), some (.int 0), some (.lst (cells.map .int)), some (.lst boxD), some (.int 3000), none] A0 := drop_ok (call_ok (cons_ok (call_ok (cons_ok rfl rfl) rfl) (cons_ok rfl (cons_ok rfl (cons_ok rfl rfl)))) (stateK_ok hl hc))
  have c3 : q3 [some (.tup ((kRows prog).map KR.d)), some (.int 0), some (.lst (cells.map .int)), some (.lst boxD), some (.int 3000), none] A0 = .nx [some (.tup ((kRows prog).map KR.d)), some (.int 0), some (.lst (cells.map .int)), some (.lst boxD), some (.int 3000), none] A0 := drop_ok (call_ok (cons_ok rfl rfl) (need_fuel_ok (by decide) (by decide)))
  have c4 : q4 [some (.tup ((kRows prog).map KR.d)), some (.int 0), some (.lst (cells.map .int)), some (.lst boxD), some (.int 3000), none] A0 = .nx [some (.tup ((kRows prog).map KR.d)), some (.int 0), some (.lst (cells.map .int)), some (.lst boxD), some (.int 3000), some (.ref A0.length)] (encA A0 ((kRows prog).map KR.d) (s0K cells)) := asg_ok (make_ok (cons_ok rfl (cons_ok rfl (cons_ok rfl (cons_ok rfl rfl)))) (initA_ok hl))
  have c6 : q6 [some (.tup ((kRows prog).map KR.d)), some (.int 0), some (.lst (cells.map .int)), some (.lst boxD), some (.int 3000), some (.ref A0.length)] (encA A0 ((kRows prog).map KR.d) (finK prog cells)) = .rt (.tup [.ref (A0.length + 3), (finK prog cells).m.en.getD longD, .int (finK prog cells).m.steps]) (encA A0 ((kRows prog).map KR.d) (finK prog cells)) := by
    generalize finK prog cells = s at I ⊢
    cases he : s.m.en with
    | none => simp [q6, f_talkA, f_endA, f_stepsA, he, Tg.isNon, g_LONG, longD]
    | some e => simp [q6, f_talkA, f_endA, f_stepsA, he, I.k.e e he]
  rw [e0, e_seq, c1, RS.nxt_nx, e_seq, c2, RS.nxt_nx, e_seq, c3, RS.nxt_nx, e_seq, c4, RS.nxt_nx, e_seq, l, RS.nxt_nx]
  exact fin_of c6
/-! ### the machine -/
def MB (A0 : AH) : AH := A0 ++ [.ins "Machine" [("lazy", .ref (A0.length + 1))]]
theorem MB_len : (MB A0).length = A0.length + 1 := by simp [MB]
theorem initZ_ok {B : AH} (hl : cells.length = 64) : m_Lazy___init__ [.ref B.length, .tup ((kRows prog).map KR.d), .int 0, .lst (cells.map .int), .lst boxD] (B ++ [.ins "Lazy" []]) = .ok .non (encZ B ((kRows prog).map KR.d) (s0K cells)) := by
  have e0 : m_Lazy___init__ [.ref B.length, .tup ((kRows prog).map KR.d), .int 0, .lst (cells.map .int), .lst boxD] (B ++ [.ins "Lazy" []]) = finS (b_Lazy___init__ [some (.ref B.length), some (.tup ((kRows prog).map KR.d)), some (.int 0), some (.lst (cells.map .int)), some (.lst boxD), none] (B ++ [.ins "Lazy" []])) := rfl
  have e : heldD (s0K cells) = boxD := rfl
  have em : ∀ A1 : AH, A1[B.length]? = some (.ins "Lazy" [("program", .tup ((kRows prog).map KR.d)), ("first", .int 64), ("store", .ref (B.length + 1)), ("held", .ref (B.length + 2)), ("here", .int 0), ("talk", .ref (B.length + 3)), ("steps", .int 0), ("end", .non)]) →
      (mLc (mRng3 (mCons (mFld cs_first "first" (mv 0)) (mCons (mc g_CELLS) (mCons (mc g_ROOM) mNil)))) (gmN 5) mYes (mTup (mCons (mv 5) (mCons (mc (.str "free")) mNil))) [5] finF) [some (.ref B.length), some (.tup ((kRows prog).map KR.d)), some (.int 0), some (.lst (cells.map .int)), some (.lst boxD), none] A1 = .ok (.lst []) A1 := by
    intro A1 h1
    have ff : fldD cs_first "first" (.ref B.length) A1 = .ok (.int 64) A1 := by
      rw [fld_ref, h1]
      simp [cs_first, List.lookup]
    have r : mRng3 (mCons (mFld cs_first "first" (mv 0)) (mCons (mc g_CELLS) (mCons (mc g_ROOM) mNil))) [some (.ref B.length), some (.tup ((kRows prog).map KR.d)), some (.int 0), some (.lst (cells.map .int)), some (.lst boxD), none] A1 = .ok (.data []) A1 := by
      unfold mRng3
      rw [cons_ok (fld_ok rfl ff) (cons_ok rfl (cons_ok rfl rfl))]
      rfl
    rw [mLc_of r (by decide)]
    rfl
  have hr : ∀ j : Nat, (B ++ [AO.ins "Lazy" [("program", .tup ((kRows prog).map KR.d)), ("first", .int 64), ("store", .ref (B.length + 1)), ("held", .ref (B.length + 2)), ("here", .int 0), ("talk", .ref (B.length + 3)), ("steps", .int 0), ("end", .non)], .lst (cells.map .int), .lst boxD, .lst []]).length = B.length + 4 := fun _ => by simp
  rw [e0]
  refine fin_nx (s2 := [some (.ref B.length), some (.tup ((kRows prog).map KR.d)), some (.int 0), some (.lst (cells.map .int)), some (.lst boxD), none]) (seq_nx (drop_ok (call_ok (cons_ok rfl (cons_ok rfl (cons_ok rfl (cons_ok rfl (cons_ok rfl rfl))))) (rowsZ_ok hl))) (seq_nx (fldS_ok (call_ok (cons_ok (em _ (by simp)) rfl) (show dictPN [.lst []] _ = .ok (.ref _) _ from rfl)) rfl (show stFld cs_state "state" (.ref B.length) _ _ = some (B ++ [AO.ins "Lazy" [("program", .tup ((kRows prog).map KR.d)), ("first", .int 64), ("store", .ref (B.length + 1)), ("held", .ref (B.length + 2)), ("here", .int 0), ("talk", .ref (B.length + 3)), ("steps", .int 0), ("end", .non), ("state", .ref (B.length + 4))], .lst (cells.map .int), .lst boxD, .lst [], .dct []]) from ?_)) ?_))
  · simp [sfld_ref, cs_state, putFD]
    rfl
  · simp [cs_hand, cs_order, sfld_ref, putFD, encZ, fsZ, e]
    simp [s0K, m0]
theorem initM_ok (hP : ∀ p ∈ prog, p.ok prog.length) (h0 : prog ≠ []) (hn : prog.length ≤ 30) (hl : cells.length = 64) (hc : ∀ z ∈ cells, inH z) :
    m_Machine___init__ [.ref A0.length, .tup ((kRows prog).map KR.d), .int 0, .lst (cells.map .int), .lst boxD] (A0 ++ [.ins "Machine" []]) = .ok .non (encZ (MB A0) ((kRows prog).map KR.d) (s0K cells)) := by
  have e0 : m_Machine___init__ [.ref A0.length, .tup ((kRows prog).map KR.d), .int 0, .lst (cells.map .int), .lst boxD] (A0 ++ [.ins "Machine" []]) = finS (b_Machine___init__ [some (.ref A0.length), some (.tup ((kRows prog).map KR.d)), some (.int 0), some (.lst (cells.map .int)), some (.lst boxD)] (A0 ++ [.ins "Machine" []])) := rfl
  have hB : (A0 ++ [AO.ins "Machine" []]).length = A0.length + 1 := by simp
  have st : stFld cs_lazy "lazy" (.ref A0.length) (.ref (A0 ++ [AO.ins "Machine" []]).length) (encZ (A0 ++ [.ins "Machine" []]) ((kRows prog).map KR.d) (s0K cells)) = some (encZ (MB A0) ((kRows prog).map KR.d) (s0K cells)) := by
    have g : (encZ (A0 ++ [.ins "Machine" []]) ((kRows prog).map KR.d) (s0K cells))[A0.length]? = some (.ins "Machine" []) := by simp [encZ]
    rw [sfld_ref, g]
    simp [cs_lazy, putFD, encZ, MB]
  exact e0.trans (fin_nx (seq_nx (drop_ok (call_ok (cons_ok rfl rfl) (need_programK_ok (rows_ok hP (by omega)) (rowsK_ne h0) (rowsK_len hn)))) (seq_nx (drop_ok (call_ok (cons_ok (call_ok (cons_ok rfl rfl) rfl) (cons_ok rfl (cons_ok rfl (cons_ok rfl rfl)))) (stateK_ok hl hc)))
    (fldS_ok (make_ok (cons_ok rfl (cons_ok rfl (cons_ok rfl (cons_ok rfl rfl)))) (initZ_ok hl)) rfl st))))
theorem f_lazy {ks : List D} : fldD cs_lazy "lazy" (.ref A0.length) (encZ (MB A0) ks s) = .ok (.ref (MB A0).length) (encZ (MB A0) ks s) := by
  have g : (encZ (MB A0) ks s)[A0.length]? = some (.ins "Machine" [("lazy", .ref (A0.length + 1))]) := by simp [encZ, MB]
  rw [fld_ref, g, MB_len]
  simp [cs_lazy, List.lookup]
theorem insM {ks : List D} : (encZ (MB A0) ks s)[A0.length]? = some (.ins "Machine" [("lazy", .ref (A0.length + 1))]) := by simp [encZ, MB]
theorem stepM_okZ (hP : ∀ p ∈ prog, p.ok prog.length) (hn : prog.length ≤ 60) (I : Inv prog s) (he : s.m.en = none) (hS : s.m.steps < 10000) :
    m_Machine_step [.ref A0.length] (encZ (MB A0) ((kRows prog).map KR.d) s) = .ok (.int s.m.here) (encZ (MB A0) ((kRows prog).map KR.d) (nxtK (kRows prog) s)) := by
  have e0 : m_Machine_step [.ref A0.length] (encZ (MB A0) ((kRows prog).map KR.d) s) = finS (b_Machine_step [some (.ref A0.length), none] (encZ (MB A0) ((kRows prog).map KR.d) s)) := rfl
  have fe := f_endZ (A0 := MB A0) (ks := (kRows prog).map KR.d) (s := s)
  rw [he] at fe
  exact e0.trans (fin_of (seq_nx (ifS_f (bin_ok (fld_ok (fld_ok rfl f_lazy) fe) rfl (show isntD .non .non _ = .ok (.bl false) _ from rfl)) rfl) (seq_nx (asg_ok (fld_ok (fld_ok rfl f_lazy) f_hereZ)) (seq_nx (drop_ok (meth_ok (fld_ok rfl f_lazy) insZ (by simp [fsZ, List.lookup]) rfl (stepZ hP hn I he hS))) (Tg.ret_ok rfl)))))
theorem ended_ok {ks : List D} : m_Machine_ended [.ref A0.length] (encZ (MB A0) ks s) = .ok (s.m.en.getD .non) (encZ (MB A0) ks s) := by
  have e0 : m_Machine_ended [.ref A0.length] (encZ (MB A0) ks s) = finS (b_Machine_ended [some (.ref A0.length)] (encZ (MB A0) ks s)) := rfl
  exact e0.trans (fin_of (Tg.ret_ok (fld_ok (fld_ok rfl f_lazy) f_endZ)))
theorem said_ok {ks : List D} : m_Machine_said [.ref A0.length] (encZ (MB A0) ks s) = .ok (.lst (s.m.said.map .int)) (encZ (MB A0) ks s) := by
  have e0 : m_Machine_said [.ref A0.length] (encZ (MB A0) ks s) = finS (b_Machine_said [some (.ref A0.length)] (encZ (MB A0) ks s)) := rfl
  have l : listD [.ref ((MB A0).length + 3)] (encZ (MB A0) ks s) = .ok (.lst (s.m.said.map .int)) (encZ (MB A0) ks s) := by
    simp [listD, itemsD, seq_ref, dct_ref, tkZ]
  exact e0.trans (fin_of (Tg.ret_ok (call_ok (cons_ok (fld_ok (fld_ok rfl f_lazy) f_talkZ) rfl) l)))
theorem cells_ok {ks : List D} (hc : s.m.cells.length = 64) : m_Machine_cells [.ref A0.length] (encZ (MB A0) ks s) = .ok (.lst (s.m.cells.map .int)) (encZ (MB A0) ks s) := by
  have e0 : m_Machine_cells [.ref A0.length] (encZ (MB A0) ks s) = finS (b_Machine_cells [some (.ref A0.length), none] (encZ (MB A0) ks s)) := rfl
  have l := lc_all (g := gmN 1) (tt := mYes) (te := mMeth "Lazy" "look" m_Lazy_look (mFld cs_lazy "lazy" (mv 0)) (mCons (mv 1) mNil)) (vs := [1]) (fin := finF) (s := [some (.ref A0.length), none]) (A := encZ (MB A0) ks s) (ps := s.m.cells.map fun z => (true, D.int z)) (it_ref (m := mFld cs_store "store" (mFld cs_lazy "lazy" (mv 0))) (fld_ok (fld_ok rfl f_lazy) f_storeZ) stZ) (nx_ref stZ) (ln_ref stZ) (by rw [List.length_map, hc]; decide)
    (All2.maps fun z _ => ⟨_, rfl, rfl, fun _ => meth_ok (fld_ok rfl f_lazy) insZ (by simp [fsZ, List.lookup]) (cons_ok rfl rfl) (lookZ (q := .n z))⟩)
  have e2 : ((s.m.cells.map fun z => (true, D.int z)).filter (·.1)).map (·.2) = s.m.cells.map .int := by
    rw [List.filter_eq_self.mpr fun x hx => by
      obtain ⟨z, _, rfl⟩ := List.mem_map.mp hx
      rfl, List.map_map]
    rfl
  rw [e2] at l
  exact e0.trans (fin_of (Tg.ret_ok l))
end
end K16

set_option Elab.async false
set_option linter.all false
set_option maxRecDepth 100000
set_option maxHeartbeats 4000000
/-! K16Y: the law's body. -/
namespace K16
open PySem Tg L2
open SX (S)
theorem ne_refR {n : Nat} {ds es : List D} {A : AH} (hA : A[n]? = some (.lst ds)) (h : (datL es && datL ds) = true) (h2 : (decide (depL es ≤ 10) && decide (depL ds ≤ 10)) = true) : neD (.lst es) (.ref n) A = .ok (.bl (!(eqB (.lst es) (.lst ds)))) A := by
  simp only [Bool.and_eq_true, decide_eq_true_eq] at h h2
  have e0 : scEq (.lst es) (.ref n) = none := rfl
  have e1 : pyOf 12 A (.ref n) = some (pyD (.lst ds)) := by
    show (match A[n]? with
      | some (.lst ds) => (pysOf (pyOf 11 A) ds).map PyData.list
      | _ => none) = _
    rw [hA]
    dsimp only
    rw [pysOf_dat ds 11 h.2 (by omega)]
    simp [pyD]
  unfold neD
  have s0 : SeqAt.shaped (pyD (.lst es)) = true := shaped_dat (by simpa [datD] using h.1) (by simp [depD]; omega)
  have s1 : SeqAt.shaped (pyD (.lst ds)) = true := shaped_dat (by simpa [datD] using h.2) (by simp [depD]; omega)
  rw [e0, e1, pyOf_dat (.lst es) 12 (by simpa [datD] using h.1) (by simp [depD]; omega)]
  simp only [s0, s1, Bool.and_self, if_true]
  rfl
theorem dat_ints (ns : List Int) : datL (ns.map D.int) = true ∧ depL (ns.map D.int) ≤ 10 := by
  refine ⟨datL_all fun d hd => ?_, depL_all fun d hd => ?_⟩
  · obtain ⟨z, _, rfl⟩ := List.mem_map.mp hd
    rfl
  · obtain ⟨z, _, rfl⟩ := List.mem_map.mp hd
    exact Nat.zero_le _
theorem sl_ref {n : Nat} {ds : List D} {lo hi : Option Int} {A : AH} (h : A[n]? = some (.lst ds)) : slD (.ref n) lo hi A = .ok (.lst (cutD ds lo hi)) A := by
  show (match seqL A (.ref n) with
    | some ds => R.ok (D.lst (cutD ds lo hi)) A
    | none => .bad) = _
  rw [seq_ref, h]
theorem cut_pre {l r : List Int} : cutD ((l ++ r).map D.int) none (some (l.length : Int)) = l.map D.int := by
  have e : HT.sIx ((l ++ r).map D.int).length ((l ++ r).map D.int).length (some (l.length : Int)) = l.length := by
    simp [HT.sIx]
    try omega
  unfold cutD
  rw [e]
  simp [HT.sIx]
theorem alike_intsL {A : AH} {n q : Nat} {vs : List Int} (hq : A[q]? = some (.lst (vs.map .int))) (hk : vs.length < 16777216) : m_alike (n + 2) [.lst (vs.map .int), .ref q] A = .ok (.bl true) A := by
  refine alike_seq (T := "list") rfl (by simp [tyD, hq]) (.inr rfl) (k := vs.length) (by
    show R.ok (D.int ((vs.map D.int).length : Nat)) A = _
    rw [List.length_map]) (by simp [len_ref, hq]) hk fun i h => ?_
  have e : (vs.map D.int)[i]? = some (.int vs[i]) := by rw [List.getElem?_map, List.getElem?_eq_getElem h]; rfl
  exact ⟨.int vs[i], .int vs[i], ix_lst (atI_ok e), ix_ref hq (atI_ok e), alike_int⟩
theorem steps_it {prog : List PR} (hP : ∀ p ∈ prog, p.ok prog.length) (hn : prog.length ≤ 60) {s : KM} (I : Inv prog s) (h0 : s.m.steps = 0) : ∀ k, (∀ k', k' < k → (itK (kRows prog) k' s).m.en = none) → (itK (kRows prog) k s).m.steps = k
  | 0, _ => h0
  | k + 1, h => by
    have := (nxt_okK hP hn (inv_it hP hn I k fun k' hk => h k' (by omega)) (h k (by omega))).2.1
    rw [steps_it hP hn I h0 k fun k' hk => h k' (by omega)] at this
    exact this
def l1 : MS := (mAsg (mCall m__law_plain (mCons (mv 1) (mCons (mBin ixD (mLst (mCons (mc (.int (8))) (mCons (mc (.int (30))) mNil))) (mCall m__law_taken (mCons (mv 1) (mCons (mc (.int (2))) mNil)))) mNil))) (gmN 3))
def l2 : MS := (mAsg (mLc (mRng1 (mCons (mc (.int (64))) mNil)) (gmN 16) mYes (mCall m__law_number (mCons (mv 1) mNil)) [16] finF) (gmN 4))
def l3 : MS := (mAsg (mCall m_run_places (mCons (mv 3) (mCons (mv 4) (mCons (mc (.int (150))) mNil)))) (gmTup 4 (gmCons (gmN 5) (gmCons (gmN 6) (gmCons (gmN 7) (gmCons (gmN 8) gmNil))))))
def l4 : MS := (mAsg (mCall m_keyed (mCons (mv 3) mNil)) (gmTup 2 (gmCons (gmN 9) (gmCons (gmN 10) gmNil))))
def l5 : MS := (mIfS (mOr (mTb (mBin neD (mCall lenD (mCons (mv 9) mNil)) (mCall lenD (mCons (mv 10) mNil)))) (mTb (mBin neD (mLc (miAny (mv 10)) (gmN 17) (mNot (mTb (mChain leD ltD (mc (.int (0))) (mv 17) (mCall lenD (mCons (mv 3) mNil))))) (mv 17) [17] finF) (mLst mNil)))) (mRet (mc (.bl false))) mNx)
def l6 : MS := (mAsg (mBin addD (mBin mulD (mLst (mCons (mc (.int (0))) mNil)) (mc (.int (7)))) (mLst (mCons (mTup (mCons (mc (.str "key")) (mCons (mc (.int (0))) (mCons (mc (.int (64))) (mCons (mc (.int (0))) (mCons (mc (.str "gs")) mNil)))))) mNil))) (gmN 11))
def l7 : MS := (mIfS (mTb (mBin neD (mv 6) (mTup (mCons (mc (.str "long")) mNil)))) (mSeq (mAsg (mCall m_run (mCons (mv 9) (mCons (mc (.int (0))) (mCons (mv 4) (mCons (mv 11) (mCons (mc (.int (3000))) mNil)))))) (gmN 12))
  (mSeq (mAsg (mBin ixD (mv 12) (mc (.int (1)))) (gmN 13))
  (mSeq (mIfS (mTb (mBin eqD (mBin ixD (mv 13) (mc (.int (0)))) (mc (.str "fault")))) (mAsg (mBin addD (mSl (mv 13) mNoPart (mPart (mc (.int (2))))) (mTup (mCons (mBin ixD (mv 10) (mBin ixD (mv 13) (mc (.int (2))))) mNil))) (gmN 13)) mNx)
  (mSeq (mIfS (mNot (mTb (mCall (m__law_alike 4) (mCons (mTup (mCons (mBin ixD (mv 12) (mc (.int (0)))) (mCons (mv 13) mNil))) (mCons (mTup (mCons (mv 5) (mCons (mv 6) mNil))) mNil))))) (mRet (mc (.bl false))) mNx)
  (mSeq (mAsg (mMake "Machine" m_Machine___init__ (mCons (mv 9) (mCons (mc (.int (0))) (mCons (mv 4) (mCons (mv 11) mNil))))) (gmN 14))
  (mSeq (mFor (mRng1 (mCons (mBin ixD (mv 12) (mc (.int (2)))) mNil)) (gmN 15) (mDrop (mMeth "Machine" "step" m_Machine_step (mv 14) mNil)))
  (mIfS (mOr (mTb (mBin isD (mMeth "Machine" "ended" m_Machine_ended (mv 14) mNil) (mc .non))) (mNot (mTb (mCall (m__law_alike 4) (mCons (mLst (mCons (mMeth "Machine" "cells" m_Machine_cells (mv 14) mNil) (mCons (mMeth "Machine" "said" m_Machine_said (mv 14) mNil) mNil))) (mCons (mLst (mCons (mv 8) (mCons (mv 5) mNil))) mNil)))))) (mRet (mc (.bl false))) mNx))))))) (mSeq (mAsg (mCall m_run (mCons (mv 9) (mCons (mc (.int (0))) (mCons (mv 4) (mCons (mv 11) (mCons (mc (.int (3000))) mNil)))))) (gmN 12))
  (mIfS (mTb (mBin neD (mSl (mBin ixD (mv 12) (mc (.int (0)))) mNoPart (mPart (mCall lenD (mCons (mv 5) mNil)))) (mv 5))) (mRet (mc (.bl false))) mNx)))

def lBody : MS := (mSeq (mAsg (mCall m__law_plain (mCons (mv 1) (mCons (mBin ixD (mLst (mCons (mc (.int (8))) (mCons (mc (.int (30))) mNil))) (mCall m__law_taken (mCons (mv 1) (mCons (mc (.int (2))) mNil)))) mNil))) (gmN 3))
  (mSeq (mAsg (mLc (mRng1 (mCons (mc (.int (64))) mNil)) (gmN 16) mYes (mCall m__law_number (mCons (mv 1) mNil)) [16] finF) (gmN 4))
  (mSeq (mAsg (mCall m_run_places (mCons (mv 3) (mCons (mv 4) (mCons (mc (.int (150))) mNil)))) (gmTup 4 (gmCons (gmN 5) (gmCons (gmN 6) (gmCons (gmN 7) (gmCons (gmN 8) gmNil))))))
  (mSeq (mAsg (mCall m_keyed (mCons (mv 3) mNil)) (gmTup 2 (gmCons (gmN 9) (gmCons (gmN 10) gmNil))))
  (mSeq (mIfS (mOr (mTb (mBin neD (mCall lenD (mCons (mv 9) mNil)) (mCall lenD (mCons (mv 10) mNil)))) (mTb (mBin neD (mLc (miAny (mv 10)) (gmN 17) (mNot (mTb (mChain leD ltD (mc (.int (0))) (mv 17) (mCall lenD (mCons (mv 3) mNil))))) (mv 17) [17] finF) (mLst mNil)))) (mRet (mc (.bl false))) mNx)
  (mSeq (mAsg (mBin addD (mBin mulD (mLst (mCons (mc (.int (0))) mNil)) (mc (.int (7)))) (mLst (mCons (mTup (mCons (mc (.str "key")) (mCons (mc (.int (0))) (mCons (mc (.int (64))) (mCons (mc (.int (0))) (mCons (mc (.str "gs")) mNil)))))) mNil))) (gmN 11))
  (mIfS (mTb (mBin neD (mv 6) (mTup (mCons (mc (.str "long")) mNil)))) (mSeq (mAsg (mCall m_run (mCons (mv 9) (mCons (mc (.int (0))) (mCons (mv 4) (mCons (mv 11) (mCons (mc (.int (3000))) mNil)))))) (gmN 12))
  (mSeq (mAsg (mBin ixD (mv 12) (mc (.int (1)))) (gmN 13))
  (mSeq (mIfS (mTb (mBin eqD (mBin ixD (mv 13) (mc (.int (0)))) (mc (.str "fault")))) (mAsg (mBin addD (mSl (mv 13) mNoPart (mPart (mc (.int (2))))) (mTup (mCons (mBin ixD (mv 10) (mBin ixD (mv 13) (mc (.int (2))))) mNil))) (gmN 13)) mNx)
  (mSeq (mIfS (mNot (mTb (mCall (m__law_alike 4) (mCons (mTup (mCons (mBin ixD (mv 12) (mc (.int (0)))) (mCons (mv 13) mNil))) (mCons (mTup (mCons (mv 5) (mCons (mv 6) mNil))) mNil))))) (mRet (mc (.bl false))) mNx)
  (mSeq (mAsg (mMake "Machine" m_Machine___init__ (mCons (mv 9) (mCons (mc (.int (0))) (mCons (mv 4) (mCons (mv 11) mNil))))) (gmN 14))
  (mSeq (mFor (mRng1 (mCons (mBin ixD (mv 12) (mc (.int (2)))) mNil)) (gmN 15) (mDrop (mMeth "Machine" "step" m_Machine_step (mv 14) mNil)))
  (mIfS (mOr (mTb (mBin isD (mMeth "Machine" "ended" m_Machine_ended (mv 14) mNil) (mc .non))) (mNot (mTb (mCall (m__law_alike 4) (mCons (mLst (mCons (mMeth "Machine" "cells" m_Machine_cells (mv 14) mNil) (mCons (mMeth "Machine" "said" m_Machine_said (mv 14) mNil) mNil))) (mCons (mLst (mCons (mv 8) (mCons (mv 5) mNil))) mNil)))))) (mRet (mc (.bl false))) mNx))))))) (mSeq (mAsg (mCall m_run (mCons (mv 9) (mCons (mc (.int (0))) (mCons (mv 4) (mCons (mv 11) (mCons (mc (.int (3000))) mNil)))))) (gmN 12))
  (mIfS (mTb (mBin neD (mSl (mBin ixD (mv 12) (mc (.int (0)))) mNoPart (mPart (mCall lenD (mCons (mv 5) mNil)))) (mv 5))) (mRet (mc (.bl false))) mNx)))))))))
def lC : ME := (mBin neD (mv 6) (mTup (mCons (mc (.str "long")) mNil)))
def w1 : MS := (mAsg (mCall m_run (mCons (mv 9) (mCons (mc (.int (0))) (mCons (mv 4) (mCons (mv 11) (mCons (mc (.int (3000))) mNil)))))) (gmN 12))
def w2 : MS := (mAsg (mBin ixD (mv 12) (mc (.int (1)))) (gmN 13))
def w3 : MS := (mIfS (mTb (mBin eqD (mBin ixD (mv 13) (mc (.int (0)))) (mc (.str "fault")))) (mAsg (mBin addD (mSl (mv 13) mNoPart (mPart (mc (.int (2))))) (mTup (mCons (mBin ixD (mv 10) (mBin ixD (mv 13) (mc (.int (2))))) mNil))) (gmN 13)) mNx)
def w4 : MS := (mIfS (mNot (mTb (mCall (m__law_alike 4) (mCons (mTup (mCons (mBin ixD (mv 12) (mc (.int (0)))) (mCons (mv 13) mNil))) (mCons (mTup (mCons (mv 5) (mCons (mv 6) mNil))) mNil))))) (mRet (mc (.bl false))) mNx)
def w5 : MS := (mAsg (mMake "Machine" m_Machine___init__ (mCons (mv 9) (mCons (mc (.int (0))) (mCons (mv 4) (mCons (mv 11) mNil))))) (gmN 14))
def w6 : MS := (mFor (mRng1 (mCons (mBin ixD (mv 12) (mc (.int (2)))) mNil)) (gmN 15) (mDrop (mMeth "Machine" "step" m_Machine_step (mv 14) mNil)))
def w7 : MS := (mIfS (mOr (mTb (mBin isD (mMeth "Machine" "ended" m_Machine_ended (mv 14) mNil) (mc .non))) (mNot (mTb (mCall (m__law_alike 4) (mCons (mLst (mCons (mMeth "Machine" "cells" m_Machine_cells (mv 14) mNil) (mCons (mMeth "Machine" "said" m_Machine_said (mv 14) mNil) mNil))) (mCons (mLst (mCons (mv 8) (mCons (mv 5) mNil))) mNil)))))) (mRet (mc (.bl false))) mNx)

def t1 : MS := (mAsg (mCall m_run (mCons (mv 9) (mCons (mc (.int (0))) (mCons (mv 4) (mCons (mv 11) (mCons (mc (.int (3000))) mNil)))))) (gmN 12))
def t2 : MS := (mIfS (mTb (mBin neD (mSl (mBin ixD (mv 12) (mc (.int (0)))) mNoPart (mPart (mCall lenD (mCons (mv 5) mNil)))) (mv 5))) (mRet (mc (.bl false))) mNx)

def bM : MS := (mDrop (mMeth "Machine" "step" m_Machine_step (mv 14) mNil))
theorem l7_eq : l7 = mIfS (mTb lC) (mSeq w1 (mSeq w2 (mSeq w3 (mSeq w4 (mSeq w5 (mSeq (mFor (mRng1 (mCons (mBin ixD (mv 12) (mc (.int (2)))) mNil)) (gmN 15) bM) w7)))))) (mSeq t1 t2) := rfl
theorem lBody_eq : lBody = mSeq l1 (mSeq l2 (mSeq l3 (mSeq l4 (mSeq l5 (mSeq l6 l7))))) := rfl
section
variable {ns : List Int} {A : AH} {o2 o3 o4 o5 o6 o7 o8 o9 o10 o11 o12 o13 o14 o15 o16 o17 : Option D}
theorem l1_ok (h : RowAt 0 ns A) : ∃ (prog : List PR) (A' : AH), l1 [some (.scr ns), some (.ref 0), o2, o3, o4, o5, o6, o7, o8, o9, o10, o11, o12, o13, o14, o15, o16, o17] A = .nx [some (.scr ns), some (.ref 0), o2, some (.tup (prog.map PR.d)), o4, o5, o6, o7, o8, o9, o10, o11, o12, o13, o14, o15, o16, o17] A' ∧ RowAt 0 ns A' ∧ (∀ p ∈ prog, p.ok prog.length) ∧ prog ≠ [] ∧ prog.length ≤ 30 := by
  obtain ⟨w, A1, e1, h1, w1⟩ := takenN 2 h ⟨by omega, by omega⟩
  have hk : ∃ i : Int, 0 < i ∧ i ≤ 30 ∧ atI [D.int 8, D.int 30] (w : Int) = some (.int i) := by
    have hk : w = 0 ∨ w = 1 := by omega
    rcases hk with rfl | rfl
    · exact ⟨8, by omega, by omega, at0⟩
    · exact ⟨30, by omega, by omega, at1⟩
  obtain ⟨i, i0, i1, hi⟩ := hk
  obtain ⟨prog, A2, e2, h2, z⟩ := plainL_ok h1 ⟨i0, i1⟩
  exact ⟨prog, A2, by simp [l1, tk, e1, hi, e2], h2, z⟩
theorem l2_ok {prog : List PR} (h : RowAt 0 ns A) : ∃ (cells : List Int) (A' : AH), l2 [some (.scr ns), some (.ref 0), o2, some (.tup (prog.map PR.d)), o4, o5, o6, o7, o8, o9, o10, o11, o12, o13, o14, o15, o16, o17] A = .nx [some (.scr ns), some (.ref 0), o2, some (.tup (prog.map PR.d)), some (.lst (cells.map .int)), o5, o6, o7, o8, o9, o10, o11, o12, o13, o14, o15, o16, o17] A' ∧ RowAt 0 ns A' ∧ cells.length = 64 ∧ (∀ z ∈ cells, inH z) := by
  obtain ⟨ys, A2, e3, h2, l2', P2⟩ := lc_gen (mi := mRng1 (mCons (mc (.int 64)) mNil)) (s := [some (.scr ns), some (.ref 0), o2, some (.tup (prog.map PR.d)), o4, o5, o6, o7, o8, o9, o10, o11, o12, o13, o14, o15, o16, o17]) (g := gmN 16) (tt := mYes) (te := mCall m__law_number (mCons (mv 1) mNil)) (vs := [16]) (RowAt 0 ns) (fun d => ∃ v, d = .int v ∧ inH v) (rng1 (j := 64) (A1 := A) rfl (by decide)) (by rw [List.length_map, List.length_range]; decide) h (fun d _ B hB => by
    obtain ⟨v, B', e, hB', v0, v1⟩ := number_ok hB
    exact ⟨_, .int v, B', rfl, rfl, by simp [wpD, e], hB', v, rfl, v0, v1⟩)
  obtain ⟨cells, rfl, hc⟩ := ints_of P2
  rw [List.length_map, List.length_map, List.length_range] at l2'
  refine ⟨cells, A2, ?_, h2, l2', hc⟩
  show (mAsg (mLc (mRng1 (mCons (mc (.int 64)) mNil)) (gmN 16) mYes (mCall m__law_number (mCons (mv 1) mNil)) [16] finF) (gmN 4)) _ _ = _
  rw [e_asgN, e3]
  rfl
section
variable {prog : List PR} {cells : List Int} {m : M} {q c : Nat}
theorem l3_ok (hP : ∀ p ∈ prog, p.ok prog.length) (h0 : prog ≠ []) (h1 : prog.length ≤ 30) (hl : cells.length = 64) (hc : ∀ z ∈ cells, inH z) : l3 [some (.scr ns), some (.ref 0), o2, some (.tup (prog.map PR.d)), some (.lst (cells.map .int)), o5, o6, o7, o8, o9, o10, o11, o12, o13, o14, o15, o16, o17] A = .nx [some (.scr ns), some (.ref 0), o2, some (.tup (prog.map PR.d)), some (.lst (cells.map .int)), some (.ref (A.length + 3)), some ((fin prog cells 150).en.getD longD), some (.int (fin prog cells 150).steps), some (.ref (A.length + 1)), o9, o10, o11, o12, o13, o14, o15, o16, o17] (enc A prog (fin prog cells 150)) := by
  obtain ⟨e, _, _⟩ := run_ok (A0 := A) (fuel := 150) hP h0 h1 hl hc (by decide) (by decide)
  unfold l3 mAsg
  rw [call_ok (cons_ok rfl (cons_ok rfl (cons_ok rfl rfl))) e]
  rfl
theorem l4_ok (hP : ∀ p ∈ prog, p.ok prog.length) (h0 : prog ≠ []) (h1 : prog.length ≤ 30) : ∃ l, l4 [some (.scr ns), some (.ref 0), o2, some (.tup (prog.map PR.d)), some (.lst (cells.map .int)), some (.ref q), some (m.en.getD longD), some (.int m.steps), some (.ref c), o9, o10, o11, o12, o13, o14, o15, o16, o17] A = .nx [some (.scr ns), some (.ref 0), o2, some (.tup (prog.map PR.d)), some (.lst (cells.map .int)), some (.ref q), some (m.en.getD longD), some (.int m.steps), some (.ref c), some (.tup ((kRows prog).map KR.d)), some (.tup ((orgs prog prog.length).map nD)), o11, o12, o13, o14, o15, o16, o17] (A ++ l) := by
  obtain ⟨l, e⟩ := keyed_ok (A := A) hP h0 h1
  refine ⟨l, ?_⟩
  unfold l4 mAsg
  rw [call_ok (cons_ok rfl rfl) e]
  rfl
theorem l5_ok (h1 : prog.length ≤ 30) : l5 [some (.scr ns), some (.ref 0), o2, some (.tup (prog.map PR.d)), some (.lst (cells.map .int)), some (.ref q), some (m.en.getD longD), some (.int m.steps), some (.ref c), some (.tup ((kRows prog).map KR.d)), some (.tup ((orgs prog prog.length).map nD)), o11, o12, o13, o14, o15, o16, o17] A = .nx [some (.scr ns), some (.ref 0), o2, some (.tup (prog.map PR.d)), some (.lst (cells.map .int)), some (.ref q), some (m.en.getD longD), some (.int m.steps), some (.ref c), some (.tup ((kRows prog).map KR.d)), some (.tup ((orgs prog prog.length).map nD)), o11, o12, o13, o14, o15, o16, o17] A := by
  have b1 := begP_le (prog := prog) (Nat.le_refl _)
  have n1 : (mTb (mBin neD (mCall lenD (mCons (mv 9) mNil)) (mCall lenD (mCons (mv 10) mNil)))) [some (.scr ns), some (.ref 0), o2, some (.tup (prog.map PR.d)), some (.lst (cells.map .int)), some (.ref q), some (m.en.getD longD), some (.int m.steps), some (.ref c), some (.tup ((kRows prog).map KR.d)), some (.tup ((orgs prog prog.length).map nD)), o11, o12, o13, o14, o15, o16, o17] A = .ok false A := by
    have e1 : lenD [.tup ((kRows prog).map KR.d)] A = .ok (.int (begP prog prog.length : Nat)) A := by
      show R.ok (D.int (((kRows prog).map KR.d).length : Nat)) A = _
      rw [List.length_map, rows_len]
    have e2 : lenD [.tup ((orgs prog prog.length).map nD)] A = .ok (.int (begP prog prog.length : Nat)) A := by
      show R.ok (D.int (((orgs prog prog.length).map nD).length : Nat)) A = _
      rw [List.length_map, orgs_len (Nat.le_refl _)]
    rw [e_tb, bin_ok (call_ok (cons_ok rfl rfl) e1) (call_ok (cons_ok rfl rfl) e2) o_neI, kT_0]
    simp
  have n2 : (mLc (miAny (mv 10)) (gmN 17) (mNot (mTb (mChain leD ltD (mc (.int (0))) (mv 17) (mCall lenD (mCons (mv 3) mNil))))) (mv 17) [17] finF) [some (.scr ns), some (.ref 0), o2, some (.tup (prog.map PR.d)), some (.lst (cells.map .int)), some (.ref q), some (m.en.getD longD), some (.int m.steps), some (.ref c), some (.tup ((kRows prog).map KR.d)), some (.tup ((orgs prog prog.length).map nD)), o11, o12, o13, o14, o15, o16, o17] A = .ok (.lst []) A := by
    have hd := lc_pure (g := gmN 17) (tt := mNot (mTb (mChain leD ltD (mc (.int (0))) (mv 17) (mCall lenD (mCons (mv 3) mNil))))) (te := mv 17) (vs := [17]) (mi := miAny (mv 10)) (s := [some (.scr ns), some (.ref 0), o2, some (.tup (prog.map PR.d)), some (.lst (cells.map .int)), some (.ref q), some (m.en.getD longD), some (.int m.steps), some (.ref c), some (.tup ((kRows prog).map KR.d)), some (.tup ((orgs prog prog.length).map nD)), o11, o12, o13, o14, o15, o16, o17]) (A := A) (ds := (orgs prog prog.length).map nD) (fun _ => false) (fun d => d) rfl (by rw [List.length_map, orgs_len (Nat.le_refl _)]; omega) (fun d hd => by
      obtain ⟨i, hi, rfl⟩ := List.mem_map.mp hd
      have lt := orgs_mem (Nat.le_refl _) i hi
      have p1 : (0 : Int) ≤ i := by omega
      have p2 : (i : Int) < prog.length := by omega
      exact ⟨_, rfl, by simp [wpD, nD, p1, p2, hi], fun z => nomatch z⟩)
    rw [show ∀ l : List D, l.filter (fun _ => false) = [] from fun l => by simp] at hd
    exact hd
  have n3 : (mTb (mBin neD (mLc (miAny (mv 10)) (gmN 17) (mNot (mTb (mChain leD ltD (mc (.int (0))) (mv 17) (mCall lenD (mCons (mv 3) mNil))))) (mv 17) [17] finF) (mLst mNil))) [some (.scr ns), some (.ref 0), o2, some (.tup (prog.map PR.d)), some (.lst (cells.map .int)), some (.ref q), some (m.en.getD longD), some (.int m.steps), some (.ref c), some (.tup ((kRows prog).map KR.d)), some (.tup ((orgs prog prog.length).map nD)), o11, o12, o13, o14, o15, o16, o17] A = .ok false A := by
    rw [e_tb, bin_ok n2 rfl (ne_lstF (A := A) (ds := []) (es := []) rfl)]
    rfl
  unfold l5
  rw [e_ifS, e_or, n1, kOr_1, n3]
  rfl
theorem l6_ok : l6 [some (.scr ns), some (.ref 0), o2, some (.tup (prog.map PR.d)), some (.lst (cells.map .int)), some (.ref q), some (m.en.getD longD), some (.int m.steps), some (.ref c), some (.tup ((kRows prog).map KR.d)), some (.tup ((orgs prog prog.length).map nD)), o11, o12, o13, o14, o15, o16, o17] A = .nx [some (.scr ns), some (.ref 0), o2, some (.tup (prog.map PR.d)), some (.lst (cells.map .int)), some (.ref q), some (m.en.getD longD), some (.int m.steps), some (.ref c), some (.tup ((kRows prog).map KR.d)), some (.tup ((orgs prog prog.length).map nD)), some (.lst boxD), o12, o13, o14, o15, o16, o17] A := by
  have e1 : mulD (.lst [.int 0]) (.int 7) A = .ok (.lst (List.replicate 7 (.int 0))) A := mulL (k := 7) (by decide)
  have e2 : addD (.lst (List.replicate 7 (.int 0))) (.lst [(Q.k 0).d]) A = .ok (.lst boxD) A := by
    show (if (List.replicate 7 (D.int 0)).length + 1 ≤ 16777216 then R.ok (D.lst (List.replicate 7 (D.int 0) ++ [(Q.k 0).d])) A else .bad) = _
    rw [if_pos (by decide)]
    rfl
  exact asg_ok (bin_ok (bin_ok (show (mLst (mCons (mc (.int 0)) mNil)) _ _ = .ok (.lst [.int 0]) _ from rfl) rfl e1) rfl e2)
/-! the long run -/
theorem tt_ok {k : KM} (hr : ∀ B : AH, m_run [.tup ((kRows prog).map KR.d), .int 0, .lst (cells.map .int), .lst boxD, .int 3000] B = .ok (.tup [.ref (B.length + 3), k.m.en.getD longD, .int k.m.steps]) (encA B ((kRows prog).map KR.d) k)) (hq : A[q]? = some (.lst (m.said.map .int))) (hl : ∃ l, k.m.said = m.said ++ l) :
    (mSeq t1 t2) [some (.scr ns), some (.ref 0), o2, some (.tup (prog.map PR.d)), some (.lst (cells.map .int)), some (.ref q), some (m.en.getD longD), some (.int m.steps), some (.ref c), some (.tup ((kRows prog).map KR.d)), some (.tup ((orgs prog prog.length).map nD)), some (.lst boxD), o12, o13, o14, o15, o16, o17] A = .nx [some (.scr ns), some (.ref 0), o2, some (.tup (prog.map PR.d)), some (.lst (cells.map .int)), some (.ref q), some (m.en.getD longD), some (.int m.steps), some (.ref c), some (.tup ((kRows prog).map KR.d)), some (.tup ((orgs prog prog.length).map nD)), some (.lst boxD), some (.tup [.ref (A.length + 3), k.m.en.getD longD, .int k.m.steps]), o13, o14, o15, o16, o17] (encA A ((kRows prog).map KR.d) k) := by
  obtain ⟨l, hl⟩ := hl
  have lt := (List.getElem?_eq_some_iff.mp hq).1
  have hq' : (encA A ((kRows prog).map KR.d) k)[q]? = some (.lst (m.said.map .int)) := by
    unfold encA
    rw [List.getElem?_append_left lt, hq]
  have ht := tkA (A0 := A) (ks := (kRows prog).map KR.d) (s := k)
  rw [hl] at ht
  have c1 : t1 [some (.scr ns), some (.ref 0), o2, some (.tup (prog.map PR.d)), some (.lst (cells.map .int)), some (.ref q), some (m.en.getD longD), some (.int m.steps), some (.ref c), some (.tup ((kRows prog).map KR.d)), some (.tup ((orgs prog prog.length).map nD)), some (.lst boxD), o12, o13, o14, o15, o16, o17] A = .nx [some (.scr ns), some (.ref 0), o2, some (.tup (prog.map PR.d)), some (.lst (cells.map .int)), some (.ref q), some (m.en.getD longD), some (.int m.steps), some (.ref c), some (.tup ((kRows prog).map KR.d)), some (.tup ((orgs prog prog.length).map nD)), some (.lst boxD), some (.tup [.ref (A.length + 3), k.m.en.getD longD, .int k.m.steps]), o13, o14, o15, o16, o17] (encA A ((kRows prog).map KR.d) k) := asg_ok (call_ok (cons_ok rfl (cons_ok rfl (cons_ok rfl (cons_ok rfl (cons_ok rfl rfl))))) (hr A))
  generalize encA A ((kRows prog).map KR.d) k = B at c1 hq' ht ⊢
  have ln : lenD [.ref q] B = .ok (.int (m.said.length : Nat)) B := by simp [len_ref, hq']
  have sl : (mSl (mBin ixD (mv 12) (mc (.int (0)))) mNoPart (mPart (mCall lenD (mCons (mv 5) mNil)))) [some (.scr ns), some (.ref 0), o2, some (.tup (prog.map PR.d)), some (.lst (cells.map .int)), some (.ref q), some (m.en.getD longD), some (.int m.steps), some (.ref c), some (.tup ((kRows prog).map KR.d)), some (.tup ((orgs prog prog.length).map nD)), some (.lst boxD), some (.tup [.ref (A.length + 3), k.m.en.getD longD, .int k.m.steps]), o13, o14, o15, o16, o17] B = .ok (.lst (m.said.map .int)) B := by
    have e := sl_ref (lo := none) (hi := some (m.said.length : Int)) ht
    rw [cut_pre] at e
    simp [ln, e]
  have ne : neD (.lst (m.said.map .int)) (.ref q) B = .ok (.bl false) B := by
    obtain ⟨d1, d2⟩ := dat_ints m.said
    rw [ne_refR hq' (by rw [d1]; rfl) (by simp [d2]), eqB_refl (by simpa [datD] using d1)]
    rfl
  exact seq_nx c1 (ifS_f (bin_ok sl rfl ne) rfl)
/-! the run that ends -/
theorem ww_ok {k : KM} {t : Nat} (hP : ∀ p ∈ prog, p.ok prog.length) (h0 : prog ≠ []) (hn : prog.length ≤ 30) (hlc : cells.length = 64) (hcc : ∀ z ∈ cells, inH z) (hr : ∀ B : AH, m_run [.tup ((kRows prog).map KR.d), .int 0, .lst (cells.map .int), .lst boxD, .int 3000] B = .ok (.tup [.ref (B.length + 3), k.m.en.getD longD, .int k.m.steps]) (encA B ((kRows prog).map KR.d) k))
    (hq : A[q]? = some (.lst (m.said.map .int))) (hc : A[c]? = some (.lst (m.cells.map .int))) (hk : k = itK (kRows prog) t (s0K cells)) (hal : ∀ j, j < t → (itK (kRows prog) j (s0K cells)).m.en = none) (hst : k.m.steps = t) (ht : t ≤ 3000) (rel : Rel prog m k) (he : m.en ≠ none) (I : Inv prog k) :
    ∃ o14' o15' A', (mSeq w1 (mSeq w2 (mSeq w3 (mSeq w4 (mSeq w5 (mSeq (mFor (mRng1 (mCons (mBin ixD (mv 12) (mc (.int (2)))) mNil)) (gmN 15) bM) w7)))))) [some (.scr ns), some (.ref 0), o2, some (.tup (prog.map PR.d)), some (.lst (cells.map .int)), some (.ref q), some (m.en.getD longD), some (.int m.steps), some (.ref c), some (.tup ((kRows prog).map KR.d)), some (.tup ((orgs prog prog.length).map nD)), some (.lst boxD), o12, o13, o14, o15, o16, o17] A = .nx [some (.scr ns), some (.ref 0), o2, some (.tup (prog.map PR.d)), some (.lst (cells.map .int)), some (.ref q), some (m.en.getD longD), some (.int m.steps), some (.ref c), some (.tup ((kRows prog).map KR.d)), some (.tup ((orgs prog prog.length).map nD)), some (.lst boxD), some (.tup [.ref (A.length + 3), k.m.en.getD longD, .int k.m.steps]), some (m.en.getD longD), o14', o15', o16, o17] A' ∧ ∃ l, A' = A ++ l := by
  have ltq := (List.getElem?_eq_some_iff.mp hq).1
  have ltc := (List.getElem?_eq_some_iff.mp hc).1
  obtain ⟨B, hB⟩ : ∃ B, encA A ((kRows prog).map KR.d) k = B := ⟨_, rfl⟩
  have hq' : B[q]? = some (.lst (m.said.map .int)) := by
    rw [← hB]
    unfold encA
    rw [List.getElem?_append_left ltq, hq]
  have hc' : B[c]? = some (.lst (m.cells.map .int)) := by
    rw [← hB]
    unfold encA
    rw [List.getElem?_append_left ltc, hc]
  have htk := tkA (A0 := A) (ks := (kRows prog).map KR.d) (s := k)
  rw [rel.t, hB] at htk
  have hs1 : m.said.length < 16777216 := by
    have := I.k.s
    rw [rel.t] at this
    omega
  have hcl : m.cells.length = 64 := by rw [← rel.c]; exact I.k.c
  have c1 : w1 [some (.scr ns), some (.ref 0), o2, some (.tup (prog.map PR.d)), some (.lst (cells.map .int)), some (.ref q), some (m.en.getD longD), some (.int m.steps), some (.ref c), some (.tup ((kRows prog).map KR.d)), some (.tup ((orgs prog prog.length).map nD)), some (.lst boxD), o12, o13, o14, o15, o16, o17] A = .nx [some (.scr ns), some (.ref 0), o2, some (.tup (prog.map PR.d)), some (.lst (cells.map .int)), some (.ref q), some (m.en.getD longD), some (.int m.steps), some (.ref c), some (.tup ((kRows prog).map KR.d)), some (.tup ((orgs prog prog.length).map nD)), some (.lst boxD), some (.tup [.ref (A.length + 3), k.m.en.getD longD, .int k.m.steps]), o13, o14, o15, o16, o17] B := by
    rw [← hB]
    exact asg_ok (call_ok (cons_ok rfl (cons_ok rfl (cons_ok rfl (cons_ok rfl (cons_ok rfl rfl))))) (hr A))
  have ends : (∃ e, k.m.en = some e) ∧ (m.en.getD longD = endD ∨ ∃ i, m.en.getD longD = faultD i) := by
    rcases rel.e with ⟨z, _⟩ | ⟨z1, z2⟩ | ⟨i, j, z1, z2, _⟩
    · exact absurd z he
    · exact ⟨⟨_, z2⟩, .inl (by rw [z1]; rfl)⟩
    · exact ⟨⟨_, z2⟩, .inr ⟨i, by rw [z1]; rfl⟩⟩
  obtain ⟨⟨ke, hke⟩, hE⟩ := ends
  have c23 : ∀ B, ∃ e, w2 [some (.scr ns), some (.ref 0), o2, some (.tup (prog.map PR.d)), some (.lst (cells.map .int)), some (.ref q), some (m.en.getD longD), some (.int m.steps), some (.ref c), some (.tup ((kRows prog).map KR.d)), some (.tup ((orgs prog prog.length).map nD)), some (.lst boxD), some (.tup [.ref (A.length + 3), k.m.en.getD longD, .int k.m.steps]), o13, o14, o15, o16, o17] B = .nx [some (.scr ns), some (.ref 0), o2, some (.tup (prog.map PR.d)), some (.lst (cells.map .int)), some (.ref q), some (m.en.getD longD), some (.int m.steps), some (.ref c), some (.tup ((kRows prog).map KR.d)), some (.tup ((orgs prog prog.length).map nD)), some (.lst boxD), some (.tup [.ref (A.length + 3), k.m.en.getD longD, .int k.m.steps]), some (e), o14, o15, o16, o17] B ∧ w3 [some (.scr ns), some (.ref 0), o2, some (.tup (prog.map PR.d)), some (.lst (cells.map .int)), some (.ref q), some (m.en.getD longD), some (.int m.steps), some (.ref c), some (.tup ((kRows prog).map KR.d)), some (.tup ((orgs prog prog.length).map nD)), some (.lst boxD), some (.tup [.ref (A.length + 3), k.m.en.getD longD, .int k.m.steps]), some (e), o14, o15, o16, o17] B = .nx [some (.scr ns), some (.ref 0), o2, some (.tup (prog.map PR.d)), some (.lst (cells.map .int)), some (.ref q), some (m.en.getD longD), some (.int m.steps), some (.ref c), some (.tup ((kRows prog).map KR.d)), some (.tup ((orgs prog prog.length).map nD)), some (.lst boxD), some (.tup [.ref (A.length + 3), k.m.en.getD longD, .int k.m.steps]), some (m.en.getD longD), o14, o15, o16, o17] B := by
    intro B
    rcases rel.e with ⟨z, _⟩ | ⟨z1, z2⟩ | ⟨i, j, z1, z2, z3⟩
    · exact absurd z he
    · rw [z1, z2]
      exact ⟨endD, asg_ok (bin_ok rfl rfl (ix_tup at1)), ifS_f (bin_ok (bin_ok rfl rfl (ix_tup at0)) rfl (by rw [eq_st]; rfl)) rfl⟩
    · rw [z1, z2]
      have ix : ixD (.tup ((orgs prog prog.length).map nD)) (.int (j : Int)) B = .ok (nD i) B := ix_tup (by
        rw [Tg.atI_nat, List.getElem?_map, z3]
        rfl)
      have sl : ∀ s, mv 13 s B = .ok (faultD j) B → (mSl (mv 13) mNoPart (mPart (mc (.int (2))))) s B = .ok (.tup [.str "fault", .str "beyond"]) B := fun s hs => by
        have e : slD (faultD j) none (some 2) B = .ok (.tup [.str "fault", .str "beyond"]) B := by
          show R.ok (D.tup (cutD _ _ _)) B = _
          simp [cutD, HT.sIx]
        simp [hs, e]
      refine ⟨faultD j, asg_ok (bin_ok rfl rfl (ix_tup at1)), ifS_t (bin_ok (bin_ok rfl rfl (ix_tup at0)) rfl (by rw [eq_st]; rfl)) (asg_ok (bin_ok (sl _ rfl) (show (mTup (mCons (mBin ixD (mv 10) (mBin ixD (mv 13) (mc (.int (2))))) mNil)) _ B = .ok (.tup [nD i]) B from ?_) ?_))⟩
      · rw [e_tup, cons_ok (bin_ok rfl (bin_ok rfl rfl (ix_tup at2)) ix) rfl]
        rfl
      · show (if 2 + 1 ≤ 16777216 then R.ok (D.tup _) B else .bad) = _
        rw [if_pos (by decide)]
        rfl
  have al1 : m_alike 4 [.tup [.ref (A.length + 3), m.en.getD longD], .tup [.ref q, m.en.getD longD]] B = .ok (.bl true) B := by
    refine alike_tup rfl (by simp) fun i hi => ?_
    rcases i with _ | _ | i
    · exact alike_ints htk hq' hs1
    · exact alike_end (by rcases hE with z | z; exact .inr (.inl z); exact .inr (.inr z))
    · exfalso
      simp only [List.length_cons, List.length_nil] at hi
      omega
  have c4 : w4 [some (.scr ns), some (.ref 0), o2, some (.tup (prog.map PR.d)), some (.lst (cells.map .int)), some (.ref q), some (m.en.getD longD), some (.int m.steps), some (.ref c), some (.tup ((kRows prog).map KR.d)), some (.tup ((orgs prog prog.length).map nD)), some (.lst boxD), some (.tup [.ref (A.length + 3), k.m.en.getD longD, .int k.m.steps]), some (m.en.getD longD), o14, o15, o16, o17] B = .nx [some (.scr ns), some (.ref 0), o2, some (.tup (prog.map PR.d)), some (.lst (cells.map .int)), some (.ref q), some (m.en.getD longD), some (.int m.steps), some (.ref c), some (.tup ((kRows prog).map KR.d)), some (.tup ((orgs prog prog.length).map nD)), some (.lst boxD), some (.tup [.ref (A.length + 3), k.m.en.getD longD, .int k.m.steps]), some (m.en.getD longD), o14, o15, o16, o17] B := by
    have t : (mNot (mTb (mCall (m__law_alike 4) (mCons (mTup (mCons (mBin ixD (mv 12) (mc (.int (0)))) (mCons (mv 13) mNil))) (mCons (mTup (mCons (mv 5) (mCons (mv 6) mNil))) mNil))))) [some (.scr ns), some (.ref 0), o2, some (.tup (prog.map PR.d)), some (.lst (cells.map .int)), some (.ref q), some (m.en.getD longD), some (.int m.steps), some (.ref c), some (.tup ((kRows prog).map KR.d)), some (.tup ((orgs prog prog.length).map nD)), some (.lst boxD), some (.tup [.ref (A.length + 3), k.m.en.getD longD, .int k.m.steps]), some (m.en.getD longD), o14, o15, o16, o17] B = .ok false B := by
      rw [e_not, e_tb, call_ok (ds := [.tup [.ref (A.length + 3), m.en.getD longD], .tup [.ref q, m.en.getD longD]]) rfl (by rw [alike_eq]; exact al1)]
      rfl
    unfold w4
    rw [e_ifS, t]
    rfl
  have c5 : w5 [some (.scr ns), some (.ref 0), o2, some (.tup (prog.map PR.d)), some (.lst (cells.map .int)), some (.ref q), some (m.en.getD longD), some (.int m.steps), some (.ref c), some (.tup ((kRows prog).map KR.d)), some (.tup ((orgs prog prog.length).map nD)), some (.lst boxD), some (.tup [.ref (A.length + 3), k.m.en.getD longD, .int k.m.steps]), some (m.en.getD longD), o14, o15, o16, o17] B = .nx [some (.scr ns), some (.ref 0), o2, some (.tup (prog.map PR.d)), some (.lst (cells.map .int)), some (.ref q), some (m.en.getD longD), some (.int m.steps), some (.ref c), some (.tup ((kRows prog).map KR.d)), some (.tup ((orgs prog prog.length).map nD)), some (.lst boxD), some (.tup [.ref (A.length + 3), k.m.en.getD longD, .int k.m.steps]), some (m.en.getD longD), some (.ref B.length), o15, o16, o17] (encZ (MB B) ((kRows prog).map KR.d) (s0K cells)) := asg_ok (make_ok (cons_ok rfl (cons_ok rfl (cons_ok rfl (cons_ok rfl rfl)))) (initM_ok hP h0 hn hlc hcc))
  have hn2 : prog.length ≤ 60 := by omega
  have I0 := s0_inv (prog := prog) hlc h0
  obtain ⟨s', A', e6, o15', rfl, rfl⟩ := mFor_at (g := gmN 15) (b := bM) (mi := mRng1 (mCons (mBin ixD (mv 12) (mc (.int (2)))) mNil)) (it := .data ((List.range t).map fun i : Nat => D.int (i : Int))) (ds := (List.range t).map fun i : Nat => D.int (i : Int)) (s := [some (.scr ns), some (.ref 0), o2, some (.tup (prog.map PR.d)), some (.lst (cells.map .int)), some (.ref q), some (m.en.getD longD), some (.int m.steps), some (.ref c), some (.tup ((kRows prog).map KR.d)), some (.tup ((orgs prog prog.length).map nD)), some (.lst boxD), some (.tup [.ref (A.length + 3), k.m.en.getD longD, .int k.m.steps]), some (m.en.getD longD), some (.ref B.length), o15, o16, o17]) (A := encZ (MB B) ((kRows prog).map KR.d) (s0K cells)) (A1 := encZ (MB B) ((kRows prog).map KR.d) (s0K cells))
    (fun j s' A' => ∃ o15', s' = [some (.scr ns), some (.ref 0), o2, some (.tup (prog.map PR.d)), some (.lst (cells.map .int)), some (.ref q), some (m.en.getD longD), some (.int m.steps), some (.ref c), some (.tup ((kRows prog).map KR.d)), some (.tup ((orgs prog prog.length).map nD)), some (.lst boxD), some (.tup [.ref (A.length + 3), k.m.en.getD longD, .int k.m.steps]), some (m.en.getD longD), some (.ref B.length), o15', o16, o17] ∧ A' = encZ (MB B) ((kRows prog).map KR.d) (itK (kRows prog) j (s0K cells)))
    (rng1 (cons_ok (bin_ok rfl rfl (by rw [← hst]; exact ix_tup at2)) rfl) (by omega)) rfl ⟨o15, rfl, rfl⟩ (fun _ _ _ _ => rfl) (fun j d s' A' hd hI => by
      obtain ⟨o15', rfl, rfl⟩ := hI
      have hj : j < t := by
        have := (List.getElem?_eq_some_iff.mp hd).1
        rwa [List.length_map, List.length_range] at this
      have al := fun z (hz : z < j) => hal z (by omega)
      have sj := steps_it hP hn2 I0 rfl j al
      exact ⟨_, _, _, rfl, drop_ok (meth_ok rfl insM (by simp [List.lookup]) rfl (stepM_okZ hP hn2 (inv_it hP hn2 I0 j al) (hal j hj) (by omega))), some d, rfl, rfl⟩)
  rw [List.length_map, List.length_range, ← hk] at e6
  have hq2 : (encZ (MB B) ((kRows prog).map KR.d) k)[q]? = some (.lst (m.said.map .int)) := by
    have := (List.getElem?_eq_some_iff.mp hq').1
    unfold encZ MB
    rw [List.append_assoc, List.getElem?_append_left this, hq']
  have hc2 : (encZ (MB B) ((kRows prog).map KR.d) k)[c]? = some (.lst (m.cells.map .int)) := by
    have := (List.getElem?_eq_some_iff.mp hc').1
    unfold encZ MB
    rw [List.append_assoc, List.getElem?_append_left this, hc']
  have en := ended_ok (A0 := B) (s := k) (ks := (kRows prog).map KR.d)
  have sa := said_ok (A0 := B) (s := k) (ks := (kRows prog).map KR.d)
  have ce := cells_ok (A0 := B) (s := k) (ks := (kRows prog).map KR.d) I.k.c
  have iM := insM (A0 := B) (s := k) (ks := (kRows prog).map KR.d)
  have no := I.k.e ke hke
  rw [hke] at en
  rw [rel.t] at sa
  rw [rel.c] at ce
  refine ⟨some (.ref B.length), o15', encZ (MB B) ((kRows prog).map KR.d) k, ?_, ?_⟩
  · have al2 : m_alike 4 [.lst [.lst (m.cells.map .int), .lst (m.said.map .int)], .lst [.ref c, .ref q]] (encZ (MB B) ((kRows prog).map KR.d) k) = .ok (.bl true) (encZ (MB B) ((kRows prog).map KR.d) k) := by
      refine alike_seq (T := "list") rfl rfl (.inr rfl) (k := 2) rfl rfl (by decide) fun i hi => ?_
      rcases i with _ | _ | i
      · exact ⟨_, _, ix_lst at0, ix_lst at0, alike_intsL hc2 (by omega)⟩
      · exact ⟨_, _, ix_lst at1, ix_lst at1, alike_intsL hq2 hs1⟩
      · omega
    have c7 : w7 [some (.scr ns), some (.ref 0), o2, some (.tup (prog.map PR.d)), some (.lst (cells.map .int)), some (.ref q), some (m.en.getD longD), some (.int m.steps), some (.ref c), some (.tup ((kRows prog).map KR.d)), some (.tup ((orgs prog prog.length).map nD)), some (.lst boxD), some (.tup [.ref (A.length + 3), k.m.en.getD longD, .int k.m.steps]), some (m.en.getD longD), some (.ref B.length), o15', o16, o17] (encZ (MB B) ((kRows prog).map KR.d) k) = .nx [some (.scr ns), some (.ref 0), o2, some (.tup (prog.map PR.d)), some (.lst (cells.map .int)), some (.ref q), some (m.en.getD longD), some (.int m.steps), some (.ref c), some (.tup ((kRows prog).map KR.d)), some (.tup ((orgs prog prog.length).map nD)), some (.lst boxD), some (.tup [.ref (A.length + 3), k.m.en.getD longD, .int k.m.steps]), some (m.en.getD longD), some (.ref B.length), o15', o16, o17] (encZ (MB B) ((kRows prog).map KR.d) k) := by
      have u1 : (mTb (mBin isD (mMeth "Machine" "ended" m_Machine_ended (mv 14) mNil) (mc .non))) [some (.scr ns), some (.ref 0), o2, some (.tup (prog.map PR.d)), some (.lst (cells.map .int)), some (.ref q), some (m.en.getD longD), some (.int m.steps), some (.ref c), some (.tup ((kRows prog).map KR.d)), some (.tup ((orgs prog prog.length).map nD)), some (.lst boxD), some (.tup [.ref (A.length + 3), k.m.en.getD longD, .int k.m.steps]), some (m.en.getD longD), some (.ref B.length), o15', o16, o17] (encZ (MB B) ((kRows prog).map KR.d) k) = .ok false (encZ (MB B) ((kRows prog).map KR.d) k) := by
        rw [e_tb, bin_ok (z := .bl false) (meth_ok (mo := mv 14) (n := B.length) rfl iM (by simp [List.lookup]) rfl en) rfl (by
          show R.ok (D.bl (Tg.isNon ke)) _ = _
          rw [no]), kT_0]
      have u2 : (mNot (mTb (mCall (m__law_alike 4) (mCons (mLst (mCons (mMeth "Machine" "cells" m_Machine_cells (mv 14) mNil) (mCons (mMeth "Machine" "said" m_Machine_said (mv 14) mNil) mNil))) (mCons (mLst (mCons (mv 8) (mCons (mv 5) mNil))) mNil))))) [some (.scr ns), some (.ref 0), o2, some (.tup (prog.map PR.d)), some (.lst (cells.map .int)), some (.ref q), some (m.en.getD longD), some (.int m.steps), some (.ref c), some (.tup ((kRows prog).map KR.d)), some (.tup ((orgs prog prog.length).map nD)), some (.lst boxD), some (.tup [.ref (A.length + 3), k.m.en.getD longD, .int k.m.steps]), some (m.en.getD longD), some (.ref B.length), o15', o16, o17] (encZ (MB B) ((kRows prog).map KR.d) k) = .ok false (encZ (MB B) ((kRows prog).map KR.d) k) := by
        have x1 : (mLst (mCons (mMeth "Machine" "cells" m_Machine_cells (mv 14) mNil) (mCons (mMeth "Machine" "said" m_Machine_said (mv 14) mNil) mNil))) [some (.scr ns), some (.ref 0), o2, some (.tup (prog.map PR.d)), some (.lst (cells.map .int)), some (.ref q), some (m.en.getD longD), some (.int m.steps), some (.ref c), some (.tup ((kRows prog).map KR.d)), some (.tup ((orgs prog prog.length).map nD)), some (.lst boxD), some (.tup [.ref (A.length + 3), k.m.en.getD longD, .int k.m.steps]), some (m.en.getD longD), some (.ref B.length), o15', o16, o17] (encZ (MB B) ((kRows prog).map KR.d) k) = .ok (.lst [.lst (m.cells.map .int), .lst (m.said.map .int)]) (encZ (MB B) ((kRows prog).map KR.d) k) := by
          rw [e_lst, cons_ok (meth_ok (mo := mv 14) (n := B.length) rfl iM (by simp [List.lookup]) rfl ce) (cons_ok (meth_ok (mo := mv 14) (n := B.length) rfl iM (by simp [List.lookup]) rfl sa) rfl)]
          rfl
        rw [e_not, e_tb, call_ok (cons_ok x1 (cons_ok (d := .lst [.ref c, .ref q]) rfl rfl)) (by rw [alike_eq]; exact al2)]
        rfl
      unfold w7
      rw [e_ifS, e_or, u1, kOr_1, u2]
      rfl
    obtain ⟨e, c2, c3⟩ := c23 B
    exact seq_nx c1 (seq_nx c2 (seq_nx c3 (seq_nx c4 (seq_nx c5 (seq_nx e6 c7)))))
  · rw [← hB]
    unfold encZ MB encA
    exact ⟨_, by rw [List.append_assoc, List.append_assoc]⟩
end
end
end K16

set_option Elab.async false
set_option linter.all false
set_option maxRecDepth 100000
set_option maxHeartbeats 4000000
/-! K16Z: the law. -/
namespace K16
open PySem Tg L2
open SX (S)
theorem ne_long {e : D} (h : e = endD ∨ ∃ i, e = faultD i) {A : AH} : neD e longD A = .ok (.bl true) A := by
  have d1 : datD longD = true := by decide +kernel
  have k1 : PyData.strOk (Str.ofString "fault") = true := by decide +kernel
  have k2 : PyData.strOk (Str.ofString "beyond") = true := by decide +kernel
  rcases h with rfl | ⟨i, rfl⟩
  · have d2 : datD endD = true := by decide +kernel
    rw [ne_dat (by rw [d1, d2]; rfl) (by decide), eqB_ne d2 d1 (fun e => by
      simp only [endD, longD, D.tup.injEq, List.cons.injEq, D.str.injEq, and_true] at e
      exact absurd e (by decide))]
    rfl
  · have d2 : datD (faultD i) = true := by simp [faultD, datD, datL, k1, k2]
    rw [ne_dat (by rw [d1, d2]; rfl) (by simp [faultD, longD, depD, depL]), eqB_ne d2 d1 (fun e => by simp [faultD, longD] at e)]
    rfl
theorem ne_same {A : AH} : neD longD longD A = .ok (.bl false) A := by
  have d1 : datD longD = true := by decide +kernel
  rw [ne_dat (by rw [d1]; rfl) (by decide), eqB_refl d1]
  rfl
section
variable {ns : List Int} {A : AH} {o2 o3 o4 o5 o6 o7 o8 o9 o10 o11 o12 o13 o14 o15 o16 o17 : Option D}
theorem l7_ok {prog : List PR} {cells : List Int} {q c : Nat} (h : RowAt 0 ns A) (hP : ∀ p ∈ prog, p.ok prog.length) (h0 : prog ≠ []) (hn : prog.length ≤ 30) (hl : cells.length = 64) (hcc : ∀ z ∈ cells, inH z)
    (hq : A[q]? = some (.lst ((fin prog cells 150).said.map .int))) (hc : A[c]? = some (.lst ((fin prog cells 150).cells.map .int))) : ∃ (p12 p13 p14 p15 : Option D) (A' : AH), l7 [some (.scr ns), some (.ref 0), o2, some (.tup (prog.map PR.d)), some (.lst (cells.map .int)), some (.ref q), some ((fin prog cells 150).en.getD longD), some (.int (fin prog cells 150).steps), some (.ref c), some (.tup ((kRows prog).map KR.d)), some (.tup ((orgs prog prog.length).map nD)), some (.lst boxD), o12, o13, o14, o15, o16, o17] A = .nx [some (.scr ns), some (.ref 0), o2, some (.tup (prog.map PR.d)), some (.lst (cells.map .int)), some (.ref q), some ((fin prog cells 150).en.getD longD), some (.int (fin prog cells 150).steps), some (.ref c), some (.tup ((kRows prog).map KR.d)), some (.tup ((orgs prog prog.length).map nD)), some (.lst boxD), p12, p13, p14, p15, o16, o17] A' ∧ RowAt 0 ns A' := by
  obtain ⟨t, k1, k2, k3, k4, k5, k6, k7⟩ := same hP hn h0 hl hcc
  have hr := fun B => runA_ok (A0 := B) hP h0 hn hl hcc k5
  generalize finK prog cells = k at k1 k3 k5 k6 k7 hr
  generalize fin prog cells 150 = m at *
  rw [l7_eq]
  by_cases he : m.en = none
  · have e : lC [some (.scr ns), some (.ref 0), o2, some (.tup (prog.map PR.d)), some (.lst (cells.map .int)), some (.ref q), some (m.en.getD longD), some (.int m.steps), some (.ref c), some (.tup ((kRows prog).map KR.d)), some (.tup ((orgs prog prog.length).map nD)), some (.lst boxD), o12, o13, o14, o15, o16, o17] A = .ok (.bl false) A := bin_ok rfl rfl (by rw [he]; exact ne_same)
    refine ⟨_, _, _, _, _, ifS_f e (tt_ok hr hq k7), ?_⟩
    exact h.app _
  · have rel := k6 he
    have hE : m.en.getD longD = endD ∨ ∃ i, m.en.getD longD = faultD i := by
      rcases rel.e with ⟨z, _⟩ | ⟨z1, z2⟩ | ⟨i, j, z1, z2, _⟩
      · exact absurd z he
      · exact .inl (by rw [z1]; rfl)
      · exact .inr ⟨i, by rw [z1]; rfl⟩
    have e : lC [some (.scr ns), some (.ref 0), o2, some (.tup (prog.map PR.d)), some (.lst (cells.map .int)), some (.ref q), some (m.en.getD longD), some (.int m.steps), some (.ref c), some (.tup ((kRows prog).map KR.d)), some (.tup ((orgs prog prog.length).map nD)), some (.lst boxD), o12, o13, o14, o15, o16, o17] A = .ok (.bl true) A := bin_ok rfl rfl (ne_long hE)
    obtain ⟨o14', o15', A', e2, l, rfl⟩ := ww_ok hP h0 hn hl hcc hr hq hc k1 k2 k3 k4 rel he k5
    exact ⟨_, _, _, _, _, ifS_t e e2, h.app _⟩
theorem lB_ok (h : RowAt 0 ns A) : ∃ (p2 p3 p4 p5 p6 p7 p8 p9 p10 p11 p12 p13 p14 p15 p16 p17 : Option D) (A' : AH), lBody [some (.scr ns), some (.ref 0), o2, o3, o4, o5, o6, o7, o8, o9, o10, o11, o12, o13, o14, o15, o16, o17] A = .nx [some (.scr ns), some (.ref 0), p2, p3, p4, p5, p6, p7, p8, p9, p10, p11, p12, p13, p14, p15, p16, p17] A' ∧ RowAt 0 ns A' := by
  obtain ⟨prog, A1, c1, h1, hP, h0, hn⟩ := l1_ok (o2 := o2) (o3 := o3) (o4 := o4) (o5 := o5) (o6 := o6) (o7 := o7) (o8 := o8) (o9 := o9) (o10 := o10) (o11 := o11) (o12 := o12) (o13 := o13) (o14 := o14) (o15 := o15) (o16 := o16) (o17 := o17) h
  obtain ⟨cells, A2, c2, h2, hl, hc⟩ := l2_ok (prog := prog) (o2 := o2) (o4 := o4) (o5 := o5) (o6 := o6) (o7 := o7) (o8 := o8) (o9 := o9) (o10 := o10) (o11 := o11) (o12 := o12) (o13 := o13) (o14 := o14) (o15 := o15) (o16 := o16) (o17 := o17) h1
  have c3 := l3_ok (ns := ns) (A := A2) (o2 := o2) (o5 := o5) (o6 := o6) (o7 := o7) (o8 := o8) (o9 := o9) (o10 := o10) (o11 := o11) (o12 := o12) (o13 := o13) (o14 := o14) (o15 := o15) (o16 := o16) (o17 := o17) hP h0 hn hl hc
  have h3 : RowAt 0 ns (enc A2 prog (fin prog cells 150)) := h2.app _
  have hq : (enc A2 prog (fin prog cells 150))[A2.length + 3]? = some (.lst ((fin prog cells 150).said.map .int)) := by
    generalize fin prog cells 150 = m
    simp [enc]
  have hcl : (enc A2 prog (fin prog cells 150))[A2.length + 1]? = some (.lst ((fin prog cells 150).cells.map .int)) := by
    generalize fin prog cells 150 = m
    simp [enc]
  generalize enc A2 prog (fin prog cells 150) = A3 at c3 h3 hq hcl
  generalize hu : A2.length + 3 = u at c3 hq
  generalize hv : A2.length + 1 = v at c3 hcl
  obtain ⟨l, c4⟩ := l4_ok (ns := ns) (A := A3) (cells := cells) (m := fin prog cells 150) (q := u) (c := v) (o2 := o2) (o9 := o9) (o10 := o10) (o11 := o11) (o12 := o12) (o13 := o13) (o14 := o14) (o15 := o15) (o16 := o16) (o17 := o17) hP h0 hn
  have hq4 : (A3 ++ l)[u]? = some (.lst ((fin prog cells 150).said.map .int)) := by rw [List.getElem?_append_left (List.getElem?_eq_some_iff.mp hq).1, hq]
  have hc4 : (A3 ++ l)[v]? = some (.lst ((fin prog cells 150).cells.map .int)) := by rw [List.getElem?_append_left (List.getElem?_eq_some_iff.mp hcl).1, hcl]
  have h4 : RowAt 0 ns (A3 ++ l) := h3.app _
  have c5 := l5_ok (ns := ns) (A := A3 ++ l) (cells := cells) (m := fin prog cells 150) (q := u) (c := v) (o2 := o2) (o11 := o11) (o12 := o12) (o13 := o13) (o14 := o14) (o15 := o15) (o16 := o16) (o17 := o17) hn
  have c6 := l6_ok (ns := ns) (A := A3 ++ l) (prog := prog) (cells := cells) (m := fin prog cells 150) (q := u) (c := v) (o2 := o2) (o11 := o11) (o12 := o12) (o13 := o13) (o14 := o14) (o15 := o15) (o16 := o16) (o17 := o17)
  obtain ⟨p12, p13, p14, p15, A', e7, h7⟩ := l7_ok (o2 := o2) (o12 := o12) (o13 := o13) (o14 := o14) (o15 := o15) (o16 := o16) (o17 := o17) h4 hP h0 hn hl hc hq4 hc4
  refine ⟨o2, some (.tup (prog.map PR.d)), some (.lst (cells.map .int)), some (.ref u), some ((fin prog cells 150).en.getD longD), some (.int (fin prog cells 150).steps), some (.ref v), some (.tup ((kRows prog).map KR.d)), some (.tup ((orgs prog prog.length).map nD)), some (.lst boxD), p12, p13, p14, p15, o16, o17, A', ?_, h7⟩
  rw [lBody_eq]
  exact seq_nx c1 (seq_nx c2 (seq_nx c3 (seq_nx c4 (seq_nx c5 (seq_nx c6 e7)))))
end
def lA : MS := (mAsg (mLstN (mCons (mv 0) (mCons (mc (.int (0))) (mCons (mc (.int (0))) (mCons (mc (.int (0))) mNil))))) (gmN 1))
def lG : MS := mFor (mRng1 (mCons (mc (.int (4))) mNil)) (gmN 2) lBody
theorem law_holds : ∀ ns : List Int, ns.length ≤ 63 → ∃ A, m_law [.scr ns] [] = .ok (.bl true) A := fun ns _ => by
  have e0 : m_law [.scr ns] [] = finS (b_law [some (.scr ns), none, none, none, none, none, none, none, none, none, none, none, none, none, none, none, none, none] []) := rfl
  have eb : b_law = mSeq lA (mSeq lG (mRet (mc (.bl true)))) := rfl
  have c1 : lA [some (.scr ns), none, none, none, none, none, none, none, none, none, none, none, none, none, none, none, none, none] [] = .nx [some (.scr ns), some (.ref 0), none, none, none, none, none, none, none, none, none, none, none, none, none, none, none, none] [rowO ns 0 0 0] := by
    simp [lA, rowO]
  have h0 : RowAt 0 ns [rowO ns 0 0 0] := ⟨0, 0, 0, rfl, Int.le_refl _⟩
  obtain ⟨s', A', e, hI, p2, p3, p4, p5, p6, p7, p8, p9, p10, p11, p12, p13, p14, p15, p16, p17, rfl⟩ := forL_inv (g := gmN 2) (b := lBody) (ds := (List.range 4).map fun i : Nat => D.int (i : Int)) (s := [some (.scr ns), some (.ref 0), none, none, none, none, none, none, none, none, none, none, none, none, none, none, none, none]) (A := [rowO ns 0 0 0])
    (fun s' A' => RowAt 0 ns A' ∧ ∃ p2 p3 p4 p5 p6 p7 p8 p9 p10 p11 p12 p13 p14 p15 p16 p17, s' = [some (.scr ns), some (.ref 0), p2, p3, p4, p5, p6, p7, p8, p9, p10, p11, p12, p13, p14, p15, p16, p17])
    ⟨h0, _, _, _, _, _, _, _, _, _, _, _, _, _, _, _, _, rfl⟩ (fun d _ s B hB => by
      obtain ⟨hB1, p2, p3, p4, p5, p6, p7, p8, p9, p10, p11, p12, p13, p14, p15, p16, p17, rfl⟩ := hB
      obtain ⟨q2, q3, q4, q5, q6, q7, q8, q9, q10, q11, q12, q13, q14, q15, q16, q17, A', e, z⟩ := lB_ok (o2 := some d) (o3 := p3) (o4 := p4) (o5 := p5) (o6 := p6) (o7 := p7) (o8 := p8) (o9 := p9) (o10 := p10) (o11 := p11) (o12 := p12) (o13 := p13) (o14 := p14) (o15 := p15) (o16 := p16) (o17 := p17) hB1
      exact ⟨_, _, A', rfl, e, z, _, _, _, _, _, _, _, _, _, _, _, _, _, _, _, _, rfl⟩)
  have e3 : lG [some (.scr ns), some (.ref 0), none, none, none, none, none, none, none, none, none, none, none, none, none, none, none, none] [rowO ns 0 0 0] = .nx [some (.scr ns), some (.ref 0), p2, p3, p4, p5, p6, p7, p8, p9, p10, p11, p12, p13, p14, p15, p16, p17] A' := by
    unfold lG
    rw [mFor_data (ds := (List.range 4).map fun i : Nat => D.int (i : Int)) (A1 := [rowO ns 0 0 0]) (rng1 (j := 4) rfl (by decide))]
    exact e
  refine ⟨A', ?_⟩
  rw [e0, eb, e_seq, c1, RS.nxt_nx, e_seq, e3, RS.nxt_nx]
  rfl
end K16

set_option Elab.async false
set_option linter.all false
set_option maxRecDepth 100000
set_option maxHeartbeats 4000000
namespace K16
open PySem L2 Tg
theorem finE {l : PySem.W.OpenLaw} {w : World} {K : PySem.W.Frag} {mg : Str → Option Value} {fa : Addr} (hfa : mg "law" = some (.ref fa))
    (t__law_taken : TF K mg "_law_taken" "_law_taken" s__law_taken p__law_taken)
    (t__law_number : TF K mg "_law_number" "_law_number" s__law_number p__law_number)
    (t__law_plain_row : TF K mg "_law_plain_row" "_law_plain_row" s__law_plain_row p__law_plain_row)
    (t__law_plain : TF K mg "_law_plain" "_law_plain" s__law_plain p__law_plain)
    (t_are_rights : TF K mg "are_rights" "are_rights" s_are_rights p_are_rights)
    (t_is_number : TF K mg "is_number" "is_number" s_is_number p_is_number)
    (t_is_within : TF K mg "is_within" "is_within" s_is_within p_is_within)
    (t_is_part : TF K mg "is_part" "is_part" s_is_part p_is_part)
    (t_is_row : TF K mg "is_row" "is_row" s_is_row p_is_row)
    (t_need_program : TF K mg "need_program" "need_program" s_need_program p_need_program)
    (t_is_plain_marked : TFA K mg "is_plain_marked" "is_plain" "is_plain" s_is_plain_marked p_is_plain_marked)
    (t_need_plain : TF K mg "need_plain" "need_plain" s_need_plain p_need_plain)
    (t_need_numbers : TF K mg "need_numbers" "need_numbers" s_need_numbers p_need_numbers)
    (t_need_fuel : TF K mg "need_fuel" "need_fuel" s_need_fuel p_need_fuel)
    (t_Plain___init__ : TI K mg "Plain" "Plain.__init__" s_Plain___init__ p_Plain___init__)
    (t_ring : TF K mg "ring" "ring" s_ring p_ring)
    (t_Plain_double : TM K mg "Plain" "double" "Plain.double" s_Plain_double p_Plain_double)
    (t_Plain_deed : TM K mg "Plain" "deed" "Plain.deed" s_Plain_deed p_Plain_deed)
    (t_Plain_step : TM K mg "Plain" "step" "Plain.step" s_Plain_step p_Plain_step)
    (t_run_places : TF K mg "run_places" "run_places" s_run_places p_run_places)
    (t_keyed : TF K mg "keyed" "keyed" s_keyed p_keyed)
    (t_is_key : TF K mg "is_key" "is_key" s_is_key p_is_key)
    (t_is_plain_words : TFA K mg "is_plain_words" "is_plain" "is_plain" s_is_plain_words p_is_plain_words)
    (t_is_word : TF K mg "is_word" "is_word" s_is_word p_is_word)
    (t_need_words : TF K mg "need_words" "need_words" s_need_words p_need_words)
    (t_need_state : TF K mg "need_state" "need_state" s_need_state p_need_state)
    (t_Rows___init__ : TC K mg "Rows" "__init__" "Rows.__init__" s_Rows___init__ p_Rows___init__)
    (t_AtOnce___init__ : TI K mg "AtOnce" "AtOnce.__init__" s_AtOnce___init__ p_AtOnce___init__)
    (t_AtOnce_look : TM K mg "AtOnce" "look" "Rows.look" s_AtOnce_look p_AtOnce_look)
    (t_AtOnce_box : TM K mg "AtOnce" "box" "Rows.box" s_AtOnce_box p_AtOnce_box)
    (t_Stop___init__ : TX K mg "Stop" "Exception" "word" "Stop.__init__" s_Stop___init__ p_Stop___init__)
    (t_need : TF K mg "need" "need" s_need p_need)
    (t_kind_of : TF K mg "kind_of" "kind_of" s_kind_of p_kind_of)
    (t_AtOnce_entered : TM K mg "AtOnce" "entered" "Rows.entered" s_AtOnce_entered p_AtOnce_entered)
    (t_AtOnce_number : TM K mg "AtOnce" "number" "Rows.number" s_AtOnce_number p_AtOnce_number)
    (t_AtOnce_key : TM K mg "AtOnce" "key" "Rows.key" s_AtOnce_key p_AtOnce_key)
    (t_AtOnce_cell_of : TM K mg "AtOnce" "cell_of" "Rows.cell_of" s_AtOnce_cell_of p_AtOnce_cell_of)
    (t_AtOnce_put_in : TM K mg "AtOnce" "put_in" "Rows.put_in" s_AtOnce_put_in p_AtOnce_put_in)
    (t_inner : TF K mg "inner" "inner" s_inner p_inner)
    (t_without : TF K mg "without" "without" s_without p_without)
    (t_AtOnce_take_room : TM K mg "AtOnce" "take_room" "AtOnce.take_room" s_AtOnce_take_room p_AtOnce_take_room)
    (t_AtOnce_shut : TM K mg "AtOnce" "shut" "Rows.shut" s_AtOnce_shut p_AtOnce_shut)
    (t_AtOnce_give_room : TM K mg "AtOnce" "give_room" "AtOnce.give_room" s_AtOnce_give_room p_AtOnce_give_room)
    (t_AtOnce_lent : TM K mg "AtOnce" "lent" "Rows.lent" s_AtOnce_lent p_AtOnce_lent)
    (t_AtOnce_taken_out : TM K mg "AtOnce" "taken_out" "Rows.taken_out" s_AtOnce_taken_out p_AtOnce_taken_out)
    (t_fewer : TF K mg "fewer" "fewer" s_fewer p_fewer)
    (t_narrowed : TF K mg "narrowed" "narrowed" s_narrowed p_narrowed)
    (t_moved : TF K mg "moved" "moved" s_moved p_moved)
    (t_AtOnce_double : TM K mg "AtOnce" "double" "Rows.double" s_AtOnce_double p_AtOnce_double)
    (t_AtOnce_worth : TM K mg "AtOnce" "worth" "Rows.worth" s_AtOnce_worth p_AtOnce_worth)
    (t_AtOnce_done : TM K mg "AtOnce" "done" "Rows.done" s_AtOnce_done p_AtOnce_done)
    (t_AtOnce_step : TM K mg "AtOnce" "step" "Rows.step" s_AtOnce_step p_AtOnce_step)
    (t_run : TF K mg "run" "run" s_run p_run)
    (t__law_alike : TF K mg "_law_alike" "_law_alike" s__law_alike p__law_alike)
    (t_Lazy___init__ : TI K mg "Lazy" "Lazy.__init__" s_Lazy___init__ p_Lazy___init__)
    (t_Machine___init__ : TI K mg "Machine" "Machine.__init__" s_Machine___init__ p_Machine___init__)
    (t_Lazy_shut_ones : TM K mg "Lazy" "shut_ones" "Lazy.shut_ones" s_Lazy_shut_ones p_Lazy_shut_ones)
    (t_Lazy_look : TM K mg "Lazy" "look" "Lazy.look" s_Lazy_look p_Lazy_look)
    (t_Lazy_box : TM K mg "Lazy" "box" "Rows.box" s_Lazy_box p_Lazy_box)
    (t_Lazy_entered : TM K mg "Lazy" "entered" "Rows.entered" s_Lazy_entered p_Lazy_entered)
    (t_Lazy_number : TM K mg "Lazy" "number" "Rows.number" s_Lazy_number p_Lazy_number)
    (t_Lazy_key : TM K mg "Lazy" "key" "Rows.key" s_Lazy_key p_Lazy_key)
    (t_Lazy_cell_of : TM K mg "Lazy" "cell_of" "Rows.cell_of" s_Lazy_cell_of p_Lazy_cell_of)
    (t_Lazy_put_in : TM K mg "Lazy" "put_in" "Rows.put_in" s_Lazy_put_in p_Lazy_put_in)
    (t_Lazy_take_room : TM K mg "Lazy" "take_room" "Lazy.take_room" s_Lazy_take_room p_Lazy_take_room)
    (t_Lazy_shut : TM K mg "Lazy" "shut" "Rows.shut" s_Lazy_shut p_Lazy_shut)
    (t_Lazy_free_rooms : TM K mg "Lazy" "free_rooms" "Lazy.free_rooms" s_Lazy_free_rooms p_Lazy_free_rooms)
    (t_Lazy_begin_sweep : TM K mg "Lazy" "begin_sweep" "Lazy.begin_sweep" s_Lazy_begin_sweep p_Lazy_begin_sweep)
    (t_Lazy_end_sweep : TM K mg "Lazy" "end_sweep" "Lazy.end_sweep" s_Lazy_end_sweep p_Lazy_end_sweep)
    (t_Lazy_sweep : TM K mg "Lazy" "sweep" "Lazy.sweep" s_Lazy_sweep p_Lazy_sweep)
    (t_Lazy_give_room : TM K mg "Lazy" "give_room" "Lazy.give_room" s_Lazy_give_room p_Lazy_give_room)
    (t_Lazy_lent : TM K mg "Lazy" "lent" "Rows.lent" s_Lazy_lent p_Lazy_lent)
    (t_Lazy_taken_out : TM K mg "Lazy" "taken_out" "Rows.taken_out" s_Lazy_taken_out p_Lazy_taken_out)
    (t_Lazy_double : TM K mg "Lazy" "double" "Rows.double" s_Lazy_double p_Lazy_double)
    (t_Lazy_worth : TM K mg "Lazy" "worth" "Rows.worth" s_Lazy_worth p_Lazy_worth)
    (t_Lazy_done : TM K mg "Lazy" "done" "Rows.done" s_Lazy_done p_Lazy_done)
    (t_Lazy_step : TM K mg "Lazy" "step" "Rows.step" s_Lazy_step p_Lazy_step)
    (t_Machine_step : TM K mg "Machine" "step" "Machine.step" s_Machine_step p_Machine_step)
    (t_Machine_ended : TM K mg "Machine" "ended" "Machine.ended" s_Machine_ended p_Machine_ended)
    (t_Machine_cells : TM K mg "Machine" "cells" "Machine.cells" s_Machine_cells p_Machine_cells)
    (t_Machine_said : TM K mg "Machine" "said" "Machine.said" s_Machine_said p_Machine_said)
    (t_law : TL K mg "law" s_law "_law_script")
    (g_ALL : GDat K mg "ALL" g_ALL)
    (g_BOXES_marked : GDat K mg "BOXES_marked" g_BOXES_marked)
    (g_BOXES_words : GDat K mg "BOXES_words" g_BOXES_words)
    (g_CELLS : GDat K mg "CELLS" g_CELLS)
    (g_END : GDat K mg "END" g_END)
    (g_FORMS : GTab K w mg "FORMS" tb_FORMS)
    (g_GATE : GDat K mg "GATE" g_GATE)
    (g_HALF : GDat K mg "HALF" g_HALF)
    (g_KEY : GDat K mg "KEY" g_KEY)
    (g_LONG : GDat K mg "LONG" g_LONG)
    (g_MOST_FUEL : GDat K mg "MOST_FUEL" g_MOST_FUEL)
    (g_MOST_PLAIN : GDat K mg "MOST_PLAIN" g_MOST_PLAIN)
    (g_MOST_ROOMS : GDat K mg "MOST_ROOMS" g_MOST_ROOMS)
    (g_MOST_ROWS : GDat K mg "MOST_ROWS" g_MOST_ROWS)
    (g_OFFSET : GDat K mg "OFFSET" g_OFFSET)
    (g_PLACE : GDat K mg "PLACE" g_PLACE)
    (g_RIGHTS : GDat K mg "RIGHTS" g_RIGHTS)
    (g_ROOM : GDat K mg "ROOM" g_ROOM)
    (g_WHOLE : GDat K mg "WHOLE" g_WHOLE)
    (g_WORDS : GDat K mg "WORDS" g_WORDS)
    (k_Stop_word : XCat K mg "Stop" "word")
    (f_end : Fds K mg cs_end "end")
    (f_first : Fds K mg cs_first "first")
    (f_hand : Fds K mg cs_hand "hand")
    (f_held : Fds K mg cs_held "held")
    (f_here : Fds K mg cs_here "here")
    (f_lazy : Fds K mg cs_lazy "lazy")
    (f_lent_ones : Fds K mg cs_lent_ones "lent_ones")
    (f_order : Fds K mg cs_order "order")
    (f_program : Fds K mg cs_program "program")
    (f_state : Fds K mg cs_state "state")
    (f_steps : Fds K mg cs_steps "steps")
    (f_store : Fds K mg cs_store "store")
    (f_talk : Fds K mg cs_talk "talk")
    (z_bool : mg "bool" = none)
    (z_dict : mg "dict" = none)
    (z_int : mg "int" = none)
    (z_isinstance : mg "isinstance" = none)
    (z_len : mg "len" = none)
    (z_list : mg "list" = none)
    (z_max : mg "max" = none)
    (z_range : mg "range" = none)
    (z_sorted : mg "sorted" = none)
    (z_str : mg "str" = none)
    (z_tuple : mg "tuple" = none)
    : ∃ fd : FuncData, (∀ (s : Shared) (v : Value), BindsTo s fd ⟨[v], []⟩ [("_law_script", v)]) ∧ ∀ base : Heap, K.In base → base.Ns mainGlobals mg → FnOk l.prog w K mg base (L2.CX l.prog w) 15 fa fd ["_law_script"] (spLaw K) :=
  lawEnd hfa t_law sc_law (fun base => y_law ⟨t__law_taken, t__law_number, t__law_plain_row, t__law_plain, t_are_rights, t_is_number, t_is_within, t_is_part, t_is_row, t_need_program, t_is_plain_marked, t_need_plain, t_need_numbers, t_need_fuel, t_Plain___init__, t_ring, t_Plain_double, t_Plain_deed, t_Plain_step, t_run_places, t_keyed, t_is_key, t_is_plain_words, t_is_word, t_need_words, t_need_state, t_Rows___init__, t_AtOnce___init__, t_AtOnce_look, t_AtOnce_box, t_Stop___init__, t_need, t_kind_of, t_AtOnce_entered, t_AtOnce_number, t_AtOnce_key, t_AtOnce_cell_of, t_AtOnce_put_in, t_inner, t_without, t_AtOnce_take_room, t_AtOnce_shut, t_AtOnce_give_room, t_AtOnce_lent, t_AtOnce_taken_out, t_fewer, t_narrowed, t_moved, t_AtOnce_double, t_AtOnce_worth, t_AtOnce_done, t_AtOnce_step, t_run, t__law_alike, t_Lazy___init__, t_Machine___init__, t_Lazy_shut_ones, t_Lazy_look, t_Lazy_box, t_Lazy_entered, t_Lazy_number, t_Lazy_key, t_Lazy_cell_of, t_Lazy_put_in, t_Lazy_take_room, t_Lazy_shut, t_Lazy_free_rooms, t_Lazy_begin_sweep, t_Lazy_end_sweep, t_Lazy_sweep, t_Lazy_give_room, t_Lazy_lent, t_Lazy_taken_out, t_Lazy_double, t_Lazy_worth, t_Lazy_done, t_Lazy_step, t_Machine_step, t_Machine_ended, t_Machine_cells, t_Machine_said, t_law, g_ALL, g_BOXES_marked, g_BOXES_words, g_CELLS, g_END, g_FORMS, g_GATE, g_HALF, g_KEY, g_LONG, g_MOST_FUEL, g_MOST_PLAIN, g_MOST_ROOMS, g_MOST_ROWS, g_OFFSET, g_PLACE, g_RIGHTS, g_ROOM, g_WHOLE, g_WORDS, k_Stop_word, f_end, f_first, f_hand, f_held, f_here, f_lazy, f_lent_ones, f_order, f_program, f_state, f_steps, f_store, f_talk, z_bool, z_dict, z_int, z_isinstance, z_len, z_list, z_max, z_range, z_sorted, z_str, z_tuple⟩) law_holds
theorem walkE {l : PySem.W.OpenLaw} {q : Program} {loose : List Str} {XP : (Str → Option Value) → Heap → Prop} {YP : World → Heap → Prop} {d : DefRec} {K : Params → PySem.W.Frag} (hn : l.most = some 63) (hdf : d.params.defaults = [])
    (hY : ∀ (w : World) (h : Heap), YP w h → (K w.params).In h)
    (F : ∀ (w : World) (mg : Str → Option Value) (fa : Addr) (h : Heap), (K w.params).In h → h.Ns mainGlobals mg → mg d.name = some (.ref fa) →
      ∃ fd : FuncData, (∀ (s : Shared) (u : Value), BindsTo s fd ⟨[u], []⟩ [("_law_script", u)]) ∧ ∀ base : Heap, (K w.params).In base → base.Ns mainGlobals mg → FnOk l.prog w (K w.params) mg base (L2.CX l.prog w) 15 fa fd ["_law_script"] (spLaw (K w.params))) :
    PySem.W.WalkO q loose XP YP l.row.toRowW d [] (fun f vs => PySem.call f vs) :=
  L2.walk_of (n := 63) (k := 15) (x := "_law_script") (CX := fun w => L2.CX l.prog w) (sp := fun w => spLaw (K w.params)) hn (by decide) hdf ⟨rfl, by decide, by decide⟩ hY F (fun _ _ a ns hl _ hS => ⟨a, ns, rfl, hS, hl, fun _ => rfl⟩) fun w H s e s' z => cx_none z
end K16
open PySem PySem.W PyProof.Rows in
set_option maxRecDepth 100000 in
set_option maxHeartbeats 0 in
theorem PySem.Challenge.cw_tagmachine_k16_whole_the_same_by_one_key_holds : PySem.Challenge.rw_tagmachine_k16_whole_the_same_by_one_key.Holds := by
  w_on; o_law; k_head; (case hw => w_witness2)
  k_fill
  refine K16.walkE (l := PySem.Challenge.rw_tagmachine_k16_whole_the_same_by_one_key) rfl rfl (fun w h Y => PySem.W.kIn_of Y) ?F
  case F =>
    intro w mg fa h KX G hmg
    refine' K16.finE hmg ?t__law_taken ?t__law_number ?t__law_plain_row ?t__law_plain ?t_are_rights ?t_is_number ?t_is_within ?t_is_part ?t_is_row ?t_need_program ?t_is_plain_marked ?t_need_plain ?t_need_numbers ?t_need_fuel ?t_Plain___init__ ?t_ring ?t_Plain_double ?t_Plain_deed ?t_Plain_step ?t_run_places ?t_keyed ?t_is_key ?t_is_plain_words ?t_is_word ?t_need_words ?t_need_state ?t_Rows___init__ ?t_AtOnce___init__ ?t_AtOnce_look ?t_AtOnce_box ?t_Stop___init__ ?t_need ?t_kind_of ?t_AtOnce_entered ?t_AtOnce_number ?t_AtOnce_key ?t_AtOnce_cell_of ?t_AtOnce_put_in ?t_inner ?t_without ?t_AtOnce_take_room ?t_AtOnce_shut ?t_AtOnce_give_room ?t_AtOnce_lent ?t_AtOnce_taken_out ?t_fewer ?t_narrowed ?t_moved ?t_AtOnce_double ?t_AtOnce_worth ?t_AtOnce_done ?t_AtOnce_step ?t_run ?t__law_alike ?t_Lazy___init__ ?t_Machine___init__ ?t_Lazy_shut_ones ?t_Lazy_look ?t_Lazy_box ?t_Lazy_entered ?t_Lazy_number ?t_Lazy_key ?t_Lazy_cell_of ?t_Lazy_put_in ?t_Lazy_take_room ?t_Lazy_shut ?t_Lazy_free_rooms ?t_Lazy_begin_sweep ?t_Lazy_end_sweep ?t_Lazy_sweep ?t_Lazy_give_room ?t_Lazy_lent ?t_Lazy_taken_out ?t_Lazy_double ?t_Lazy_worth ?t_Lazy_done ?t_Lazy_step ?t_Machine_step ?t_Machine_ended ?t_Machine_cells ?t_Machine_said ?t_law ?g_ALL ?g_BOXES_marked ?g_BOXES_words ?g_CELLS ?g_END ?g_FORMS ?g_GATE ?g_HALF ?g_KEY ?g_LONG ?g_MOST_FUEL ?g_MOST_PLAIN ?g_MOST_ROOMS ?g_MOST_ROWS ?g_OFFSET ?g_PLACE ?g_RIGHTS ?g_ROOM ?g_WHOLE ?g_WORDS ?k_Stop_word ?f_end ?f_first ?f_hand ?f_held ?f_here ?f_lazy ?f_lent_ones ?f_order ?f_program ?f_state ?f_steps ?f_store ?f_talk ?z_bool ?z_dict ?z_int ?z_isinstance ?z_len ?z_list ?z_max ?z_range ?z_sorted ?z_str ?z_tuple
    case t__law_taken =>
      refine' Tg.tf_of KX G ?a ?l ?c ?k ?b
      (case a => k_is)
      (case l => k_is)
      (case c => k_is)
      (case k => k_is)
      (case b => exact fun _ _ _ _ _ _ us hl => match us, hl with | [_, _], _ => rfl)
    case t__law_number =>
      refine' Tg.tf_of KX G ?a ?l ?c ?k ?b
      (case a => k_is)
      (case l => k_is)
      (case c => k_is)
      (case k => k_is)
      (case b => exact fun _ _ _ _ _ _ us hl => match us, hl with | [_], _ => rfl)
    case t__law_plain_row =>
      refine' Tg.tf_of KX G ?a ?l ?c ?k ?b
      (case a => k_is)
      (case l => k_is)
      (case c => k_is)
      (case k => k_is)
      (case b => exact fun _ _ _ _ _ _ us hl => match us, hl with | [_, _, _], _ => rfl)
    case t__law_plain =>
      refine' Tg.tf_of KX G ?a ?l ?c ?k ?b
      (case a => k_is)
      (case l => k_is)
      (case c => k_is)
      (case k => k_is)
      (case b => exact fun _ _ _ _ _ _ us hl => match us, hl with | [_, _], _ => rfl)
    case t_are_rights =>
      refine' Tg.tf_of KX G ?a ?l ?c ?k ?b
      (case a => k_is)
      (case l => k_is)
      (case c => k_is)
      (case k => k_is)
      (case b => exact fun _ _ _ _ _ _ us hl => match us, hl with | [_], _ => rfl)
    case t_is_number =>
      refine' Tg.tf_of KX G ?a ?l ?c ?k ?b
      (case a => k_is)
      (case l => k_is)
      (case c => k_is)
      (case k => k_is)
      (case b => exact fun _ _ _ _ _ _ us hl => match us, hl with | [_], _ => rfl)
    case t_is_within =>
      refine' Tg.tf_of KX G ?a ?l ?c ?k ?b
      (case a => k_is)
      (case l => k_is)
      (case c => k_is)
      (case k => k_is)
      (case b => exact fun _ _ _ _ _ _ us hl => match us, hl with | [_, _, _], _ => rfl)
    case t_is_part =>
      refine' Tg.tf_of KX G ?a ?l ?c ?k ?b
      (case a => k_is)
      (case l => k_is)
      (case c => k_is)
      (case k => k_is)
      (case b => exact fun _ _ _ _ _ _ us hl => match us, hl with | [_, _, _], _ => rfl)
    case t_is_row =>
      refine' Tg.tf_of KX G ?a ?l ?c ?k ?b
      (case a => k_is)
      (case l => k_is)
      (case c => k_is)
      (case k => k_is)
      (case b => exact fun _ _ _ _ _ _ us hl => match us, hl with | [_, _], _ => rfl)
    case t_need_program =>
      refine' Tg.tf_of KX G ?a ?l ?c ?k ?b
      (case a => k_is)
      (case l => k_is)
      (case c => k_is)
      (case k => k_is)
      (case b => exact fun _ _ _ _ _ _ us hl => match us, hl with | [_], _ => rfl)
    case t_is_plain_marked =>
      refine' Tg.tfa_of KX G ?a ?l ?c ?k ?b
      (case a => k_is)
      (case l => k_is)
      (case c => k_is)
      (case k => k_is)
      (case b => exact fun _ _ _ _ _ _ us hl => match us, hl with | [_], _ => rfl)
    case t_need_plain =>
      refine' Tg.tf_of KX G ?a ?l ?c ?k ?b
      (case a => k_is)
      (case l => k_is)
      (case c => k_is)
      (case k => k_is)
      (case b => exact fun _ _ _ _ _ _ us hl => match us, hl with | [_], _ => rfl)
    case t_need_numbers =>
      refine' Tg.tf_of KX G ?a ?l ?c ?k ?b
      (case a => k_is)
      (case l => k_is)
      (case c => k_is)
      (case k => k_is)
      (case b => exact fun _ _ _ _ _ _ us hl => match us, hl with | [_], _ => rfl)
    case t_need_fuel =>
      refine' Tg.tf_of KX G ?a ?l ?c ?k ?b
      (case a => k_is)
      (case l => k_is)
      (case c => k_is)
      (case k => k_is)
      (case b => exact fun _ _ _ _ _ _ us hl => match us, hl with | [_], _ => rfl)
    case t_Plain___init__ =>
      refine' Tg.ti_of KX G ?a ?m ?i ?l ?c ?k ?b ?mk ?kc
      (case a => k_is)
      (case m => k_is)
      (case i => k_is)
      (case l => k_is)
      (case c => k_is)
      (case k => k_is)
      (case b => exact fun _ _ _ _ _ _ us hl => match us, hl with | [_, _, _], _ => rfl)
      (case mk => k_is)
      (case kc => k_is)
    case t_ring =>
      refine' Tg.tf_of KX G ?a ?l ?c ?k ?b
      (case a => k_is)
      (case l => k_is)
      (case c => k_is)
      (case k => k_is)
      (case b => exact fun _ _ _ _ _ _ us hl => match us, hl with | [_], _ => rfl)
    case t_Plain_double =>
      refine' Tg.tm_of KX G ?a ?m ?i ?l ?c ?k ?b ?pg ?hd ?po ?sa
      (case a => k_is)
      (case m => k_is)
      (case i => k_is)
      (case l => k_is)
      (case c => k_is)
      (case k => k_is)
      (case b => exact fun _ _ _ _ _ _ us hl => match us, hl with | [_, _, _, _], _ => rfl)
      (case pg => k_is)
      (case hd => k_is)
      (case po => k_is)
      (case sa => k_is)
    case t_Plain_deed =>
      refine' Tg.tm_of KX G ?a ?m ?i ?l ?c ?k ?b ?pg ?hd ?po ?sa
      (case a => k_is)
      (case m => k_is)
      (case i => k_is)
      (case l => k_is)
      (case c => k_is)
      (case k => k_is)
      (case b => exact fun _ _ _ _ _ _ us hl => match us, hl with | [_, _, _], _ => rfl)
      (case pg => k_is)
      (case hd => k_is)
      (case po => k_is)
      (case sa => k_is)
    case t_Plain_step =>
      refine' Tg.tm_of KX G ?a ?m ?i ?l ?c ?k ?b ?pg ?hd ?po ?sa
      (case a => k_is)
      (case m => k_is)
      (case i => k_is)
      (case l => k_is)
      (case c => k_is)
      (case k => k_is)
      (case b => exact fun _ _ _ _ _ _ us hl => match us, hl with | [_], _ => rfl)
      (case pg => k_is)
      (case hd => k_is)
      (case po => k_is)
      (case sa => k_is)
    case t_run_places =>
      refine' Tg.tf_of KX G ?a ?l ?c ?k ?b
      (case a => k_is)
      (case l => k_is)
      (case c => k_is)
      (case k => k_is)
      (case b => exact fun _ _ _ _ _ _ us hl => match us, hl with | [_, _, _], _ => rfl)
    case t_keyed =>
      refine' Tg.tf_of KX G ?a ?l ?c ?k ?b
      (case a => k_is)
      (case l => k_is)
      (case c => k_is)
      (case k => k_is)
      (case b => exact fun _ _ _ _ _ _ us hl => match us, hl with | [_], _ => rfl)
    case t_is_key =>
      refine' Tg.tf_of KX G ?a ?l ?c ?k ?b
      (case a => k_is)
      (case l => k_is)
      (case c => k_is)
      (case k => k_is)
      (case b => exact fun _ _ _ _ _ _ us hl => match us, hl with | [_, _], _ => rfl)
    case t_is_plain_words =>
      refine' Tg.tfa_of KX G ?a ?l ?c ?k ?b
      (case a => k_is)
      (case l => k_is)
      (case c => k_is)
      (case k => k_is)
      (case b => exact fun _ _ _ _ _ _ us hl => match us, hl with | [_, _], _ => rfl)
    case t_is_word =>
      refine' Tg.tf_of KX G ?a ?l ?c ?k ?b
      (case a => k_is)
      (case l => k_is)
      (case c => k_is)
      (case k => k_is)
      (case b => exact fun _ _ _ _ _ _ us hl => match us, hl with | [_, _, _], _ => rfl)
    case t_need_words =>
      refine' Tg.tf_of KX G ?a ?l ?c ?k ?b
      (case a => k_is)
      (case l => k_is)
      (case c => k_is)
      (case k => k_is)
      (case b => exact fun _ _ _ _ _ _ us hl => match us, hl with | [_, _, _, _, _], _ => rfl)
    case t_need_state =>
      refine' Tg.tf_of KX G ?a ?l ?c ?k ?b
      (case a => k_is)
      (case l => k_is)
      (case c => k_is)
      (case k => k_is)
      (case b => exact fun _ _ _ _ _ _ us hl => match us, hl with | [_, _, _, _], _ => rfl)
    case t_Rows___init__ =>
      refine' Tg.tc_of KX G ?a ?r ?g ?m ?l ?c ?k ?b
      (case a => k_is)
      (case r => k_is)
      (case g => k_is)
      (case m => k_is)
      (case l => k_is)
      (case c => k_is)
      (case k => k_is)
      (case b => exact fun _ _ _ _ _ _ us hl => match us, hl with | [_, _, _, _, _], _ => rfl)
    case t_AtOnce___init__ =>
      refine' Tg.ti_of KX G ?a ?m ?i ?l ?c ?k ?b ?mk ?kc
      (case a => k_is)
      (case m => k_is)
      (case i => k_is)
      (case l => k_is)
      (case c => k_is)
      (case k => k_is)
      (case b => exact fun _ _ _ _ _ _ us hl => match us, hl with | [_, _, _, _, _], _ => rfl)
      (case mk => k_is)
      (case kc => k_is)
    case t_AtOnce_look =>
      refine' Tg.tm_of KX G ?a ?m ?i ?l ?c ?k ?b ?pg ?hd ?po ?sa
      (case a => k_is)
      (case m => k_is)
      (case i => k_is)
      (case l => k_is)
      (case c => k_is)
      (case k => k_is)
      (case b => exact fun _ _ _ _ _ _ us hl => match us, hl with | [_, _], _ => rfl)
      (case pg => k_is)
      (case hd => k_is)
      (case po => k_is)
      (case sa => k_is)
    case t_AtOnce_box =>
      refine' Tg.tm_of KX G ?a ?m ?i ?l ?c ?k ?b ?pg ?hd ?po ?sa
      (case a => k_is)
      (case m => k_is)
      (case i => k_is)
      (case l => k_is)
      (case c => k_is)
      (case k => k_is)
      (case b => exact fun _ _ _ _ _ _ us hl => match us, hl with | [_, _], _ => rfl)
      (case pg => k_is)
      (case hd => k_is)
      (case po => k_is)
      (case sa => k_is)
    case t_Stop___init__ =>
      refine' Tg.tx_of PySem.F.excBase_Exception KX G ?a ?xl ?same ?tail ?sa ?eC ?tC ?kC ?m ?ti ?l ?c ?k ?b ?xb ?no
      (case a => k_is)
      (case xl => k_is)
      (case sa => k_is)
      (case eC => k_is)
      (case tC => k_is)
      (case kC => k_is)
      (case m => k_is)
      (case ti => k_is)
      (case l => k_is)
      (case c => k_is)
      (case k => k_is)
      (case no => k_is)
      (case same => exact fun _ => rfl)
      (case tail => exact .inr rfl)
      (case b => exact fun _ _ _ _ _ _ us hl => match us, hl with | [_, _], _ => rfl)
      (case xb =>
        refine' Tg.xb_blt (PySem.W.mg_none_of KX G ?a) (by decide +kernel) (by decide) Tg.typ_Ex (by decide +kernel) ?h5 (by decide +kernel)
        (case a => k_is)
        (case h5 => k_is))
    case t_need =>
      refine' Tg.tf_of KX G ?a ?l ?c ?k ?b
      (case a => k_is)
      (case l => k_is)
      (case c => k_is)
      (case k => k_is)
      (case b => exact fun _ _ _ _ _ _ us hl => match us, hl with | [_, _], _ => rfl)
    case t_kind_of =>
      refine' Tg.tf_of KX G ?a ?l ?c ?k ?b
      (case a => k_is)
      (case l => k_is)
      (case c => k_is)
      (case k => k_is)
      (case b => exact fun _ _ _ _ _ _ us hl => match us, hl with | [_], _ => rfl)
    case t_AtOnce_entered =>
      refine' Tg.tm_of KX G ?a ?m ?i ?l ?c ?k ?b ?pg ?hd ?po ?sa
      (case a => k_is)
      (case m => k_is)
      (case i => k_is)
      (case l => k_is)
      (case c => k_is)
      (case k => k_is)
      (case b => exact fun _ _ _ _ _ _ us hl => match us, hl with | [_, _], _ => rfl)
      (case pg => k_is)
      (case hd => k_is)
      (case po => k_is)
      (case sa => k_is)
    case t_AtOnce_number =>
      refine' Tg.tm_of KX G ?a ?m ?i ?l ?c ?k ?b ?pg ?hd ?po ?sa
      (case a => k_is)
      (case m => k_is)
      (case i => k_is)
      (case l => k_is)
      (case c => k_is)
      (case k => k_is)
      (case b => exact fun _ _ _ _ _ _ us hl => match us, hl with | [_, _], _ => rfl)
      (case pg => k_is)
      (case hd => k_is)
      (case po => k_is)
      (case sa => k_is)
    case t_AtOnce_key =>
      refine' Tg.tm_of KX G ?a ?m ?i ?l ?c ?k ?b ?pg ?hd ?po ?sa
      (case a => k_is)
      (case m => k_is)
      (case i => k_is)
      (case l => k_is)
      (case c => k_is)
      (case k => k_is)
      (case b => exact fun _ _ _ _ _ _ us hl => match us, hl with | [_, _], _ => rfl)
      (case pg => k_is)
      (case hd => k_is)
      (case po => k_is)
      (case sa => k_is)
    case t_AtOnce_cell_of =>
      refine' Tg.tm_of KX G ?a ?m ?i ?l ?c ?k ?b ?pg ?hd ?po ?sa
      (case a => k_is)
      (case m => k_is)
      (case i => k_is)
      (case l => k_is)
      (case c => k_is)
      (case k => k_is)
      (case b => exact fun _ _ _ _ _ _ us hl => match us, hl with | [_, _, _, _], _ => rfl)
      (case pg => k_is)
      (case hd => k_is)
      (case po => k_is)
      (case sa => k_is)
    case t_AtOnce_put_in =>
      refine' Tg.tm_of KX G ?a ?m ?i ?l ?c ?k ?b ?pg ?hd ?po ?sa
      (case a => k_is)
      (case m => k_is)
      (case i => k_is)
      (case l => k_is)
      (case c => k_is)
      (case k => k_is)
      (case b => exact fun _ _ _ _ _ _ us hl => match us, hl with | [_, _], _ => rfl)
      (case pg => k_is)
      (case hd => k_is)
      (case po => k_is)
      (case sa => k_is)
    case t_inner =>
      refine' Tg.tf_of KX G ?a ?l ?c ?k ?b
      (case a => k_is)
      (case l => k_is)
      (case c => k_is)
      (case k => k_is)
      (case b => exact fun _ _ _ _ _ _ us hl => match us, hl with | [_], _ => rfl)
    case t_without =>
      refine' Tg.tf_of KX G ?a ?l ?c ?k ?b
      (case a => k_is)
      (case l => k_is)
      (case c => k_is)
      (case k => k_is)
      (case b => exact fun _ _ _ _ _ _ us hl => match us, hl with | [_, _], _ => rfl)
    case t_AtOnce_take_room =>
      refine' Tg.tm_of KX G ?a ?m ?i ?l ?c ?k ?b ?pg ?hd ?po ?sa
      (case a => k_is)
      (case m => k_is)
      (case i => k_is)
      (case l => k_is)
      (case c => k_is)
      (case k => k_is)
      (case b => exact fun _ _ _ _ _ _ us hl => match us, hl with | [_, _], _ => rfl)
      (case pg => k_is)
      (case hd => k_is)
      (case po => k_is)
      (case sa => k_is)
    case t_AtOnce_shut =>
      refine' Tg.tm_of KX G ?a ?m ?i ?l ?c ?k ?b ?pg ?hd ?po ?sa
      (case a => k_is)
      (case m => k_is)
      (case i => k_is)
      (case l => k_is)
      (case c => k_is)
      (case k => k_is)
      (case b => exact fun _ _ _ _ _ _ us hl => match us, hl with | [_, _], _ => rfl)
      (case pg => k_is)
      (case hd => k_is)
      (case po => k_is)
      (case sa => k_is)
    case t_AtOnce_give_room =>
      refine' Tg.tm_of KX G ?a ?m ?i ?l ?c ?k ?b ?pg ?hd ?po ?sa
      (case a => k_is)
      (case m => k_is)
      (case i => k_is)
      (case l => k_is)
      (case c => k_is)
      (case k => k_is)
      (case b => exact fun _ _ _ _ _ _ us hl => match us, hl with | [_], _ => rfl)
      (case pg => k_is)
      (case hd => k_is)
      (case po => k_is)
      (case sa => k_is)
    case t_AtOnce_lent =>
      refine' Tg.tm_of KX G ?a ?m ?i ?l ?c ?k ?b ?pg ?hd ?po ?sa
      (case a => k_is)
      (case m => k_is)
      (case i => k_is)
      (case l => k_is)
      (case c => k_is)
      (case k => k_is)
      (case b => exact fun _ _ _ _ _ _ us hl => match us, hl with | [_], _ => rfl)
      (case pg => k_is)
      (case hd => k_is)
      (case po => k_is)
      (case sa => k_is)
    case t_AtOnce_taken_out =>
      refine' Tg.tm_of KX G ?a ?m ?i ?l ?c ?k ?b ?pg ?hd ?po ?sa
      (case a => k_is)
      (case m => k_is)
      (case i => k_is)
      (case l => k_is)
      (case c => k_is)
      (case k => k_is)
      (case b => exact fun _ _ _ _ _ _ us hl => match us, hl with | [_, _], _ => rfl)
      (case pg => k_is)
      (case hd => k_is)
      (case po => k_is)
      (case sa => k_is)
    case t_fewer =>
      refine' Tg.tf_of KX G ?a ?l ?c ?k ?b
      (case a => k_is)
      (case l => k_is)
      (case c => k_is)
      (case k => k_is)
      (case b => exact fun _ _ _ _ _ _ us hl => match us, hl with | [_, _], _ => rfl)
    case t_narrowed =>
      refine' Tg.tf_of KX G ?a ?l ?c ?k ?b
      (case a => k_is)
      (case l => k_is)
      (case c => k_is)
      (case k => k_is)
      (case b => exact fun _ _ _ _ _ _ us hl => match us, hl with | [_, _], _ => rfl)
    case t_moved =>
      refine' Tg.tf_of KX G ?a ?l ?c ?k ?b
      (case a => k_is)
      (case l => k_is)
      (case c => k_is)
      (case k => k_is)
      (case b => exact fun _ _ _ _ _ _ us hl => match us, hl with | [_, _], _ => rfl)
    case t_AtOnce_double =>
      refine' Tg.tm_of KX G ?a ?m ?i ?l ?c ?k ?b ?pg ?hd ?po ?sa
      (case a => k_is)
      (case m => k_is)
      (case i => k_is)
      (case l => k_is)
      (case c => k_is)
      (case k => k_is)
      (case b => exact fun _ _ _ _ _ _ us hl => match us, hl with | [_, _, _], _ => rfl)
      (case pg => k_is)
      (case hd => k_is)
      (case po => k_is)
      (case sa => k_is)
    case t_AtOnce_worth =>
      refine' Tg.tm_of KX G ?a ?m ?i ?l ?c ?k ?b ?pg ?hd ?po ?sa
      (case a => k_is)
      (case m => k_is)
      (case i => k_is)
      (case l => k_is)
      (case c => k_is)
      (case k => k_is)
      (case b => exact fun _ _ _ _ _ _ us hl => match us, hl with | [_, _, _], _ => rfl)
      (case pg => k_is)
      (case hd => k_is)
      (case po => k_is)
      (case sa => k_is)
    case t_AtOnce_done =>
      refine' Tg.tm_of KX G ?a ?m ?i ?l ?c ?k ?b ?pg ?hd ?po ?sa
      (case a => k_is)
      (case m => k_is)
      (case i => k_is)
      (case l => k_is)
      (case c => k_is)
      (case k => k_is)
      (case b => exact fun _ _ _ _ _ _ us hl => match us, hl with | [_, _], _ => rfl)
      (case pg => k_is)
      (case hd => k_is)
      (case po => k_is)
      (case sa => k_is)
    case t_AtOnce_step =>
      refine' Tg.tm_of KX G ?a ?m ?i ?l ?c ?k ?b ?pg ?hd ?po ?sa
      (case a => k_is)
      (case m => k_is)
      (case i => k_is)
      (case l => k_is)
      (case c => k_is)
      (case k => k_is)
      (case b => exact fun _ _ _ _ _ _ us hl => match us, hl with | [_], _ => rfl)
      (case pg => k_is)
      (case hd => k_is)
      (case po => k_is)
      (case sa => k_is)
    case t_run =>
      refine' Tg.tf_of KX G ?a ?l ?c ?k ?b
      (case a => k_is)
      (case l => k_is)
      (case c => k_is)
      (case k => k_is)
      (case b => exact fun _ _ _ _ _ _ us hl => match us, hl with | [_, _, _, _, _], _ => rfl)
    case t__law_alike =>
      refine' Tg.tf_of KX G ?a ?l ?c ?k ?b
      (case a => k_is)
      (case l => k_is)
      (case c => k_is)
      (case k => k_is)
      (case b => exact fun _ _ _ _ _ _ us hl => match us, hl with | [_, _], _ => rfl)
    case t_Lazy___init__ =>
      refine' Tg.ti_of KX G ?a ?m ?i ?l ?c ?k ?b ?mk ?kc
      (case a => k_is)
      (case m => k_is)
      (case i => k_is)
      (case l => k_is)
      (case c => k_is)
      (case k => k_is)
      (case b => exact fun _ _ _ _ _ _ us hl => match us, hl with | [_, _, _, _, _], _ => rfl)
      (case mk => k_is)
      (case kc => k_is)
    case t_Machine___init__ =>
      refine' Tg.ti_of KX G ?a ?m ?i ?l ?c ?k ?b ?mk ?kc
      (case a => k_is)
      (case m => k_is)
      (case i => k_is)
      (case l => k_is)
      (case c => k_is)
      (case k => k_is)
      (case b => exact fun _ _ _ _ _ _ us hl => match us, hl with | [_, _, _, _, _], _ => rfl)
      (case mk => k_is)
      (case kc => k_is)
    case t_Lazy_shut_ones =>
      refine' Tg.tm_of KX G ?a ?m ?i ?l ?c ?k ?b ?pg ?hd ?po ?sa
      (case a => k_is)
      (case m => k_is)
      (case i => k_is)
      (case l => k_is)
      (case c => k_is)
      (case k => k_is)
      (case b => exact fun _ _ _ _ _ _ us hl => match us, hl with | [_], _ => rfl)
      (case pg => k_is)
      (case hd => k_is)
      (case po => k_is)
      (case sa => k_is)
    case t_Lazy_look =>
      refine' Tg.tm_of KX G ?a ?m ?i ?l ?c ?k ?b ?pg ?hd ?po ?sa
      (case a => k_is)
      (case m => k_is)
      (case i => k_is)
      (case l => k_is)
      (case c => k_is)
      (case k => k_is)
      (case b => exact fun _ _ _ _ _ _ us hl => match us, hl with | [_, _], _ => rfl)
      (case pg => k_is)
      (case hd => k_is)
      (case po => k_is)
      (case sa => k_is)
    case t_Lazy_box =>
      refine' Tg.tm_of KX G ?a ?m ?i ?l ?c ?k ?b ?pg ?hd ?po ?sa
      (case a => k_is)
      (case m => k_is)
      (case i => k_is)
      (case l => k_is)
      (case c => k_is)
      (case k => k_is)
      (case b => exact fun _ _ _ _ _ _ us hl => match us, hl with | [_, _], _ => rfl)
      (case pg => k_is)
      (case hd => k_is)
      (case po => k_is)
      (case sa => k_is)
    case t_Lazy_entered =>
      refine' Tg.tm_of KX G ?a ?m ?i ?l ?c ?k ?b ?pg ?hd ?po ?sa
      (case a => k_is)
      (case m => k_is)
      (case i => k_is)
      (case l => k_is)
      (case c => k_is)
      (case k => k_is)
      (case b => exact fun _ _ _ _ _ _ us hl => match us, hl with | [_, _], _ => rfl)
      (case pg => k_is)
      (case hd => k_is)
      (case po => k_is)
      (case sa => k_is)
    case t_Lazy_number =>
      refine' Tg.tm_of KX G ?a ?m ?i ?l ?c ?k ?b ?pg ?hd ?po ?sa
      (case a => k_is)
      (case m => k_is)
      (case i => k_is)
      (case l => k_is)
      (case c => k_is)
      (case k => k_is)
      (case b => exact fun _ _ _ _ _ _ us hl => match us, hl with | [_, _], _ => rfl)
      (case pg => k_is)
      (case hd => k_is)
      (case po => k_is)
      (case sa => k_is)
    case t_Lazy_key =>
      refine' Tg.tm_of KX G ?a ?m ?i ?l ?c ?k ?b ?pg ?hd ?po ?sa
      (case a => k_is)
      (case m => k_is)
      (case i => k_is)
      (case l => k_is)
      (case c => k_is)
      (case k => k_is)
      (case b => exact fun _ _ _ _ _ _ us hl => match us, hl with | [_, _], _ => rfl)
      (case pg => k_is)
      (case hd => k_is)
      (case po => k_is)
      (case sa => k_is)
    case t_Lazy_cell_of =>
      refine' Tg.tm_of KX G ?a ?m ?i ?l ?c ?k ?b ?pg ?hd ?po ?sa
      (case a => k_is)
      (case m => k_is)
      (case i => k_is)
      (case l => k_is)
      (case c => k_is)
      (case k => k_is)
      (case b => exact fun _ _ _ _ _ _ us hl => match us, hl with | [_, _, _, _], _ => rfl)
      (case pg => k_is)
      (case hd => k_is)
      (case po => k_is)
      (case sa => k_is)
    case t_Lazy_put_in =>
      refine' Tg.tm_of KX G ?a ?m ?i ?l ?c ?k ?b ?pg ?hd ?po ?sa
      (case a => k_is)
      (case m => k_is)
      (case i => k_is)
      (case l => k_is)
      (case c => k_is)
      (case k => k_is)
      (case b => exact fun _ _ _ _ _ _ us hl => match us, hl with | [_, _], _ => rfl)
      (case pg => k_is)
      (case hd => k_is)
      (case po => k_is)
      (case sa => k_is)
    case t_Lazy_take_room =>
      refine' Tg.tm_of KX G ?a ?m ?i ?l ?c ?k ?b ?pg ?hd ?po ?sa
      (case a => k_is)
      (case m => k_is)
      (case i => k_is)
      (case l => k_is)
      (case c => k_is)
      (case k => k_is)
      (case b => exact fun _ _ _ _ _ _ us hl => match us, hl with | [_, _], _ => rfl)
      (case pg => k_is)
      (case hd => k_is)
      (case po => k_is)
      (case sa => k_is)
    case t_Lazy_shut =>
      refine' Tg.tm_of KX G ?a ?m ?i ?l ?c ?k ?b ?pg ?hd ?po ?sa
      (case a => k_is)
      (case m => k_is)
      (case i => k_is)
      (case l => k_is)
      (case c => k_is)
      (case k => k_is)
      (case b => exact fun _ _ _ _ _ _ us hl => match us, hl with | [_, _], _ => rfl)
      (case pg => k_is)
      (case hd => k_is)
      (case po => k_is)
      (case sa => k_is)
    case t_Lazy_free_rooms =>
      refine' Tg.tm_of KX G ?a ?m ?i ?l ?c ?k ?b ?pg ?hd ?po ?sa
      (case a => k_is)
      (case m => k_is)
      (case i => k_is)
      (case l => k_is)
      (case c => k_is)
      (case k => k_is)
      (case b => exact fun _ _ _ _ _ _ us hl => match us, hl with | [_], _ => rfl)
      (case pg => k_is)
      (case hd => k_is)
      (case po => k_is)
      (case sa => k_is)
    case t_Lazy_begin_sweep =>
      refine' Tg.tm_of KX G ?a ?m ?i ?l ?c ?k ?b ?pg ?hd ?po ?sa
      (case a => k_is)
      (case m => k_is)
      (case i => k_is)
      (case l => k_is)
      (case c => k_is)
      (case k => k_is)
      (case b => exact fun _ _ _ _ _ _ us hl => match us, hl with | [_], _ => rfl)
      (case pg => k_is)
      (case hd => k_is)
      (case po => k_is)
      (case sa => k_is)
    case t_Lazy_end_sweep =>
      refine' Tg.tm_of KX G ?a ?m ?i ?l ?c ?k ?b ?pg ?hd ?po ?sa
      (case a => k_is)
      (case m => k_is)
      (case i => k_is)
      (case l => k_is)
      (case c => k_is)
      (case k => k_is)
      (case b => exact fun _ _ _ _ _ _ us hl => match us, hl with | [_], _ => rfl)
      (case pg => k_is)
      (case hd => k_is)
      (case po => k_is)
      (case sa => k_is)
    case t_Lazy_sweep =>
      refine' Tg.tm_of KX G ?a ?m ?i ?l ?c ?k ?b ?pg ?hd ?po ?sa
      (case a => k_is)
      (case m => k_is)
      (case i => k_is)
      (case l => k_is)
      (case c => k_is)
      (case k => k_is)
      (case b => exact fun _ _ _ _ _ _ us hl => match us, hl with | [_, _], _ => rfl)
      (case pg => k_is)
      (case hd => k_is)
      (case po => k_is)
      (case sa => k_is)
    case t_Lazy_give_room =>
      refine' Tg.tm_of KX G ?a ?m ?i ?l ?c ?k ?b ?pg ?hd ?po ?sa
      (case a => k_is)
      (case m => k_is)
      (case i => k_is)
      (case l => k_is)
      (case c => k_is)
      (case k => k_is)
      (case b => exact fun _ _ _ _ _ _ us hl => match us, hl with | [_], _ => rfl)
      (case pg => k_is)
      (case hd => k_is)
      (case po => k_is)
      (case sa => k_is)
    case t_Lazy_lent =>
      refine' Tg.tm_of KX G ?a ?m ?i ?l ?c ?k ?b ?pg ?hd ?po ?sa
      (case a => k_is)
      (case m => k_is)
      (case i => k_is)
      (case l => k_is)
      (case c => k_is)
      (case k => k_is)
      (case b => exact fun _ _ _ _ _ _ us hl => match us, hl with | [_], _ => rfl)
      (case pg => k_is)
      (case hd => k_is)
      (case po => k_is)
      (case sa => k_is)
    case t_Lazy_taken_out =>
      refine' Tg.tm_of KX G ?a ?m ?i ?l ?c ?k ?b ?pg ?hd ?po ?sa
      (case a => k_is)
      (case m => k_is)
      (case i => k_is)
      (case l => k_is)
      (case c => k_is)
      (case k => k_is)
      (case b => exact fun _ _ _ _ _ _ us hl => match us, hl with | [_, _], _ => rfl)
      (case pg => k_is)
      (case hd => k_is)
      (case po => k_is)
      (case sa => k_is)
    case t_Lazy_double =>
      refine' Tg.tm_of KX G ?a ?m ?i ?l ?c ?k ?b ?pg ?hd ?po ?sa
      (case a => k_is)
      (case m => k_is)
      (case i => k_is)
      (case l => k_is)
      (case c => k_is)
      (case k => k_is)
      (case b => exact fun _ _ _ _ _ _ us hl => match us, hl with | [_, _, _], _ => rfl)
      (case pg => k_is)
      (case hd => k_is)
      (case po => k_is)
      (case sa => k_is)
    case t_Lazy_worth =>
      refine' Tg.tm_of KX G ?a ?m ?i ?l ?c ?k ?b ?pg ?hd ?po ?sa
      (case a => k_is)
      (case m => k_is)
      (case i => k_is)
      (case l => k_is)
      (case c => k_is)
      (case k => k_is)
      (case b => exact fun _ _ _ _ _ _ us hl => match us, hl with | [_, _, _], _ => rfl)
      (case pg => k_is)
      (case hd => k_is)
      (case po => k_is)
      (case sa => k_is)
    case t_Lazy_done =>
      refine' Tg.tm_of KX G ?a ?m ?i ?l ?c ?k ?b ?pg ?hd ?po ?sa
      (case a => k_is)
      (case m => k_is)
      (case i => k_is)
      (case l => k_is)
      (case c => k_is)
      (case k => k_is)
      (case b => exact fun _ _ _ _ _ _ us hl => match us, hl with | [_, _], _ => rfl)
      (case pg => k_is)
      (case hd => k_is)
      (case po => k_is)
      (case sa => k_is)
    case t_Lazy_step =>
      refine' Tg.tm_of KX G ?a ?m ?i ?l ?c ?k ?b ?pg ?hd ?po ?sa
      (case a => k_is)
      (case m => k_is)
      (case i => k_is)
      (case l => k_is)
      (case c => k_is)
      (case k => k_is)
      (case b => exact fun _ _ _ _ _ _ us hl => match us, hl with | [_], _ => rfl)
      (case pg => k_is)
      (case hd => k_is)
      (case po => k_is)
      (case sa => k_is)
    case t_Machine_step =>
      refine' Tg.tm_of KX G ?a ?m ?i ?l ?c ?k ?b ?pg ?hd ?po ?sa
      (case a => k_is)
      (case m => k_is)
      (case i => k_is)
      (case l => k_is)
      (case c => k_is)
      (case k => k_is)
      (case b => exact fun _ _ _ _ _ _ us hl => match us, hl with | [_], _ => rfl)
      (case pg => k_is)
      (case hd => k_is)
      (case po => k_is)
      (case sa => k_is)
    case t_Machine_ended =>
      refine' Tg.tm_of KX G ?a ?m ?i ?l ?c ?k ?b ?pg ?hd ?po ?sa
      (case a => k_is)
      (case m => k_is)
      (case i => k_is)
      (case l => k_is)
      (case c => k_is)
      (case k => k_is)
      (case b => exact fun _ _ _ _ _ _ us hl => match us, hl with | [_], _ => rfl)
      (case pg => k_is)
      (case hd => k_is)
      (case po => k_is)
      (case sa => k_is)
    case t_Machine_cells =>
      refine' Tg.tm_of KX G ?a ?m ?i ?l ?c ?k ?b ?pg ?hd ?po ?sa
      (case a => k_is)
      (case m => k_is)
      (case i => k_is)
      (case l => k_is)
      (case c => k_is)
      (case k => k_is)
      (case b => exact fun _ _ _ _ _ _ us hl => match us, hl with | [_], _ => rfl)
      (case pg => k_is)
      (case hd => k_is)
      (case po => k_is)
      (case sa => k_is)
    case t_Machine_said =>
      refine' Tg.tm_of KX G ?a ?m ?i ?l ?c ?k ?b ?pg ?hd ?po ?sa
      (case a => k_is)
      (case m => k_is)
      (case i => k_is)
      (case l => k_is)
      (case c => k_is)
      (case k => k_is)
      (case b => exact fun _ _ _ _ _ _ us hl => match us, hl with | [_], _ => rfl)
      (case pg => k_is)
      (case hd => k_is)
      (case po => k_is)
      (case sa => k_is)
    case t_law =>
      refine' Tg.tl_of KX G ?a ?l ?c ?k ?b
      (case a => k_is)
      (case l => k_is)
      (case c => k_is)
      (case k => k_is)
      (case b => exact fun _ _ _ _ _ _ us hl => match us, hl with | [_], _ => rfl)
    case g_ALL =>
      refine' Tg.gint (PySem.W.mg_of KX G ?a)
      (case a => k_is)
    case g_BOXES_marked =>
      refine' Tg.gint (PySem.W.mg_of KX G ?a)
      (case a => k_is)
    case g_BOXES_words =>
      refine' Tg.gint (PySem.W.mg_of KX G ?a)
      (case a => k_is)
    case g_CELLS =>
      refine' Tg.gint (PySem.W.mg_of KX G ?a)
      (case a => k_is)
    case g_END =>
      refine' Tg.gtup_at (PySem.W.mg_of KX G ?a) ?l ?d
      (case a => k_is)
      (case l => k_is)
      (case d => rfl)
    case g_FORMS =>
      refine' Tg.gtab_at (PySem.W.mg_of KX G ?a) ?l ?k ?o ?e
      (case a => k_is)
      (case l => k_is)
      (case k => k_keys)
      (case o => decide)
      (case e => rfl)
    case g_GATE =>
      refine' Tg.gstr (PySem.W.mg_of KX G ?a)
      (case a => k_is)
    case g_HALF =>
      refine' Tg.gint (PySem.W.mg_of KX G ?a)
      (case a => k_is)
    case g_KEY =>
      refine' Tg.gstr (PySem.W.mg_of KX G ?a)
      (case a => k_is)
    case g_LONG =>
      refine' Tg.gtup_at (PySem.W.mg_of KX G ?a) ?l ?d
      (case a => k_is)
      (case l => k_is)
      (case d => rfl)
    case g_MOST_FUEL =>
      refine' Tg.gint (PySem.W.mg_of KX G ?a)
      (case a => k_is)
    case g_MOST_PLAIN =>
      refine' Tg.gint (PySem.W.mg_of KX G ?a)
      (case a => k_is)
    case g_MOST_ROOMS =>
      refine' Tg.gint (PySem.W.mg_of KX G ?a)
      (case a => k_is)
    case g_MOST_ROWS =>
      refine' Tg.gint (PySem.W.mg_of KX G ?a)
      (case a => k_is)
    case g_OFFSET =>
      refine' Tg.gint (PySem.W.mg_of KX G ?a)
      (case a => k_is)
    case g_PLACE =>
      refine' Tg.gint (PySem.W.mg_of KX G ?a)
      (case a => k_is)
    case g_RIGHTS =>
      refine' Tg.gstr (PySem.W.mg_of KX G ?a)
      (case a => k_is)
    case g_ROOM =>
      refine' Tg.gint (PySem.W.mg_of KX G ?a)
      (case a => k_is)
    case g_WHOLE =>
      refine' Tg.gint (PySem.W.mg_of KX G ?a)
      (case a => k_is)
    case g_WORDS =>
      refine' Tg.gtup_at (PySem.W.mg_of KX G ?a) ?l ?d
      (case a => k_is)
      (case l => k_is)
      (case d => rfl)
    case k_Stop_word =>
      refine' Tg.xcat_of KX G ?a ?ga ?gg ?eC ?hd ?tC ?sC ?no
      (case a => first | k_is | rfl)
      (case ga => first | k_is | rfl)
      (case gg => first | k_is | rfl)
      (case eC => first | k_is | rfl)
      (case hd => first | k_is | rfl)
      (case tC => first | k_is | rfl)
      (case sC => first | k_is | rfl)
      (case no => first | k_is | rfl)
    case f_end =>
      refine' Tg.fds_cons (c := "Lazy") KX G ?a ?pg ?hd ?po ?sa ?nf ?r
      (case a => k_is)
      (case pg => k_is)
      (case hd => k_is)
      (case po => k_is)
      (case sa => k_is)
      (case nf => k_is)
      case r =>
      refine' Tg.fds_cons (c := "AtOnce") KX G ?a ?pg ?hd ?po ?sa ?nf ?r
      (case a => k_is)
      (case pg => k_is)
      (case hd => k_is)
      (case po => k_is)
      (case sa => k_is)
      (case nf => k_is)
      case r =>
      refine' Tg.fds_cons (c := "Plain") KX G ?a ?pg ?hd ?po ?sa ?nf ?r
      (case a => k_is)
      (case pg => k_is)
      (case hd => k_is)
      (case po => k_is)
      (case sa => k_is)
      (case nf => k_is)
      case r =>
      exact Tg.fds_nil
    case f_first =>
      refine' Tg.fds_cons (c := "Lazy") KX G ?a ?pg ?hd ?po ?sa ?nf ?r
      (case a => k_is)
      (case pg => k_is)
      (case hd => k_is)
      (case po => k_is)
      (case sa => k_is)
      (case nf => k_is)
      case r =>
      refine' Tg.fds_cons (c := "AtOnce") KX G ?a ?pg ?hd ?po ?sa ?nf ?r
      (case a => k_is)
      (case pg => k_is)
      (case hd => k_is)
      (case po => k_is)
      (case sa => k_is)
      (case nf => k_is)
      case r =>
      exact Tg.fds_nil
    case f_hand =>
      refine' Tg.fds_cons (c := "Lazy") KX G ?a ?pg ?hd ?po ?sa ?nf ?r
      (case a => k_is)
      (case pg => k_is)
      (case hd => k_is)
      (case po => k_is)
      (case sa => k_is)
      (case nf => k_is)
      case r =>
      exact Tg.fds_nil
    case f_held =>
      refine' Tg.fds_cons (c := "Lazy") KX G ?a ?pg ?hd ?po ?sa ?nf ?r
      (case a => k_is)
      (case pg => k_is)
      (case hd => k_is)
      (case po => k_is)
      (case sa => k_is)
      (case nf => k_is)
      case r =>
      refine' Tg.fds_cons (c := "AtOnce") KX G ?a ?pg ?hd ?po ?sa ?nf ?r
      (case a => k_is)
      (case pg => k_is)
      (case hd => k_is)
      (case po => k_is)
      (case sa => k_is)
      (case nf => k_is)
      case r =>
      refine' Tg.fds_cons (c := "Plain") KX G ?a ?pg ?hd ?po ?sa ?nf ?r
      (case a => k_is)
      (case pg => k_is)
      (case hd => k_is)
      (case po => k_is)
      (case sa => k_is)
      (case nf => k_is)
      case r =>
      exact Tg.fds_nil
    case f_here =>
      refine' Tg.fds_cons (c := "Lazy") KX G ?a ?pg ?hd ?po ?sa ?nf ?r
      (case a => k_is)
      (case pg => k_is)
      (case hd => k_is)
      (case po => k_is)
      (case sa => k_is)
      (case nf => k_is)
      case r =>
      refine' Tg.fds_cons (c := "AtOnce") KX G ?a ?pg ?hd ?po ?sa ?nf ?r
      (case a => k_is)
      (case pg => k_is)
      (case hd => k_is)
      (case po => k_is)
      (case sa => k_is)
      (case nf => k_is)
      case r =>
      refine' Tg.fds_cons (c := "Plain") KX G ?a ?pg ?hd ?po ?sa ?nf ?r
      (case a => k_is)
      (case pg => k_is)
      (case hd => k_is)
      (case po => k_is)
      (case sa => k_is)
      (case nf => k_is)
      case r =>
      exact Tg.fds_nil
    case f_lazy =>
      refine' Tg.fds_cons (c := "Machine") KX G ?a ?pg ?hd ?po ?sa ?nf ?r
      (case a => k_is)
      (case pg => k_is)
      (case hd => k_is)
      (case po => k_is)
      (case sa => k_is)
      (case nf => k_is)
      case r =>
      exact Tg.fds_nil
    case f_lent_ones =>
      refine' Tg.fds_cons (c := "AtOnce") KX G ?a ?pg ?hd ?po ?sa ?nf ?r
      (case a => k_is)
      (case pg => k_is)
      (case hd => k_is)
      (case po => k_is)
      (case sa => k_is)
      (case nf => k_is)
      case r =>
      exact Tg.fds_nil
    case f_order =>
      refine' Tg.fds_cons (c := "Lazy") KX G ?a ?pg ?hd ?po ?sa ?nf ?r
      (case a => k_is)
      (case pg => k_is)
      (case hd => k_is)
      (case po => k_is)
      (case sa => k_is)
      (case nf => k_is)
      case r =>
      exact Tg.fds_nil
    case f_program =>
      refine' Tg.fds_cons (c := "Lazy") KX G ?a ?pg ?hd ?po ?sa ?nf ?r
      (case a => k_is)
      (case pg => k_is)
      (case hd => k_is)
      (case po => k_is)
      (case sa => k_is)
      (case nf => k_is)
      case r =>
      refine' Tg.fds_cons (c := "AtOnce") KX G ?a ?pg ?hd ?po ?sa ?nf ?r
      (case a => k_is)
      (case pg => k_is)
      (case hd => k_is)
      (case po => k_is)
      (case sa => k_is)
      (case nf => k_is)
      case r =>
      refine' Tg.fds_cons (c := "Plain") KX G ?a ?pg ?hd ?po ?sa ?nf ?r
      (case a => k_is)
      (case pg => k_is)
      (case hd => k_is)
      (case po => k_is)
      (case sa => k_is)
      (case nf => k_is)
      case r =>
      exact Tg.fds_nil
    case f_state =>
      refine' Tg.fds_cons (c := "Lazy") KX G ?a ?pg ?hd ?po ?sa ?nf ?r
      (case a => k_is)
      (case pg => k_is)
      (case hd => k_is)
      (case po => k_is)
      (case sa => k_is)
      (case nf => k_is)
      case r =>
      exact Tg.fds_nil
    case f_steps =>
      refine' Tg.fds_cons (c := "Lazy") KX G ?a ?pg ?hd ?po ?sa ?nf ?r
      (case a => k_is)
      (case pg => k_is)
      (case hd => k_is)
      (case po => k_is)
      (case sa => k_is)
      (case nf => k_is)
      case r =>
      refine' Tg.fds_cons (c := "AtOnce") KX G ?a ?pg ?hd ?po ?sa ?nf ?r
      (case a => k_is)
      (case pg => k_is)
      (case hd => k_is)
      (case po => k_is)
      (case sa => k_is)
      (case nf => k_is)
      case r =>
      refine' Tg.fds_cons (c := "Plain") KX G ?a ?pg ?hd ?po ?sa ?nf ?r
      (case a => k_is)
      (case pg => k_is)
      (case hd => k_is)
      (case po => k_is)
      (case sa => k_is)
      (case nf => k_is)
      case r =>
      exact Tg.fds_nil
    case f_store =>
      refine' Tg.fds_cons (c := "Lazy") KX G ?a ?pg ?hd ?po ?sa ?nf ?r
      (case a => k_is)
      (case pg => k_is)
      (case hd => k_is)
      (case po => k_is)
      (case sa => k_is)
      (case nf => k_is)
      case r =>
      refine' Tg.fds_cons (c := "AtOnce") KX G ?a ?pg ?hd ?po ?sa ?nf ?r
      (case a => k_is)
      (case pg => k_is)
      (case hd => k_is)
      (case po => k_is)
      (case sa => k_is)
      (case nf => k_is)
      case r =>
      refine' Tg.fds_cons (c := "Plain") KX G ?a ?pg ?hd ?po ?sa ?nf ?r
      (case a => k_is)
      (case pg => k_is)
      (case hd => k_is)
      (case po => k_is)
      (case sa => k_is)
      (case nf => k_is)
      case r =>
      exact Tg.fds_nil
    case f_talk =>
      refine' Tg.fds_cons (c := "Lazy") KX G ?a ?pg ?hd ?po ?sa ?nf ?r
      (case a => k_is)
      (case pg => k_is)
      (case hd => k_is)
      (case po => k_is)
      (case sa => k_is)
      (case nf => k_is)
      case r =>
      refine' Tg.fds_cons (c := "AtOnce") KX G ?a ?pg ?hd ?po ?sa ?nf ?r
      (case a => k_is)
      (case pg => k_is)
      (case hd => k_is)
      (case po => k_is)
      (case sa => k_is)
      (case nf => k_is)
      case r =>
      refine' Tg.fds_cons (c := "Plain") KX G ?a ?pg ?hd ?po ?sa ?nf ?r
      (case a => k_is)
      (case pg => k_is)
      (case hd => k_is)
      (case po => k_is)
      (case sa => k_is)
      (case nf => k_is)
      case r =>
      exact Tg.fds_nil
    case z_bool =>
      refine' PySem.W.mg_none_of KX G ?a
      (case a => k_is)
    case z_dict =>
      refine' PySem.W.mg_none_of KX G ?a
      (case a => k_is)
    case z_int =>
      refine' PySem.W.mg_none_of KX G ?a
      (case a => k_is)
    case z_isinstance =>
      refine' PySem.W.mg_none_of KX G ?a
      (case a => k_is)
    case z_len =>
      refine' PySem.W.mg_none_of KX G ?a
      (case a => k_is)
    case z_list =>
      refine' PySem.W.mg_none_of KX G ?a
      (case a => k_is)
    case z_max =>
      refine' PySem.W.mg_none_of KX G ?a
      (case a => k_is)
    case z_range =>
      refine' PySem.W.mg_none_of KX G ?a
      (case a => k_is)
    case z_sorted =>
      refine' PySem.W.mg_none_of KX G ?a
      (case a => k_is)
    case z_str =>
      refine' PySem.W.mg_none_of KX G ?a
      (case a => k_is)
    case z_tuple =>
      refine' PySem.W.mg_none_of KX G ?a
      (case a => k_is)
