import PyProof.Rows.All
import Wide.All
import OpenK.AllK
import Wide.FinOn
import HandS.ForMost
import HandS.Exc
import HandS.TryOnly
import HandS.ExcOwn
import HandS.WordsExc
import HandS.TupAny
import HandS.TupMul
import HandS.Deep
import HandS.IsInst
import HandS.RaiseMore
import HandS.SortInts
import HandS.SetFor
import HandS.Conv
import KE.KDictPairs
import PyProof.WalksMore
import PyProof.WalkInts
import HandS.Style
import HandS.ExcField
import HandS.HeadHook3
import KE.GoesEnum
import HandS.Codes
import PySem.Challenge.RW_tagmachine_k21_whole_each_word_by_itself
set_option Elab.async false
set_option linter.all false
set_option maxRecDepth 100000
/-! TgBase: data as trees, a numbered heap of the things that change, and how both lie in the layer's heap. -/
namespace Tg
open PySem L2

/-- a value: data as trees; ref n: the n-th thing that changes -/
inductive D where
  | non | bl (b : Bool) | int (i : Int) | str (s : Str) | tup (ds : List D) | lst (ds : List D) | dct (ks : List Key) (ds : List D) | ref (n : Nat) | scr (ns : List Int)

/-- a thing that changes -/
inductive AO where
  | lst (ds : List D) | dct (kvs : List (Key × D)) | ins (c : Str) (fs : List (Str × D))
abbrev AH := List AO
abbrev Sl := List (Option D)
/-- an exception: its class's name, its own fields if it has any -/
structure XV where
  c : Str
  fs : Option (List (Str × D))

inductive R (α : Type) where
  | ok (a : α) (A : AH)
  | exc (x : XV) (A : AH)
  | bad
def R.bind {α β : Type} (r : R α) (f : α → AH → R β) : R β := match r with
  | .ok a A => f a A
  | .exc x A => .exc x A
  | .bad => .bad
@[simp] theorem R.bind_ok {α β : Type} (a : α) (A : AH) (f : α → AH → R β) : (R.ok a A).bind f = f a A := rfl
@[simp] theorem R.bind_exc {α β : Type} (x : XV) (A : AH) (f : α → AH → R β) : (R.exc x A).bind f = .exc x A := rfl
@[simp] theorem R.bind_bad {α β : Type} (f : α → AH → R β) : (R.bad : R α).bind f = .bad := rfl

/-- F: what lies still; m: where the things that change lie, by number -/
structure Wd where
  F : Hp
  m : List Addr
/-- W' knows all that W knows -/
structure Le (W W' : Wd) : Prop where
  f : ∀ a o, W.F a = some o → W'.F a = some o
  m : ∃ r, W'.m = W.m ++ r
theorem Le.refl (W : Wd) : Le W W := ⟨fun _ _ h => h, [], (List.append_nil _).symm⟩
theorem Le.trans {W W1 W2 : Wd} (a : Le W W1) (b : Le W1 W2) : Le W W2 := ⟨fun x o h => b.f x o (a.f x o h), by
  obtain ⟨r, e⟩ := a.m
  obtain ⟨r', e'⟩ := b.m
  exact ⟨r ++ r', by rw [e', e, List.append_assoc]⟩⟩
theorem Le.at {W W' : Wd} (l : Le W W') {n : Nat} {a : Addr} (h : W.m[n]? = some a) : W'.m[n]? = some a := by
  obtain ⟨r, e⟩ := l.m
  rw [e, List.getElem?_append_left (List.getElem?_eq_some_iff.mp h).1]
  exact h

mutual
def Rep (K : PySem.W.Frag) (W : Wd) : D → V → Prop
  | .non, v => v = .non
  | .bl b, v => v = .bl b
  | .int i, v => v = .int i
  | .str s, v => v = .str s
  | .tup ds, v => ∃ a xs, v = .ref a ∧ SqT K W.F a xs ∧ Reps K W ds xs
  | .lst ds, v => ∃ a xs, v = .ref a ∧ W.F a = some (.lst xs) ∧ Reps K W ds xs
  | .dct ks ds, v => ∃ a kvs, v = .ref a ∧ W.F a = some (.dK kvs) ∧ kvs.map (·.1) = ks ∧ Reps K W ds (kvs.map (·.2))
  | .ref n, v => ∃ a, v = .ref a ∧ W.m[n]? = some a
  | .scr ns, v => ∃ a, v = .ref a ∧ SqL K W.F a (ns.map V.int)
def Reps (K : PySem.W.Frag) (W : Wd) : List D → List V → Prop
  | [], vs => vs = []
  | d :: ds, vs => ∃ v r, vs = v :: r ∧ Rep K W d v ∧ Reps K W ds r
end

theorem rd_le {W W' : Wd} (l : Le W W') {a : Addr} {u : HO} (h : Rd W.F a u) : Rd W'.F a u := by
  rcases h with h | ⟨o, h⟩
  · exact .inl (l.f a _ h)
  · exact .inr ⟨o, l.f a _ h⟩
theorem sqT_le {K : PySem.W.Frag} {W W' : Wd} (l : Le W W') {a : Addr} {xs : List V} (h : SqT K W.F a xs) : SqT K W'.F a xs := h.elim (fun z => .inl (rd_le l z)) .inr
theorem sqL_le {K : PySem.W.Frag} {W W' : Wd} (l : Le W W') {a : Addr} {xs : List V} (h : SqL K W.F a xs) : SqL K W'.F a xs := h.elim (fun z => .inl (rd_le l z)) .inr

mutual
theorem Rep.le {K : PySem.W.Frag} {W W' : Wd} (l : Le W W') : ∀ {d : D} {v : V}, Rep K W d v → Rep K W' d v
  | .non, _, h => h
  | .bl _, _, h => h
  | .int _, _, h => h
  | .str _, _, h => h
  | .tup _, _, h => by
    obtain ⟨a, xs, e, s, r⟩ := h
    exact ⟨a, xs, e, sqT_le l s, Reps.le l r⟩
  | .lst _, _, h => by
    obtain ⟨a, xs, e, s, r⟩ := h
    exact ⟨a, xs, e, l.f _ _ s, Reps.le l r⟩
  | .dct _ _, _, h => by
    obtain ⟨a, xs, e, s, k, r⟩ := h
    exact ⟨a, xs, e, l.f _ _ s, k, Reps.le l r⟩
  | .ref _, _, h => by
    obtain ⟨a, e, s⟩ := h
    exact ⟨a, e, l.at s⟩
  | .scr _, _, h => by
    obtain ⟨a, e, s⟩ := h
    exact ⟨a, e, sqL_le l s⟩
theorem Reps.le {K : PySem.W.Frag} {W W' : Wd} (l : Le W W') : ∀ {ds : List D} {vs : List V}, Reps K W ds vs → Reps K W' ds vs
  | [], _, h => h
  | _ :: _, _, h => by
    obtain ⟨v, r, e, h1, h2⟩ := h
    exact ⟨v, r, e, Rep.le l h1, Reps.le l h2⟩
end

section
variable {K : PySem.W.Frag} {W : Wd}
theorem Reps.length : ∀ {ds : List D} {vs : List V}, Reps K W ds vs → vs.length = ds.length
  | [], _, h => by
    have e : _ = [] := h
    rw [e]
    rfl
  | d :: ds, _, h => by
    obtain ⟨v, r, rfl, _, h2⟩ := h
    simp only [List.length_cons, Reps.length h2]
theorem Reps.get : ∀ {ds : List D} {vs : List V} {i : Nat} {d : D}, Reps K W ds vs → ds[i]? = some d → ∃ v, vs[i]? = some v ∧ Rep K W d v
  | [], _, _, _, _, e => by simp at e
  | _ :: _, _, 0, d, h, e => by
    obtain ⟨v, r, rfl, h1, _⟩ := h
    simp at e
    subst e
    exact ⟨v, rfl, h1⟩
  | _ :: _, _, i + 1, d, h, e => by
    obtain ⟨v, r, rfl, _, h2⟩ := h
    obtain ⟨u, e1, h3⟩ := Reps.get (i := i) (d := d) h2 (by simpa using e)
    exact ⟨u, by simpa using e1, h3⟩
theorem Reps.getV : ∀ {ds : List D} {vs : List V} {i : Nat} {v : V}, Reps K W ds vs → vs[i]? = some v → ∃ d, ds[i]? = some d ∧ Rep K W d v
  | [], _, _, _, h, e => by
    have z : _ = [] := h
    rw [z] at e
    simp at e
  | _ :: _, _, 0, v, h, e => by
    obtain ⟨u, r, rfl, h1, _⟩ := h
    simp at e
    subst e
    exact ⟨_, rfl, h1⟩
  | _ :: _, _, i + 1, v, h, e => by
    obtain ⟨u, r, rfl, _, h2⟩ := h
    obtain ⟨d, e1, h3⟩ := Reps.getV (i := i) (v := v) h2 (by simpa using e)
    exact ⟨d, by simpa using e1, h3⟩
theorem Reps.append : ∀ {ds es : List D} {vs us : List V}, Reps K W ds vs → Reps K W es us → Reps K W (ds ++ es) (vs ++ us)
  | [], _, _, _, h, h' => by
    have e : _ = [] := h
    rw [e]
    exact h'
  | _ :: _, _, _, _, h, h' => by
    obtain ⟨v, r, rfl, h1, h2⟩ := h
    exact ⟨v, _, rfl, h1, Reps.append h2 h'⟩
theorem Reps.one {d : D} {v : V} (h : Rep K W d v) : Reps K W [d] [v] := ⟨v, [], rfl, h, rfl⟩
theorem Reps.nil : Reps K W [] [] := rfl
theorem Reps.cons {d : D} {v : V} {ds : List D} {vs : List V} (h : Rep K W d v) (h' : Reps K W ds vs) : Reps K W (d :: ds) (v :: vs) := ⟨v, vs, rfl, h, h'⟩
theorem Reps.set : ∀ {ds : List D} {vs : List V} {d : D} {v : V} (i : Nat), Reps K W ds vs → Rep K W d v → Reps K W (ds.set i d) (vs.set i v)
  | [], _, _, _, _, h, _ => by
    have e : _ = [] := h
    rw [e]
    exact rfl
  | _ :: _, _, _, _, 0, h, h' => by
    obtain ⟨v, r, rfl, _, h2⟩ := h
    exact ⟨_, r, rfl, h', h2⟩
  | _ :: _, _, _, _, i + 1, h, h' => by
    obtain ⟨v, r, rfl, h1, h2⟩ := h
    exact ⟨v, _, rfl, h1, Reps.set i h2 h'⟩
theorem Reps.take : ∀ {ds : List D} {vs : List V} (n : Nat), Reps K W ds vs → Reps K W (ds.take n) (vs.take n)
  | [], _, n, h => by
    have e : _ = [] := h
    rw [e]
    simp only [List.take_nil]
    exact rfl
  | _ :: _, _, 0, h => rfl
  | _ :: _, _, n + 1, h => by
    obtain ⟨v, r, rfl, h1, h2⟩ := h
    exact ⟨v, _, rfl, h1, Reps.take n h2⟩
theorem Reps.drop : ∀ {ds : List D} {vs : List V} (n : Nat), Reps K W ds vs → Reps K W (ds.drop n) (vs.drop n)
  | [], _, n, h => by
    have e : _ = [] := h
    rw [e]
    simp only [List.drop_nil]
    exact rfl
  | _ :: _, _, 0, h => h
  | _ :: _, _, n + 1, h => by
    obtain ⟨v, r, rfl, h1, h2⟩ := h
    exact Reps.drop n h2
theorem Reps.eraseIdx : ∀ {ds : List D} {vs : List V} (i : Nat), Reps K W ds vs → Reps K W (ds.eraseIdx i) (vs.eraseIdx i)
  | [], _, _, h => by
    have e : _ = [] := h
    rw [e]
    exact rfl
  | _ :: _, _, 0, h => by
    obtain ⟨v, r, rfl, _, h2⟩ := h
    exact h2
  | _ :: _, _, i + 1, h => by
    obtain ⟨v, r, rfl, h1, h2⟩ := h
    exact ⟨v, _, rfl, h1, Reps.eraseIdx i h2⟩
theorem Reps.reverse : ∀ {ds : List D} {vs : List V}, Reps K W ds vs → Reps K W ds.reverse vs.reverse
  | [], _, h => by
    have e : _ = [] := h
    rw [e]
    exact rfl
  | _ :: _, _, h => by
    obtain ⟨v, r, rfl, h1, h2⟩ := h
    rw [List.reverse_cons, List.reverse_cons]
    exact Reps.append (Reps.reverse h2) (Reps.one h1)
end

/-- the slots' values -/
def SlR (K : PySem.W.Frag) (W : Wd) : Sl → L2.St → Prop
  | [], σ => σ = []
  | none :: s, σ => ∃ o r, σ = o :: r ∧ SlR K W s r
  | some d :: s, σ => ∃ v r, σ = some v :: r ∧ Rep K W d v ∧ SlR K W s r
section
variable {K : PySem.W.Frag} {W W' : Wd}
theorem SlR.le (l : Le W W') : ∀ {s : Sl} {σ : L2.St}, SlR K W s σ → SlR K W' s σ
  | [], _, h => h
  | none :: _, _, h => by
    obtain ⟨o, r, e, h2⟩ := h
    exact ⟨o, r, e, SlR.le l h2⟩
  | some _ :: _, _, h => by
    obtain ⟨v, r, e, h1, h2⟩ := h
    exact ⟨v, r, e, h1.le l, SlR.le l h2⟩
theorem SlR.get : ∀ {s : Sl} {σ : L2.St} {i : Nat} {d : D}, SlR K W s σ → s[i]? = some (some d) → ∃ v, σ[i]? = some (some v) ∧ Rep K W d v
  | [], _, _, _, _, e => by simp at e
  | none :: _, _, 0, _, _, e => by simp at e
  | none :: _, _, i + 1, d, h, e => by
    obtain ⟨o, r, rfl, h2⟩ := h
    obtain ⟨v, e1, h3⟩ := SlR.get (i := i) (d := d) h2 (by simpa using e)
    exact ⟨v, by simpa using e1, h3⟩
  | some _ :: _, _, 0, d, h, e => by
    obtain ⟨v, r, rfl, h1, _⟩ := h
    simp at e
    subst e
    exact ⟨v, rfl, h1⟩
  | some _ :: _, _, i + 1, d, h, e => by
    obtain ⟨v, r, rfl, _, h2⟩ := h
    obtain ⟨v, e1, h3⟩ := SlR.get (i := i) (d := d) h2 (by simpa using e)
    exact ⟨v, by simpa using e1, h3⟩
theorem SlR.set : ∀ {s : Sl} {σ : L2.St} {d : D} {v : V} (i : Nat), SlR K W s σ → Rep K W d v → SlR K W (s.set i (some d)) (σ.set i (some v))
  | [], _, _, _, _, h, _ => by
    have e : _ = [] := h
    rw [e]
    exact rfl
  | none :: _, _, _, _, 0, h, h' => by
    obtain ⟨o, r, rfl, h2⟩ := h
    exact ⟨_, r, rfl, h', h2⟩
  | some _ :: _, _, _, _, 0, h, h' => by
    obtain ⟨o, r, rfl, _, h2⟩ := h
    exact ⟨_, r, rfl, h', h2⟩
  | none :: _, _, _, _, i + 1, h, h' => by
    obtain ⟨o, r, rfl, h2⟩ := h
    exact ⟨o, _, rfl, SlR.set i h2 h'⟩
  | some _ :: _, _, _, _, i + 1, h, h' => by
    obtain ⟨v, r, rfl, h1, h2⟩ := h
    exact ⟨v, _, rfl, h1, SlR.set i h2 h'⟩
theorem SlR.unset : ∀ {s : Sl} {σ : L2.St} {o : Option V} (i : Nat), SlR K W s σ → SlR K W (s.set i none) (σ.set i o)
  | [], _, _, _, h => by
    have e : _ = [] := h
    rw [e]
    exact rfl
  | none :: _, _, o, 0, h => by
    obtain ⟨_, r, rfl, h2⟩ := h
    exact ⟨_, r, rfl, h2⟩
  | some _ :: _, _, o, 0, h => by
    obtain ⟨_, r, rfl, _, h2⟩ := h
    exact ⟨_, r, rfl, h2⟩
  | none :: _, _, _, i + 1, h => by
    obtain ⟨o, r, rfl, h2⟩ := h
    exact ⟨o, _, rfl, SlR.unset i h2⟩
  | some _ :: _, _, _, i + 1, h => by
    obtain ⟨v, r, rfl, h1, h2⟩ := h
    exact ⟨v, _, rfl, h1, SlR.unset i h2⟩
theorem SlR.of : ∀ {ds : List D} {vs : List V} {n : Nat}, Reps K W ds vs → SlR K W (ds.map some ++ List.replicate n none) (vs.map some ++ List.replicate n none)
  | [], _, n, h => by
    have e : _ = [] := h
    rw [e]
    show SlR K W (List.replicate n none) (List.replicate n none)
    induction n with
    | zero => exact rfl
    | succ n ih => exact ⟨none, _, rfl, ih⟩
  | _ :: _, _, n, h => by
    obtain ⟨v, r, rfl, h1, h2⟩ := h
    exact ⟨v, _, rfl, h1, SlR.of h2⟩
end
def wipeD (s : Sl) : List Nat → Sl
  | [] => s
  | i :: is => wipeD (s.set i none) is

def clA (mg : Str → Option Value) (x : Str) : Addr := match mg x with
  | some (.ref a) => a
  | _ => 0
theorem clA_of {mg : Str → Option Value} {x : Str} {a : Addr} (h : mg x = some (.ref a)) : clA mg x = a := by
  unfold clA
  rw [h]

/-- a thing that changes, as it lies there -/
def ObR (K : PySem.W.Frag) (mg : Str → Option Value) (W : Wd) : AO → Option HO → Prop
  | .lst ds, h => ∃ xs, h = some (.lst xs) ∧ Reps K W ds xs
  | .dct kvs, h => ∃ vs, h = some (.dK vs) ∧ vs.map (·.1) = kvs.map (·.1) ∧ Reps K W (kvs.map (·.2)) (vs.map (·.2))
  | .ins c fs, h => ∃ dx vs, h = some (.ins (clA mg c) dx vs) ∧ vs.map (·.1) = fs.map (·.1) ∧ Reps K W (fs.map (·.2)) (vs.map (·.2))
theorem ObR.le {K : PySem.W.Frag} {mg : Str → Option Value} {W W' : Wd} (l : Le W W') : ∀ {o : AO} {h : Option HO}, ObR K mg W o h → ObR K mg W' o h
  | .lst _, _, z => by
    obtain ⟨xs, e, r⟩ := z
    exact ⟨xs, e, r.le l⟩
  | .dct _, _, z => by
    obtain ⟨xs, e, k, r⟩ := z
    exact ⟨xs, e, k, r.le l⟩
  | .ins _ _, _, z => by
    obtain ⟨dx, xs, e, k, r⟩ := z
    exact ⟨dx, xs, e, k, r.le l⟩
theorem ObR.there {K : PySem.W.Frag} {mg : Str → Option Value} {W : Wd} : ∀ {o : AO} {h : Option HO}, ObR K mg W o h → h ≠ none
  | .lst _, _, z => by
    obtain ⟨xs, e, r⟩ := z
    rw [e]
    exact fun q => nomatch q
  | .dct _, _, z => by
    obtain ⟨xs, e, k, r⟩ := z
    rw [e]
    exact fun q => nomatch q
  | .ins _ _, _, z => by
    obtain ⟨dx, xs, e, k, r⟩ := z
    rw [e]
    exact fun q => nomatch q

structure Ok (K : PySem.W.Frag) (mg : Str → Option Value) (W : Wd) (A : AH) (H : Hp) : Prop where
  frz : ∀ a o, W.F a = some o → H a = some o
  sep : ∀ a, a ∈ W.m → W.F a = none
  nd : W.m.Nodup
  len : W.m.length = A.length
  obj : ∀ (n : Nat) (a : Addr) (o : AO), W.m[n]? = some a → A[n]? = some o → ObR K mg W o (H a)

/-- from (W, H) on, to (W', H') -/
structure Ext (W : Wd) (H : Hp) (W' : Wd) (H' : Hp) : Prop where
  le : Le W W'
  out : ∀ a o, H a = some o → a ∉ W.m → H' a = some o
  dom : ∀ a, H' a = none → H a = none
  fF : ∀ a o, W'.F a = some o → W.F a = none → H a = none
  fm : ∀ a, a ∈ W'.m → a ∉ W.m → H a = none
theorem Ext.refl (W : Wd) (H : Hp) : Ext W H W H := ⟨Le.refl W, fun _ _ h _ => h, fun _ h => h, fun _ _ h h' => (by rw [h'] at h; cases h), fun _ h h' => absurd h h'⟩
theorem Ext.trans {W W1 W2 : Wd} {H H1 H2 : Hp} (a : Ext W H W1 H1) (b : Ext W1 H1 W2 H2) : Ext W H W2 H2 where
  le := a.le.trans b.le
  out := fun x o h n => b.out x o (a.out x o h n) fun q => by
    have z := a.fm x q n
    rw [h] at z
    cases z
  dom := fun x h => a.dom x (b.dom x h)
  fF := fun x o h n => by
    cases e : W1.F x with
    | none => exact a.dom x (b.fF x o h e)
    | some u => exact a.fF x u e n
  fm := fun x h n => by
    by_cases q : x ∈ W1.m
    · exact a.fm x q n
    · exact a.dom x (b.fm x h q)

section
variable {K : PySem.W.Frag} {mg : Str → Option Value} {W : Wd} {A : AH} {H : Hp}
theorem Ok.at (k : Ok K mg W A H) {n : Nat} {a : Addr} (h : W.m[n]? = some a) : ∃ o, A[n]? = some o ∧ ObR K mg W o (H a) := by
  have hl := (List.getElem?_eq_some_iff.mp h).1
  rw [k.len] at hl
  exact ⟨A[n], by simp [hl], k.obj n a _ h (by simp [hl])⟩
theorem Ok.notm (k : Ok K mg W A H) {p : Addr} (h : H p = none) : p ∉ W.m := fun q => by
  obtain ⟨n, e⟩ := List.getElem?_of_mem q
  obtain ⟨o, _, z⟩ := k.at e
  exact z.there h
theorem Ok.notF (k : Ok K mg W A H) {p : Addr} (h : H p = none) : W.F p = none := by
  cases e : W.F p with
  | none => rfl
  | some o =>
    rw [k.frz p o e] at h
    cases h
/-- a new thing that lies still -/
theorem Ok.frozen (k : Ok K mg W A H) {p : Addr} (h : H p = none) (o : HO) : Ok K mg ⟨upd W.F p o, W.m⟩ A (upd H p o) ∧ Ext W H ⟨upd W.F p o, W.m⟩ (upd H p o) := by
  have nm := k.notm h
  have nF := k.notF h
  have l : Le W ⟨upd W.F p o, W.m⟩ := ⟨fun a u e => by
    have n : a ≠ p := fun q => by
      rw [q, nF] at e
      cases e
    show upd W.F p o a = some u
    rw [upd_ne n]
    exact e, [], (List.append_nil _).symm⟩
  refine ⟨⟨fun a u e => ?_, fun a ha => ?_, k.nd, k.len, fun n a u e1 e2 => ?_⟩, ⟨l, fun a u e _ => ?_, fun a e => ?_, fun a u e n => ?_, fun a h1 h2 => absurd h1 h2⟩⟩
  · have e' : upd W.F p o a = some u := e
    by_cases q : a = p
    · subst q
      rw [upd_same] at e'
      rw [upd_same]
      exact e'
    · rw [upd_ne q] at e'
      rw [upd_ne q]
      exact k.frz a u e'
  · have n : a ≠ p := fun q => nm (q ▸ ha)
    show upd W.F p o a = none
    rw [upd_ne n]
    exact k.sep a ha
  · have n' : a ≠ p := fun q => nm (q ▸ List.mem_of_getElem? e1)
    rw [upd_ne n']
    exact (k.obj n a u e1 e2).le l
  · have n : a ≠ p := fun q => by
      rw [q, h] at e
      cases e
    rw [upd_ne n]
    exact e
  · by_cases q : a = p
    · rw [q]
      exact h
    · rw [upd_ne q] at e
      exact e
  · by_cases q : a = p
    · rw [q]
      exact h
    · have e' : upd W.F p o a = some u := e
      rw [upd_ne q, n] at e'
      cases e'
/-- a cell beside, that nobody tells of -/
theorem Ok.aside (k : Ok K mg W A H) {p : Addr} (h : H p = none) (o : HO) : Ok K mg W A (upd H p o) ∧ Ext W H W (upd H p o) := by
  have nm := k.notm h
  have nF := k.notF h
  refine ⟨⟨fun a u e => ?_, k.sep, k.nd, k.len, fun n a u e1 e2 => ?_⟩, ⟨Le.refl W, fun a u e _ => ?_, fun a e => ?_, fun a u e n => ?_, fun a h1 h2 => absurd h1 h2⟩⟩
  · have n : a ≠ p := fun q => by
      rw [q, nF] at e
      cases e
    rw [upd_ne n]
    exact k.frz a u e
  · have n' : a ≠ p := fun q => nm (q ▸ List.mem_of_getElem? e1)
    rw [upd_ne n']
    exact k.obj n a u e1 e2
  · have n : a ≠ p := fun q => by
      rw [q, h] at e
      cases e
    rw [upd_ne n]
    exact e
  · by_cases q : a = p
    · rw [q]
      exact h
    · rw [upd_ne q] at e
      exact e
  · rw [n] at e
    cases e
/-- a cell beside is written -/
theorem Ok.asideW (k : Ok K mg W A H) {p : Addr} {u : HO} (nm : p ∉ W.m) (nF : W.F p = none) (h : H p = some u) (o : HO) : Ok K mg W A (upd H p o) := by
  refine ⟨fun a u e => ?_, k.sep, k.nd, k.len, fun n a u e1 e2 => ?_⟩
  · have n : a ≠ p := fun q => by
      rw [q, nF] at e
      cases e
    rw [upd_ne n]
    exact k.frz a u e
  · have n' : a ≠ p := fun q => nm (q ▸ List.mem_of_getElem? e1)
    rw [upd_ne n']
    exact k.obj n a u e1 e2
/-- a new thing that changes; ob tells of it in the world behind -/
theorem Ok.fresh (k : Ok K mg W A H) {p : Addr} (h : H p = none) {o : HO} {u : AO} (ob : ObR K mg ⟨W.F, W.m ++ [p]⟩ u (some o)) :
    Ok K mg ⟨W.F, W.m ++ [p]⟩ (A ++ [u]) (upd H p o) ∧ Ext W H ⟨W.F, W.m ++ [p]⟩ (upd H p o) := by
  have nm := k.notm h
  have nF := k.notF h
  have l : Le W ⟨W.F, W.m ++ [p]⟩ := ⟨fun _ _ e => e, [p], rfl⟩
  refine ⟨⟨fun a u e => ?_, fun a ha => ?_, ?_, ?_, fun n a u' e1 e2 => ?_⟩, ⟨l, fun a u e _ => ?_, fun a e => ?_, fun a u e n => ?_, fun a h1 h2 => ?_⟩⟩
  · have n : a ≠ p := fun q => by
      have e' : W.F a = some u := e
      rw [q, nF] at e'
      cases e'
    rw [upd_ne n]
    exact k.frz a u e
  · rcases List.mem_append.mp ha with q | q
    · exact k.sep a q
    · rw [List.mem_singleton.mp q]
      exact nF
  · refine List.nodup_append.mpr ⟨k.nd, by simp, fun a ha b hb => ?_⟩
    rw [List.mem_singleton.mp hb]
    exact fun q => nm (q ▸ ha)
  · show (W.m ++ [p]).length = (A ++ [u]).length
    rw [List.length_append, List.length_append, k.len]
    rfl
  · have e1' : (W.m ++ [p])[n]? = some a := e1
    by_cases q : n < W.m.length
    · rw [List.getElem?_append_left q] at e1'
      rw [List.getElem?_append_left (by rw [← k.len]; exact q)] at e2
      have n' : a ≠ p := fun z => nm (z ▸ List.mem_of_getElem? e1')
      rw [upd_ne n']
      exact (k.obj n a u' e1' e2).le l
    · have hn := (List.getElem?_eq_some_iff.mp e1').1
      have en : n = W.m.length := by
        rw [List.length_append] at hn
        simp at hn
        omega
      subst en
      rw [List.getElem?_append_right (Nat.le_refl _)] at e1'
      rw [List.getElem?_append_right (by rw [k.len]; exact Nat.le_refl _)] at e2
      rw [k.len] at e2
      simp at e1' e2
      subst e1' e2
      rw [upd_same]
      exact ob
  · have n : a ≠ p := fun q => by
      rw [q, h] at e
      cases e
    rw [upd_ne n]
    exact e
  · by_cases q : a = p
    · rw [q]
      exact h
    · rw [upd_ne q] at e
      exact e
  · have e' : W.F a = some u := e
    rw [n] at e'
    cases e'
  · rcases List.mem_append.mp h1 with q | q
    · exact absurd q h2
    · rw [List.mem_singleton.mp q]
      exact h
/-- a thing changes -/
theorem Ok.write (k : Ok K mg W A H) {n : Nat} {a : Addr} (ha : W.m[n]? = some a) {o : HO} {u : AO} (ob : ObR K mg W u (some o)) :
    Ok K mg W (A.set n u) (upd H a o) ∧ Ext W H W (upd H a o) := by
  have nF := k.sep a (List.mem_of_getElem? ha)
  obtain ⟨u0, hu0, ob0⟩ := k.at ha
  have hn : n < A.length := (List.getElem?_eq_some_iff.mp hu0).1
  refine ⟨⟨fun b v e => ?_, k.sep, k.nd, ?_, fun j b v e1 e2 => ?_⟩, ⟨Le.refl W, fun b v e nb => ?_, fun b e => ?_, fun b v e z => ?_, fun b h1 h2 => absurd h1 h2⟩⟩
  · have z : b ≠ a := fun q => by
      rw [q, nF] at e
      cases e
    rw [upd_ne z]
    exact k.frz b v e
  · rw [List.length_set]
    exact k.len
  · by_cases q : j = n
    · subst q
      rw [ha] at e1
      cases e1
      rw [List.getElem?_set_self hn] at e2
      cases e2
      rw [upd_same]
      exact ob
    · rw [List.getElem?_set_ne (fun z => q z.symm)] at e2
      have z : b ≠ a := fun z => by
        subst z
        have h1 := (List.getElem?_eq_some_iff.mp e1).1
        have h2 := (List.getElem?_eq_some_iff.mp ha).1
        rcases Nat.lt_or_gt_of_ne q with z | z
        · exact List.pairwise_iff_getElem.mp k.nd j n h1 h2 z ((List.getElem?_eq_some_iff.mp e1).2.trans (List.getElem?_eq_some_iff.mp ha).2.symm)
        · exact List.pairwise_iff_getElem.mp k.nd n j h2 h1 z ((List.getElem?_eq_some_iff.mp ha).2.trans (List.getElem?_eq_some_iff.mp e1).2.symm)
      rw [upd_ne z]
      exact k.obj j b v e1 e2
  · have z : b ≠ a := fun q => nb (q ▸ List.mem_of_getElem? ha)
    rw [upd_ne z]
    exact e
  · by_cases q : b = a
    · rw [q, upd_same] at e
      cases e
    · rw [upd_ne q] at e
      exact e
  · rw [z] at e
    cases e
theorem Ok.lookL (k : Ok K mg W A H) {n : Nat} {a : Addr} {ds : List D} (ha : W.m[n]? = some a) (e : A[n]? = some (.lst ds)) : ∃ xs, H a = some (.lst xs) ∧ Reps K W ds xs := k.obj n a _ ha e
theorem Ok.sqT (k : Ok K mg W A H) {a : Addr} {xs : List V} (h : SqT K W.F a xs) : SqT K H a xs := by
  rcases h with (h | ⟨o, h⟩) | h
  · exact .inl (.inl (k.frz _ _ h))
  · exact .inl (.inr ⟨o, k.frz _ _ h⟩)
  · exact .inr h
theorem Ok.sqL (k : Ok K mg W A H) {a : Addr} {xs : List V} (h : SqL K W.F a xs) : SqL K H a xs := by
  rcases h with (h | ⟨o, h⟩) | h
  · exact .inl (.inl (k.frz _ _ h))
  · exact .inl (.inr ⟨o, k.frz _ _ h⟩)
  · exact .inr h
end
end Tg

set_option Elab.async false
set_option linter.all false
set_option maxRecDepth 100000
/-! TgPost: what is wanted behind an expression, a test, arguments, a statement; how readings meet it. -/
namespace Tg
open PySem L2

/-- an exception as it lies behind -/
def XRep (K : PySem.W.Frag) (mg : Str → Option Value) (W : Wd) (x : XV) (c : Value) (d : Option Addr) (H : Hp) : Prop :=
  c = .ref (clA mg x.c) ∧ match x.fs with
    | none => d = none
    | some fs => ∃ dd vs, d = some dd ∧ H dd = some (.xd vs) ∧ vs.map (·.1) = fs.map (·.1) ∧ Reps K W (fs.map (·.2)) (vs.map (·.2)) ∧ W.F dd = none ∧ dd ∉ W.m

def Post {α β : Type} (K : PySem.W.Frag) (mg : Str → Option Value) (rel : Wd → α → β → Prop) (W : Wd) (H : Hp) (E : XK) (Q : β → Hp → Prop) : R α → Prop
  | .ok a A' => ∀ W' H' b, Ext W H W' H' → Ok K mg W' A' H' → rel W' a b → Q b H'
  | .exc x A' => ∀ W' H' c d, Ext W H W' H' → Ok K mg W' A' H' → XRep K mg W' x c d H' → E c d H'
  | .bad => False
section
variable {α β γ δ : Type} {K : PySem.W.Frag} {mg : Str → Option Value} {rel : Wd → α → β → Prop} {rel2 : Wd → γ → δ → Prop} {W W1 : Wd} {H H1 : Hp} {E : XK} {Q Q' : β → Hp → Prop} {A : AH}
theorem Post.ext {r : R α} (e : Ext W H W1 H1) (h : Post K mg rel W H E Q r) : Post K mg rel W1 H1 E Q r := by
  cases r with
  | ok a A' => exact fun W' H' b x k z => h W' H' b (e.trans x) k z
  | exc x A' => exact fun W' H' c d y k z => h W' H' c d (e.trans y) k z
  | bad => exact h
theorem Post.mono {r : R α} (h : Post K mg rel W H E Q r) (f : ∀ b H', Q b H' → Q' b H') : Post K mg rel W H E Q' r := by
  cases r with
  | ok a A' => exact fun W' H' b x k z => f _ _ (h W' H' b x k z)
  | exc x A' => exact h
  | bad => exact h
theorem Post.bind {r : R α} {f : α → AH → R γ} {Q2 : δ → Hp → Prop} (h : Post K mg rel2 W H E Q2 (r.bind f))
    (g : ∀ a A1 b W1 H1, Ext W H W1 H1 → Ok K mg W1 A1 H1 → rel W1 a b → Post K mg rel2 W1 H1 E Q2 (f a A1) → Q b H1) : Post K mg rel W H E Q r := by
  cases r with
  | ok a A' => exact fun W' H' b x k z => g a A' b W' H' x k z (Post.ext x h)
  | exc x A' => exact h
  | bad => exact h
/-- as bind, told at what stood ahead -/
theorem Post.bind0 {r : R α} {f : α → AH → R γ} {Q2 : δ → Hp → Prop} (h : Post K mg rel2 W H E Q2 (r.bind f)) (e0 : Ext W H W1 H1)
    (g : ∀ a A1 b W2 H2, Ext W1 H1 W2 H2 → Ok K mg W2 A1 H2 → rel W2 a b → Post K mg rel2 W H E Q2 (f a A1) → Q b H2) : Post K mg rel W1 H1 E Q r := by
  cases r with
  | ok a A' => exact fun W' H' b x k z => g a A' b W' H' x k z h
  | exc x A' => exact fun W' H' c d y k z => h W' H' c d (e0.trans y) k z
  | bad => exact h
theorem Post.ok_at {a : α} {b : β} (h : Post K mg rel W H E Q (.ok a A)) (k : Ok K mg W A H) (z : rel W a b) : Q b H := h W H b (Ext.refl W H) k z
theorem Post.ok_to {a : α} {b : β} (h : Post K mg rel W H E Q (.ok a A)) (e : Ext W H W1 H1) (k : Ok K mg W1 A H1) (z : rel W1 a b) : Q b H1 := h W1 H1 b e k z
end

abbrev ME := Sl → AH → R D
abbrev MT := Sl → AH → R Bool
abbrev MA := Sl → AH → R (List D)
abbrev relB : Wd → Bool → Bool → Prop := fun _ a b => b = a
abbrev relO : Wd → Option Int → Option Int → Prop := fun _ a b => b = a

def SimE (K : PySem.W.Frag) (mg : Str → Option Value) (Wx : WX) (t : TE) (m : ME) : Prop :=
  ∀ (W : Wd) (σ : L2.St) (s : Sl) (A : AH) (H : Hp) (Q : VK), Ok K mg W A H → SlR K W s σ → Post K mg (Rep K) W H (fun c d H' => Wx c d σ H') Q (m s A) → t σ H Q
def SimT (K : PySem.W.Frag) (mg : Str → Option Value) (Wx : WX) (t : TT) (m : MT) : Prop :=
  ∀ (W : Wd) (σ : L2.St) (s : Sl) (A : AH) (H : Hp) (Q : Bool → Hp → Prop), Ok K mg W A H → SlR K W s σ → Post K mg relB W H (fun c d H' => Wx c d σ H') Q (m s A) → t σ H Q
def SimA (K : PySem.W.Frag) (mg : Str → Option Value) (Wx : WX) (t : TA) (m : MA) : Prop :=
  ∀ (W : Wd) (σ : L2.St) (s : Sl) (A : AH) (H : Hp) (Q : List V → Hp → Prop), Ok K mg W A H → SlR K W s σ → Post K mg (Reps K) W H (fun c d H' => Wx c d σ H') Q (m s A) → t σ H Q
def SimO (K : PySem.W.Frag) (mg : Str → Option Value) (Wx : WX) (t : TO) (m : Sl → AH → R (Option Int)) : Prop :=
  ∀ (W : Wd) (σ : L2.St) (s : Sl) (A : AH) (H : Hp) (Q : Option Int → Hp → Prop), Ok K mg W A H → SlR K W s σ → Post K mg relO W H (fun c d H' => Wx c d σ H') Q (m s A) → t σ H Q

structure SE (X : Cx) (Wx : WX) (e : Expr) (t : TE) (m : ME) : Prop where
  pe : PE X e t
  sim : SimE X.K X.mg Wx t m
structure ST (X : Cx) (Wx : WX) (e : Expr) (t : TT) (m : MT) : Prop where
  pt : PT X e t
  sim : SimT X.K X.mg Wx t m
structure SW (X : Cx) (Wx : WX) (e : Expr) (t : TT) (m : MT) : Prop where
  pw : PW X e t
  sim : SimT X.K X.mg Wx t m
structure SA (X : Cx) (Wx : WX) (es : List Expr) (t : TA) (m : MA) : Prop where
  pa : PA X es t
  sim : SimA X.K X.mg Wx t m
structure SO (X : Cx) (Wx : WX) (e : Option Expr) (t : TO) (m : Sl → AH → R (Option Int)) : Prop where
  po : PO X e t
  sim : SimO X.K X.mg Wx t m

/-! ### values by themselves -/
/-- an operation on two values, on one, on many -/
def OpS (K : PySem.W.Frag) (mg : Str → Option Value) (r : R2) (f : D → D → AH → R D) : Prop :=
  ∀ (W : Wd) (A : AH) (H : Hp) (E : XK) (Q : VK) (d e : D) (x y : V), Ok K mg W A H → Rep K W d x → Rep K W e y → Post K mg (Rep K) W H E Q (f d e A) → r x y H Q
def UnS (K : PySem.W.Frag) (mg : Str → Option Value) (r : V → Hp → VK → Prop) (f : D → AH → R D) : Prop :=
  ∀ (W : Wd) (A : AH) (H : Hp) (E : XK) (Q : VK) (d : D) (x : V), Ok K mg W A H → Rep K W d x → Post K mg (Rep K) W H E Q (f d A) → r x H Q
def CallS (K : PySem.W.Frag) (mg : Str → Option Value) (r : List V → Hp → VK → Prop) (f : List D → AH → R D) : Prop :=
  ∀ (W : Wd) (A : AH) (H : Hp) (E : XK) (Q : VK) (ds : List D) (xs : List V), Ok K mg W A H → Reps K W ds xs → Post K mg (Rep K) W H E Q (f ds A) → r xs H Q

def mv (i : Nat) : ME := fun s A => match s[i]? with
  | some (some d) => .ok d A
  | _ => .bad
def mc (d : D) : ME := fun _ A => .ok d A
def mBin (f : D → D → AH → R D) (a b : ME) : ME := fun s A => (a s A).bind fun x A1 => (b s A1).bind fun y A2 => f x y A2
def mUn (f : D → AH → R D) (a : ME) : ME := fun s A => (a s A).bind fun x A1 => f x A1
def mNil : MA := fun _ A => .ok [] A
def mCons (a : ME) (r : MA) : MA := fun s A => (a s A).bind fun x A1 => (r s A1).bind fun xs A2 => .ok (x :: xs) A2
def toB : D → AH → R Bool
  | .bl b, A => .ok b A
  | _, _ => .bad
def mTb (m : ME) : MT := fun s A => (m s A).bind toB
def mBl (m : MT) : ME := fun s A => (m s A).bind fun b A1 => .ok (.bl b) A1
def mIf (c : MT) (a b : ME) : ME := fun s A => (c s A).bind fun k A1 => if k then a s A1 else b s A1
def mAnd (a b : MT) : MT := fun s A => (a s A).bind fun k A1 => if k then b s A1 else .ok false A1
def mOr (a b : MT) : MT := fun s A => (a s A).bind fun k A1 => if k then .ok true A1 else b s A1
def mNot (a : MT) : MT := fun s A => (a s A).bind fun k A1 => .ok (!k) A1

section
variable {X : Cx} {Wx : WX} {a b c e : Expr} {es : List Expr} {ta tb tc te : TE} {ma mb me : ME} {pos : Pos}
theorem sv (i : Nat) {x : Str} (hN : X.N[i]? = some x := by rfl) (hv : Vis X.env.scope x := by first | exact Or.inl rfl | exact Or.inr (Or.inl rfl) | exact Or.inr (Or.inr rfl)) (hd : (x == ("__debug__" : Str)) = false := by decide)
    (hcd : (x == ("__classdict__" : Str)) = false := by decide) : SE X Wx (.Name x pos) (tVar i) (mv i) := by
  refine ⟨pe_var hN hv hd hcd, fun W σ s A H Q k sr h => ?_⟩
  unfold mv at h
  split at h
  · rename_i d e
    obtain ⟨v, e1, r⟩ := sr.get e
    exact ⟨v, e1, h.ok_at k r⟩
  · exact h.elim
theorem sc {v : V} {d : D} (hp : PE X e (tC v)) (r : ∀ W, Rep X.K W d v) : SE X Wx e (tC v) (mc d) :=
  ⟨hp, fun W σ s A H Q k sr h => h.ok_at k (r W)⟩
theorem sint {i : Int} {j : Nat} : SE X Wx (.Constant (.int i) j pos) (tC (.int i)) (mc (.int i)) := sc pe_int fun _ => rfl
theorem sbl {x : Bool} {j : Nat} : SE X Wx (.Constant (.bool x) j pos) (tC (.bl x)) (mc (.bl x)) := sc pe_bl fun _ => rfl
theorem snon {j : Nat} : SE X Wx (.Constant .none j pos) (tC .non) (mc .non) := sc pe_non fun _ => rfl
theorem sstr {x : Str} {j : Nat} : SE X Wx (.Constant (.str x) j pos) (tC (.str x)) (mc (.str x)) := sc pe_str fun _ => rfl

theorem sim_bin {r : R2} {f : D → D → AH → R D} {K : PySem.W.Frag} {mg : Str → Option Value} (hs : OpS K mg r f) (ha : SimE K mg Wx ta ma) (hb : SimE K mg Wx tb mb) : SimE K mg Wx (tOp r ta tb) (mBin f ma mb) :=
  fun W σ s A H Q k sr h => ha W σ s A H _ k sr (h.bind fun x A1 v W1 H1 e1 k1 r1 h1 =>
    hb W1 σ s A1 H1 _ k1 (sr.le e1.le) (h1.bind fun y A2 u W2 H2 e2 k2 r2 h2 => hs W2 A2 H2 _ Q x y v u k2 (r1.le e2.le) r2 h2))
theorem sop {op : Operator} {r : R2} {f : D → D → AH → R D} (ho : OpR X (binaryOp op) r) (hs : OpS X.K X.mg r f) (ha : SE X Wx a ta ma) (hb : SE X Wx b tb mb) : SE X Wx (.BinOp a op b pos) (tOp r ta tb) (mBin f ma mb) :=
  ⟨pe_op ho ha.pe hb.pe, sim_bin hs ha.sim hb.sim⟩
theorem scmp {op : CmpOp} {r : R2} {f : D → D → AH → R D} (ho : OpR X (compareOp op) r) (hs : OpS X.K X.mg r f) (ha : SE X Wx a ta ma) (hb : SE X Wx b tb mb) (hm : behindInMarks op b = false) : SE X Wx (.Compare a [op] [b] pos) (tOp r ta tb) (mBin f ma mb) :=
  ⟨pe_cmpR ho ha.pe hb.pe hm, sim_bin hs ha.sim hb.sim⟩
theorem sun {op : UnaryOp} {r : V → Hp → VK → Prop} {f : D → AH → R D} (ho : UnR X (unaryOp op) r) (hs : UnS X.K X.mg r f) (ha : SE X Wx a ta ma) : SE X Wx (.UnaryOp op a pos) (tUn r ta) (mUn f ma) :=
  ⟨pe_un ho ha.pe, fun W σ s A H Q k sr h => ha.sim W σ s A H _ k sr (h.bind fun x A1 v W1 H1 e1 k1 r1 h1 => hs W1 A1 H1 _ Q x v k1 r1 h1)⟩

theorem sim_test (ha : SimE X.K X.mg Wx ta ma) : SimT X.K X.mg Wx (tTest ta) (mTb ma) := fun W σ s A H Q k sr h =>
  ha W σ s A H _ k sr (h.bind fun x A1 v W1 H1 e1 k1 r1 h1 => by
    cases x with
    | bl y => exact ⟨y, r1, h1.ok_at k1 rfl⟩
    | _ => exact h1.elim)
theorem tcmp {op : CmpOp} {r : R2} {f : D → D → AH → R D} (ho : OpR X (compareOp op) r) (hs : OpS X.K X.mg r f) (ha : SE X Wx a ta ma) (hb : SE X Wx b tb mb) (hm : behindInMarks op b = false) : ST X Wx (.Compare a [op] [b] pos) (tTest (tOp r ta tb)) (mTb (mBin f ma mb)) :=
  ⟨pt_cmpR ho ha.pe hb.pe hm, sim_test (sim_bin hs ha.sim hb.sim)⟩
/-- a value that is True or False, as a test -/
theorem tval (ha : SE X Wx a ta ma) (he : ∀ whole, isTrue a X.env whole = (do let v ← whole; standAt a.pos; holding [v] (truthy v)) := by intro _; rfl) : ST X Wx a (tB ta) (mTb ma) :=
  ⟨pt_val ha.pe he, fun W σ s A H Q k sr h => ha.sim W σ s A H _ k sr (h.bind fun x A1 v W1 H1 e1 k1 r1 h1 => by
    cases x with
    | bl y => exact ⟨y, r1, h1.ok_at k1 rfl⟩
    | _ => exact h1.elim)⟩
def mChain (f g : D → D → AH → R D) (a b c : ME) : ME := fun s A => (a s A).bind fun x A1 => (b s A1).bind fun y A2 => (f x y A2).bind fun z A3 => (toB z A3).bind fun k A4 =>
  if k then (c s A4).bind fun w A5 => g y w A5 else .ok (.bl false) A4
theorem sim_chain {r r' : R2} {f g : D → D → AH → R D} {K : PySem.W.Frag} {mg : Str → Option Value} {mc' : ME} (hs : OpS K mg r f) (hs' : OpS K mg r' g) (ha : SimE K mg Wx ta ma) (hb : SimE K mg Wx tb mb) (hc : SimE K mg Wx tc mc') :
    SimE K mg Wx (tChain r r' ta tb tc) (mChain f g ma mb mc') :=
  fun W σ s A H Q k sr h => ha W σ s A H _ k sr (h.bind fun x A1 v W1 H1 e1 k1 r1 h1 =>
    hb W1 σ s A1 H1 _ k1 (sr.le e1.le) (h1.bind fun y A2 u W2 H2 e2 k2 r2 h2 => hs W2 A2 H2 _ _ x y v u k2 (r1.le e2.le) r2 (h2.bind fun z A3 w W3 H3 e3 k3 r3 h3 => by
      cases z with
      | bl y' =>
        refine ⟨y', r3, ?_⟩
        have h3' : Post K mg (Rep K) W3 H3 (fun c d H' => Wx c d σ H') Q (if y' then (mc' s A3).bind fun w A5 => g y w A5 else .ok (.bl false) A3) := h3
        cases y' with
        | true =>
          rw [if_pos rfl]
          rw [if_pos rfl] at h3'
          exact hc W3 σ s A3 H3 _ k3 ((sr.le e1.le).le (e2.trans e3).le) (h3'.bind fun q A4 w' W4 H4 e4 k4 r4 h4 => hs' W4 A4 H4 _ Q y q u w' k4 (r2.le (e3.trans e4).le) r4 h4)
        | false =>
          rw [if_neg Bool.false_ne_true]
          rw [if_neg Bool.false_ne_true] at h3'
          exact h3'.ok_at k3 rfl
      | _ => exact h3.elim)))
theorem schain {op op' : CmpOp} {r r' : R2} {f g : D → D → AH → R D} {mc' : ME} (ho : OpR X (compareOp op) r) (ho' : OpR X (compareOp op') r') (hs : OpS X.K X.mg r f) (hs' : OpS X.K X.mg r' g) (ha : SE X Wx a ta ma) (hb : SE X Wx b tb mb) (hc : SE X Wx c tc mc') (hm : lastMarks [op, op'] [b, c] = false := by rfl) :
    SE X Wx (.Compare a [op, op'] [b, c] pos) (tChain r r' ta tb tc) (mChain f g ma mb mc') := ⟨pe_chain ho ho' ha.pe hb.pe hc.pe hm, sim_chain hs hs' ha.sim hb.sim hc.sim⟩
theorem tchain {op op' : CmpOp} {r r' : R2} {f g : D → D → AH → R D} {mc' : ME} (ho : OpR X (compareOp op) r) (ho' : OpR X (compareOp op') r') (hs : OpS X.K X.mg r f) (hs' : OpS X.K X.mg r' g) (ha : SE X Wx a ta ma) (hb : SE X Wx b tb mb) (hc : SE X Wx c tc mc') (hm : lastMarks [op, op'] [b, c] = false := by rfl) :
    ST X Wx (.Compare a [op, op'] [b, c] pos) (tTest (tChain r r' ta tb tc)) (mTb (mChain f g ma mb mc')) := ⟨pt_chain ho ho' ha.pe hb.pe hc.pe hm, sim_test (sim_chain hs hs' ha.sim hb.sim hc.sim)⟩

variable {t u : TT} {m n : MT}
theorem tnot (h : ST X Wx a t m) : ST X Wx (.UnaryOp .Not a pos) (tNot t) (mNot m) :=
  ⟨pt_not h.pt, fun W σ s A H Q k sr z => h.sim W σ s A H _ k sr (z.bind fun x A1 v W1 H1 e1 k1 r1 h1 => by
    cases r1
    exact h1.ok_at k1 rfl)⟩
theorem sim_and {K : PySem.W.Frag} {mg : Str → Option Value} (h : SimT K mg Wx t m) (h' : SimT K mg Wx u n) : SimT K mg Wx (tAnd t u) (mAnd m n) := fun W σ s A H Q k sr z => h W σ s A H _ k sr (z.bind fun x A1 v W1 H1 e1 k1 r1 h1 => by
  cases r1
  cases x with
  | true => exact h' W1 σ s A1 H1 _ k1 (sr.le e1.le) h1
  | false => exact h1.ok_at k1 rfl)
theorem sim_or {K : PySem.W.Frag} {mg : Str → Option Value} (h : SimT K mg Wx t m) (h' : SimT K mg Wx u n) : SimT K mg Wx (tOr t u) (mOr m n) := fun W σ s A H Q k sr z => h W σ s A H _ k sr (z.bind fun x A1 v W1 H1 e1 k1 r1 h1 => by
  cases r1
  cases x with
  | true => exact h1.ok_at k1 rfl
  | false => exact h' W1 σ s A1 H1 _ k1 (sr.le e1.le) h1)
theorem wand1 (h : ST X Wx a t m) : SW X Wx (.BoolOp .And [a] pos) t m := ⟨pw_and1 h.pt, h.sim⟩
theorem wor1 (h : ST X Wx a t m) : SW X Wx (.BoolOp .Or [a] pos) t m := ⟨pw_or1 h.pt, h.sim⟩
theorem wand (h : ST X Wx a t m) (h' : SW X Wx (.BoolOp .And (b :: es) pos) u n) : SW X Wx (.BoolOp .And (a :: b :: es) pos) (tAnd t u) (mAnd m n) := ⟨pw_and h.pt h'.pw, sim_and h.sim h'.sim⟩
theorem wor (h : ST X Wx a t m) (h' : SW X Wx (.BoolOp .Or (b :: es) pos) u n) : SW X Wx (.BoolOp .Or (a :: b :: es) pos) (tOr t u) (mOr m n) := ⟨pw_or h.pt h'.pw, sim_or h.sim h'.sim⟩
theorem twd (h : SW X Wx e t m) : ST X Wx e t m := ⟨h.pw.pt, h.sim⟩
/-- and, or, not as values: all but the last True or False -/
def mAndV (a b : ME) : ME := fun s A => (a s A).bind fun x A1 => (toB x A1).bind fun k A2 => if k then b s A2 else .ok (.bl false) A2
def mOrV (a b : ME) : ME := fun s A => (a s A).bind fun x A1 => (toB x A1).bind fun k A2 => if k then .ok (.bl true) A2 else b s A2
def mNotV (a : ME) : ME := fun s A => (a s A).bind fun x A1 => (toB x A1).bind fun k A2 => .ok (.bl (!k)) A2
theorem sone {op : BoolOp} (h : SE X Wx a ta ma) : SE X Wx (.BoolOp op [a] pos) ta ma := ⟨pe_one h.pe, h.sim⟩
theorem sand (h : SE X Wx a ta ma) (h' : SE X Wx (.BoolOp .And (b :: es) pos) tb mb) : SE X Wx (.BoolOp .And (a :: b :: es) pos) (tAndV ta tb) (mAndV ma mb) :=
  ⟨pe_and h.pe h'.pe, fun W σ s A H Q k sr z => h.sim W σ s A H _ k sr (z.bind fun x A1 v W1 H1 e1 k1 r1 h1 => by
    cases x with
    | bl y =>
      refine ⟨y, r1, ?_⟩
      cases y with
      | true => exact h'.sim W1 σ s A1 H1 _ k1 (sr.le e1.le) h1
      | false => exact h1.ok_at k1 rfl
    | _ => exact h1.elim)⟩
theorem sor (h : SE X Wx a ta ma) (h' : SE X Wx (.BoolOp .Or (b :: es) pos) tb mb) : SE X Wx (.BoolOp .Or (a :: b :: es) pos) (tOrV ta tb) (mOrV ma mb) :=
  ⟨pe_or h.pe h'.pe, fun W σ s A H Q k sr z => h.sim W σ s A H _ k sr (z.bind fun x A1 v W1 H1 e1 k1 r1 h1 => by
    cases x with
    | bl y =>
      refine ⟨y, r1, ?_⟩
      cases y with
      | true => exact h1.ok_at k1 rfl
      | false => exact h'.sim W1 σ s A1 H1 _ k1 (sr.le e1.le) h1
    | _ => exact h1.elim)⟩
theorem snot (h : SE X Wx a ta ma) : SE X Wx (.UnaryOp .Not a pos) (tNotV ta) (mNotV ma) :=
  ⟨pe_not h.pe, fun W σ s A H Q k sr z => h.sim W σ s A H _ k sr (z.bind fun x A1 v W1 H1 e1 k1 r1 h1 => by
    cases x with
    | bl y => exact ⟨y, r1, h1.ok_at k1 rfl⟩
    | _ => exact h1.elim)⟩
theorem sif {mc' : MT} {tt : TT} (h : ST X Wx c tt mc') (ha : SE X Wx a ta ma) (hb : SE X Wx b tb mb) : SE X Wx (.IfExp c a b pos) (tIf tt ta tb) (mIf mc' ma mb) :=
  ⟨pe_ifExp h.pt ha.pe hb.pe, fun W σ s A H Q k sr z => h.sim W σ s A H _ k sr (z.bind fun x A1 v W1 H1 e1 k1 r1 h1 => by
    cases r1
    cases x with
    | true => exact ha.sim W1 σ s A1 H1 _ k1 (sr.le e1.le) h1
    | false => exact hb.sim W1 σ s A1 H1 _ k1 (sr.le e1.le) h1)⟩

variable {tr : TA} {mr : MA}
theorem anil : SA X Wx [] tNil mNil := ⟨pa_nil, fun W σ s A H Q k sr h => h.ok_at k rfl⟩
theorem acons (ha : SE X Wx e te me) (hr : SA X Wx es tr mr) (hs : starEach (e :: es) X.env = (false, eval e X.env) :: starEach es X.env := by rfl) : SA X Wx (e :: es) (tCons te tr) (mCons me mr) :=
  ⟨pa_cons ha.pe hr.pa hs, fun W σ s A H Q k sr h => ha.sim W σ s A H _ k sr (h.bind fun x A1 v W1 H1 e1 k1 r1 h1 =>
    hr.sim W1 σ s A1 H1 _ k1 (sr.le e1.le) (h1.bind fun xs A2 vs W2 H2 e2 k2 r2 h2 => h2.ok_at k2 (Reps.cons (r1.le e2.le) r2)))⟩
end
end Tg

set_option Elab.async false
set_option linter.all false
set_option maxRecDepth 100000
/-! TgOps: operators by values. -/
namespace Tg
open PySem L2

/-! ### lists, tuples by values -/
/-- a list that can be added to another: no script -/
def lstL (A : AH) : D → Option (List D)
  | .lst ds => some ds
  | .ref n => match A[n]? with
    | some (.lst ds) => some ds
    | _ => none
  | _ => none
/-- any list -/
def seqL (A : AH) : D → Option (List D)
  | .lst ds => some ds
  | .ref n => match A[n]? with
    | some (.lst ds) => some ds
    | _ => none
  | .scr ns => some (ns.map .int)
  | _ => none
section
variable {K : PySem.W.Frag} {mg : Str → Option Value} {W : Wd} {A : AH} {H : Hp}
theorem reps_ints (W : Wd) : ∀ ns : List Int, Reps K W (ns.map .int) (ns.map V.int)
  | [] => rfl
  | n :: ns => ⟨_, _, rfl, rfl, reps_ints W ns⟩
theorem lstL_at (k : Ok K mg W A H) {d : D} {v : V} (r : Rep K W d v) {ds : List D} (e : lstL A d = some ds) : ∃ a xs, v = .ref a ∧ H a = some (.lst xs) ∧ Reps K W ds xs := by
  cases d with
  | lst es =>
    obtain ⟨a, xs, ev, ha, rr⟩ := r
    cases (show some es = some ds from e)
    exact ⟨a, xs, ev, k.frz _ _ ha, rr⟩
  | ref n =>
    obtain ⟨a, ev, ha⟩ := r
    unfold lstL at e
    dsimp only at e
    split at e
    · rename_i es q
      cases e
      obtain ⟨xs, hx, rr⟩ := k.lookL ha q
      exact ⟨a, xs, ev, hx, rr⟩
    · cases e
  | _ => cases (show none = some ds from e)
theorem seqL_at (k : Ok K mg W A H) {d : D} {v : V} (r : Rep K W d v) {ds : List D} (e : seqL A d = some ds) : ∃ a xs, v = .ref a ∧ SqL K H a xs ∧ Reps K W ds xs := by
  cases d with
  | lst es =>
    obtain ⟨a, xs, ev, ha, rr⟩ := r
    cases (show some es = some ds from e)
    exact ⟨a, xs, ev, .of (k.frz _ _ ha), rr⟩
  | ref n =>
    obtain ⟨a, ev, ha⟩ := r
    unfold seqL at e
    dsimp only at e
    split at e
    · rename_i es q
      cases e
      obtain ⟨xs, hx, rr⟩ := k.lookL ha q
      exact ⟨a, xs, ev, .of hx, rr⟩
    · cases e
  | scr ns =>
    obtain ⟨a, ev, hs⟩ := r
    cases (show some (ns.map D.int) = some ds from e)
    exact ⟨a, _, ev, k.sqL hs, reps_ints W ns⟩
  | _ => cases (show none = some ds from e)
theorem tup_at (k : Ok K mg W A H) {ds : List D} {v : V} (r : Rep K W (.tup ds) v) : ∃ a xs, v = .ref a ∧ SqT K H a xs ∧ Reps K W ds xs := by
  obtain ⟨a, xs, ev, ha, rr⟩ := r
  exact ⟨a, xs, ev, k.sqT ha, rr⟩
variable {E : XK} {Q : VK} {ds : List D} {xs : List V} {p : Addr}
/-- a new list that lies still; a new tuple; a new list that will change -/
theorem post_lst (k : Ok K mg W A H) (h : Post K mg (Rep K) W H E Q (.ok (.lst ds) A)) (r : Reps K W ds xs) (hp : H p = none) : Q (.ref p) (upd H p (.lst xs)) := by
  obtain ⟨k1, e1⟩ := k.frozen hp (.lst xs)
  exact h _ _ _ e1 k1 ⟨p, xs, rfl, upd_same, r.le e1.le⟩
theorem post_tup (k : Ok K mg W A H) (h : Post K mg (Rep K) W H E Q (.ok (.tup ds) A)) (r : Reps K W ds xs) (hp : H p = none) : Q (.ref p) (upd H p (.tup xs)) := by
  obtain ⟨k1, e1⟩ := k.frozen hp (.tup xs)
  exact h _ _ _ e1 k1 ⟨p, xs, rfl, .inl (.inl upd_same), r.le e1.le⟩
theorem post_new (k : Ok K mg W A H) (h : Post K mg (Rep K) W H E Q (.ok (.ref A.length) (A ++ [.lst ds]))) (r : Reps K W ds xs) (hp : H p = none) : Q (.ref p) (upd H p (.lst xs)) := by
  have l : Le W ⟨W.F, W.m ++ [p]⟩ := ⟨fun _ _ e => e, [p], rfl⟩
  obtain ⟨k1, e1⟩ := k.fresh hp (o := .lst xs) (u := .lst ds) ⟨xs, rfl, r.le l⟩
  refine h _ _ _ e1 k1 ⟨p, rfl, ?_⟩
  rw [← k.len]
  exact List.getElem?_concat_length
end

/-! ### + - * // % ** -/
def rAddU (K : PySem.W.Frag) : R2 := fun x y H Q => (rI0 (fun i j => .int (i + j)) x y H Q ∨ (∃ i j, x = .str i ∧ y = .str j ∧ i.length + j.length ≤ sizeLine ∧ Q (.str (i ++ j)) H)) ∨ rCatA K x y H Q ∨ rCat x y H Q
theorem oAdd {X : Cx} : OpR X (binaryOp .Add) (rAddU X.K) := (op_add.or op_add_str).or (op_catA.or op_cat)
def addD : D → D → AH → R D
  | .int i, .int j, A => .ok (.int (i + j)) A
  | .str i, .str j, A => if i.length + j.length ≤ 16777216 then .ok (.str (i ++ j)) A else .bad
  | .tup ds, .tup es, A => if ds.length + es.length ≤ 16777216 then .ok (.tup (ds ++ es)) A else .bad
  | x, y, A => match lstL A x, lstL A y with
    | some ds, some es => if ds.length + es.length ≤ 16777216 then .ok (.lst (ds ++ es)) A else .bad
    | _, _ => .bad
/-- + of lists, the new one will change -/
def addN : D → D → AH → R D := fun x y A => match lstL A x, lstL A y with
  | some ds, some es => if ds.length + es.length ≤ 16777216 then .ok (.ref A.length) (A ++ [.lst (ds ++ es)]) else .bad
  | _, _ => .bad
theorem sz_of {n : Nat} (h : n ≤ 16777216) : n ≤ sizeLine := by
  rw [sizeLine_eq]
  exact h
section
variable {K : PySem.W.Frag} {mg : Str → Option Value}
theorem oAddS : OpS K mg (rAddU K) addD := fun W A H E Q d e x y k rx ry h => by
  unfold addD at h
  split at h
  · exact .inl (.inl ⟨_, _, rx, ry, h.ok_at k rfl⟩)
  · split at h
    · rename_i z
      exact .inl (.inr ⟨_, _, rx, ry, sz_of z, h.ok_at k rfl⟩)
    · exact h.elim
  · rename_i ds es
    split at h
    · rename_i z
      obtain ⟨a, xs, ex, sx, r1⟩ := tup_at k rx
      obtain ⟨b, ys, ey, sy, r2⟩ := tup_at k ry
      refine .inr (.inl ⟨a, b, xs, ys, ex, ey, sx, sy, ?_, fun hx => ?_, fun hx hy => ?_, fun hx hy p hp => post_tup k h (r1.append r2) hp⟩)
      · rw [r1.length, r2.length]
        exact sz_of z
      · subst hx
        have z1 := r1.length
        have z2 : ds = [] := List.length_eq_zero_iff.mp z1.symm
        subst z2
        rw [← ey]
        exact h.ok_at k ry
      · subst hy
        have z1 := r2.length
        have z2 : es = [] := List.length_eq_zero_iff.mp z1.symm
        subst z2
        rw [List.append_nil] at h
        rw [← ex]
        exact h.ok_at k rx
    · exact h.elim
  · split at h
    · rename_i ds es e1 e2
      split at h
      · rename_i z
        obtain ⟨a, xs, ex, hx, r1⟩ := lstL_at k rx e1
        obtain ⟨b, ys, ey, hy, r2⟩ := lstL_at k ry e2
        refine .inr (.inr ⟨a, b, xs, ys, ex, ey, hx, hy, ?_, fun p hp => post_lst k h (r1.append r2) hp⟩)
        rw [r1.length, r2.length]
        exact sz_of z
      · exact h.elim
    · exact h.elim
theorem oAddNS : OpS K mg (rAddU K) addN := fun W A H E Q d e x y k rx ry h => by
  unfold addN at h
  split at h
  · rename_i ds es e1 e2
    split at h
    · rename_i z
      obtain ⟨a, xs, ex, hx, r1⟩ := lstL_at k rx e1
      obtain ⟨b, ys, ey, hy, r2⟩ := lstL_at k ry e2
      refine .inr (.inr ⟨a, b, xs, ys, ex, ey, hx, hy, ?_, fun p hp => post_new k h (r1.append r2) hp⟩)
      rw [r1.length, r2.length]
      exact sz_of z
    · exact h.elim
  · exact h.elim
end
def subD : D → D → AH → R D
  | .int i, .int j, A => .ok (.int (i - j)) A
  | _, _, _ => .bad
theorem oSubS {K : PySem.W.Frag} {mg : Str → Option Value} : OpS K mg (rI0 fun i j => .int (i - j)) subD := fun W A H E Q d e x y k rx ry h => by
  unfold subD at h
  split at h
  · exact ⟨_, _, rx, ry, h.ok_at k rfl⟩
  · exact h.elim
def rMulU (K : PySem.W.Frag) : R2 := fun x y H Q => rI CMul (fun i j => .int (i * j)) x y H Q ∨ rRep x y H Q ∨ rRepT K x y H Q
theorem oMul {X : Cx} : OpR X (binaryOp .Mult) (rMulU X.K) := op_mul.or (op_rep.or op_repT)
def repD (k : Nat) (ds : List D) : List D := (List.replicate k ds).flatten
def mulD : D → D → AH → R D
  | .int i, .int j, A => if (-(2 ^ 64) < i ∧ i < 2 ^ 64) ∨ (-(2 ^ 64) < j ∧ j < 2 ^ 64) then .ok (.int (i * j)) A else .bad
  | .tup ds, .int k, A => if ds ≠ [] ∧ 2 ≤ k ∧ k ≤ 1000 ∧ ds.length ≤ 1000 then .ok (.tup (repD k.toNat ds)) A else .bad
  | x, .int k, A => match lstL A x with
    | some ds => if -(2 ^ 63) ≤ k ∧ k < 2 ^ 63 ∧ ds.length * k.toNat ≤ 16777216 then .ok (.lst (repD k.toNat ds)) A else .bad
    | none => .bad
  | _, _, _ => .bad
def mulN : D → D → AH → R D
  | x, .int k, A => match lstL A x with
    | some ds => if -(2 ^ 63) ≤ k ∧ k < 2 ^ 63 ∧ ds.length * k.toNat ≤ 16777216 then .ok (.ref A.length) (A ++ [.lst (repD k.toNat ds)]) else .bad
    | none => .bad
  | _, _, _ => .bad
section
variable {K : PySem.W.Frag} {mg : Str → Option Value}
theorem Reps.rep {W : Wd} {ds : List D} {xs : List V} (r : Reps K W ds xs) : ∀ n : Nat, Reps K W (repD n ds) (List.replicate n xs).flatten
  | 0 => rfl
  | n + 1 => by
    show Reps K W (List.replicate (n + 1) ds).flatten _
    rw [List.replicate_succ, List.replicate_succ, List.flatten_cons, List.flatten_cons]
    exact r.append (Reps.rep r n)
theorem oMulS : OpS K mg (rMulU K) mulD := fun W A H E Q d e x y k rx ry h => by
  unfold mulD at h
  split at h
  · split at h
    · rename_i z
      exact .inl ⟨_, _, rx, ry, z, h.ok_at k rfl⟩
    · exact h.elim
  · split at h
    · rename_i z
      obtain ⟨z1, z2, z3, z4⟩ := z
      obtain ⟨a, xs, ex, sx, r1⟩ := tup_at k rx
      refine .inr (.inr ⟨a, _, xs, ex, ry, sx, fun q => z1 ?_, z2, z3, ?_, fun p hp => post_tup k h (r1.rep _) hp⟩)
      · subst q
        exact List.length_eq_zero_iff.mp r1.length.symm
      · rw [r1.length]
        exact z4
    · exact h.elim
  · split at h
    · rename_i ds e1
      split at h
      · rename_i z
        obtain ⟨a, xs, ex, sx, r1⟩ := lstL_at k rx e1
        refine .inr (.inl ⟨a, _, xs, ex, ry, sx, z.1, z.2.1, ?_, fun p hp => post_lst k h (r1.rep _) hp⟩)
        rw [r1.length]
        exact sz_of z.2.2
      · exact h.elim
    · exact h.elim
  · exact h.elim
theorem oMulNS : OpS K mg (rMulU K) mulN := fun W A H E Q d e x y k rx ry h => by
  unfold mulN at h
  split at h
  · split at h
    · rename_i ds e1
      split at h
      · rename_i z
        obtain ⟨a, xs, ex, sx, r1⟩ := lstL_at k rx e1
        refine .inr (.inl ⟨a, _, xs, ex, ry, sx, z.1, z.2.1, ?_, fun p hp => post_new k h (r1.rep _) hp⟩)
        rw [r1.length]
        exact sz_of z.2.2
      · exact h.elim
    · exact h.elim
  · exact h.elim
end
def fdivD : D → D → AH → R D
  | .int i, .int j, A => if 0 < j ∧ j < 1073741824 then .ok (.int (i / j)) A else .bad
  | _, _, _ => .bad
def modD : D → D → AH → R D
  | .int i, .int j, A => if 0 < j then .ok (.int (i % j)) A else .bad
  | _, _, _ => .bad
def powD : D → D → AH → R D
  | .int i, .int j, A => if 0 ≤ j ∧ j ≤ 1000000 ∧ i.natAbs < 2 ^ 64 then .ok (.int (i ^ j.toNat)) A else .bad
  | _, _, _ => .bad
def negD : D → AH → R D
  | .int i, A => .ok (.int (-i)) A
  | _, _ => .bad
section
variable {K : PySem.W.Frag} {mg : Str → Option Value}
theorem oFdivS : OpS K mg (rI CDiv fun i j => .int (i / j)) fdivD := fun W A H E Q d e x y k rx ry h => by
  unfold fdivD at h
  split at h
  · split at h
    · rename_i z
      exact ⟨_, _, rx, ry, z, h.ok_at k rfl⟩
    · exact h.elim
  · exact h.elim
theorem oModS : OpS K mg (rI (fun _ j => 0 < j) fun i j => .int (i % j)) modD := fun W A H E Q d e x y k rx ry h => by
  unfold modD at h
  split at h
  · split at h
    · rename_i z
      exact ⟨_, _, rx, ry, z, h.ok_at k rfl⟩
    · exact h.elim
  · exact h.elim
theorem oPowS : OpS K mg (rI CPow fun i j => .int (i ^ j.toNat)) powD := fun W A H E Q d e x y k rx ry h => by
  unfold powD at h
  split at h
  · split at h
    · rename_i z
      exact ⟨_, _, rx, ry, z, h.ok_at k rfl⟩
    · exact h.elim
  · exact h.elim
theorem oNegS : UnS K mg (rU fun i => .int (-i)) negD := fun W A H E Q d x k rx h => by
  unfold negD at h
  split at h
  · exact ⟨_, rx, h.ok_at k rfl⟩
  · exact h.elim
end

/-! ### < <= > >= of ints, is None -/
def ltD : D → D → AH → R D
  | .int i, .int j, A => .ok (.bl (decide (i < j))) A
  | _, _, _ => .bad
def leD : D → D → AH → R D
  | .int i, .int j, A => .ok (.bl (decide (i ≤ j))) A
  | _, _, _ => .bad
def gtD : D → D → AH → R D
  | .int i, .int j, A => .ok (.bl (decide (j < i))) A
  | _, _, _ => .bad
def geD : D → D → AH → R D
  | .int i, .int j, A => .ok (.bl (decide (j ≤ i))) A
  | _, _, _ => .bad
def isNon : D → Bool
  | .non => true
  | _ => false
def isD : D → D → AH → R D
  | x, .non, A => .ok (.bl (isNon x)) A
  | _, _, _ => .bad
def isntD : D → D → AH → R D
  | x, .non, A => .ok (.bl (!isNon x)) A
  | _, _, _ => .bad
section
variable {K : PySem.W.Frag} {mg : Str → Option Value}
theorem oLtS : OpS K mg (rI0 fun i j => .bl (decide (i < j))) ltD := fun W A H E Q d e x y k rx ry h => by
  unfold ltD at h
  split at h
  · exact ⟨_, _, rx, ry, h.ok_at k rfl⟩
  · exact h.elim
theorem oLeS : OpS K mg (rI0 fun i j => .bl (decide (i ≤ j))) leD := fun W A H E Q d e x y k rx ry h => by
  unfold leD at h
  split at h
  · exact ⟨_, _, rx, ry, h.ok_at k rfl⟩
  · exact h.elim
theorem oGtS : OpS K mg (rI0 fun i j => .bl (decide (j < i))) gtD := fun W A H E Q d e x y k rx ry h => by
  unfold gtD at h
  split at h
  · exact ⟨_, _, rx, ry, h.ok_at k rfl⟩
  · exact h.elim
theorem oGeS : OpS K mg (rI0 fun i j => .bl (decide (j ≤ i))) geD := fun W A H E Q d e x y k rx ry h => by
  unfold geD at h
  split at h
  · exact ⟨_, _, rx, ry, h.ok_at k rfl⟩
  · exact h.elim
theorem rep_non {W : Wd} {d : D} {x : V} (r : Rep K W d x) : decide (x = .non) = isNon d := by
  cases d with
  | non =>
    cases (show x = .non from r)
    rfl
  | bl b =>
    cases (show x = .bl b from r)
    rfl
  | int b =>
    cases (show x = .int b from r)
    rfl
  | str b =>
    cases (show x = .str b from r)
    rfl
  | tup ds =>
    obtain ⟨a, xs, rfl, _⟩ := r
    rfl
  | lst ds =>
    obtain ⟨a, xs, rfl, _⟩ := r
    rfl
  | dct ks ds =>
    obtain ⟨a, xs, rfl, _⟩ := r
    rfl
  | ref n =>
    obtain ⟨a, rfl, _⟩ := r
    rfl
  | scr n =>
    obtain ⟨a, rfl, _⟩ := r
    rfl
theorem oIsS : OpS K mg (fun x y H Q => y = .non ∧ Q (.bl (decide (x = .non))) H) isD := fun W A H E Q d e x y k rx ry h => by
  unfold isD at h
  split at h
  · refine ⟨ry, ?_⟩
    rw [rep_non rx]
    exact h.ok_at k rfl
  · exact h.elim
theorem oIsntS : OpS K mg (fun x y H Q => y = .non ∧ Q (.bl (!decide (x = .non))) H) isntD := fun W A H E Q d e x y k rx ry h => by
  unfold isntD at h
  split at h
  · refine ⟨ry, ?_⟩
    rw [rep_non rx]
    exact h.ok_at k rfl
  · exact h.elim
end

/-! ### == != : scalars, then data at any depth -/
def scEq : D → D → Option Bool
  | .non, .non => some true
  | .bl a, .bl b => some (a == b)
  | .int a, .int b => some (a == b)
  | .str a, .str b => some (a == b)
  | .non, .int _ | .int _, .non | .non, .bl _ | .bl _, .non | .non, .str _ | .str _, .non => some false
  | .int _, .str _ | .str _, .int _ | .bl _, .str _ | .str _, .bl _ => some false
  | _, _ => none
def pysOf (f : D → Option PyData) : List D → Option (List PyData)
  | [] => some []
  | d :: ds => match f d, pysOf f ds with
    | some p, some ps => some (p :: ps)
    | _, _ => none
/-- data as it can be compared; what changes as it stands now -/
def pyOf : Nat → AH → D → Option PyData
  | 0, _, _ => none
  | n + 1, A, d => match d with
    | .non => some .none
    | .bl b => some (.bool b)
    | .int i => some (.int i)
    | .str s => some (.str s)
    | .tup ds => (pysOf (pyOf n A) ds).map .tuple
    | .lst ds => (pysOf (pyOf n A) ds).map .list
    | .ref k => match A[k]? with
      | some (.lst ds) => (pysOf (pyOf n A) ds).map .list
      | _ => none
    | .scr ns => some (.list (ns.map .int))
    | .dct _ _ => none
def eqD (x y : D) (A : AH) : R D := match scEq x y with
  | some b => .ok (.bl b) A
  | none => match pyOf 12 A x, pyOf 12 A y with
    | some p, some q => if SeqAt.shaped p && SeqAt.shaped q then .ok (.bl (PyData.eqv p q)) A else .bad
    | _, _ => .bad
def neD (x y : D) (A : AH) : R D := match scEq x y with
  | some b => .ok (.bl (!b)) A
  | none => match pyOf 12 A x, pyOf 12 A y with
    | some p, some q => if SeqAt.shaped p && SeqAt.shaped q then .ok (.bl (!PyData.eqv p q)) A else .bad
    | _, _ => .bad
section
variable {K : PySem.W.Frag} {mg : Str → Option Value} {W : Wd} {A : AH} {H : Hp}
theorem dps_of (f : D → Option PyData) (hf : ∀ d p v, f d = some p → Rep K W d v → Dp K H v p) : ∀ (ds : List D) (ps : List PyData) (vs : List V), pysOf f ds = some ps → Reps K W ds vs → DpAll K H vs ps
  | [], ps, vs, e, r => by
    cases (show some [] = some ps from e)
    cases (show vs = [] from r)
    exact .nil
  | d :: ds, ps, vs, e, r => by
    unfold pysOf at e
    split at e
    · rename_i p ps' e1 e2
      cases e
      obtain ⟨v, r', rfl, h1, h2⟩ := r
      exact .cons (hf d p v e1 h1) (dps_of f hf ds ps' r' e2 h2)
    · cases e
theorem dp_ints : ∀ ns : List Int, DpAll K H (ns.map V.int) (ns.map PyData.int)
  | [] => .nil
  | n :: ns => .cons (.int n) (dp_ints ns)
theorem dp_of (k : Ok K mg W A H) : ∀ (n : Nat) (d : D) (p : PyData) (v : V), pyOf n A d = some p → Rep K W d v → Dp K H v p
  | 0, _, _, _, e, _ => by cases (show none = some _ from e)
  | n + 1, d, p, v, e, r => by
    cases d with
    | non =>
      cases (show some PyData.none = some p from e)
      cases (show v = .non from r)
      exact .non
    | bl b =>
      cases (show some (PyData.bool b) = some p from e)
      cases (show v = .bl b from r)
      exact .bl b
    | int b =>
      cases (show some (PyData.int b) = some p from e)
      cases (show v = .int b from r)
      exact .int b
    | str b =>
      cases (show some (PyData.str b) = some p from e)
      cases (show v = .str b from r)
      exact .str b
    | tup ds =>
      obtain ⟨ps, e1, rfl⟩ := Option.map_eq_some_iff.mp (show (pysOf (pyOf n A) ds).map PyData.tuple = some p from e)
      obtain ⟨a, xs, rfl, sx, rr⟩ := tup_at k r
      exact .tup sx (dps_of _ (fun d p v => dp_of k n d p v) ds ps xs e1 rr)
    | lst ds =>
      obtain ⟨ps, e1, rfl⟩ := Option.map_eq_some_iff.mp (show (pysOf (pyOf n A) ds).map PyData.list = some p from e)
      obtain ⟨a, xs, rfl, sx, rr⟩ := seqL_at k r (ds := ds) rfl
      exact .lst sx (dps_of _ (fun d p v => dp_of k n d p v) ds ps xs e1 rr)
    | ref j =>
      unfold pyOf at e
      dsimp only at e
      split at e
      · rename_i ds q
        obtain ⟨ps, e1, rfl⟩ := Option.map_eq_some_iff.mp e
        obtain ⟨a, rfl, ha⟩ := r
        obtain ⟨xs, hx, rr⟩ := k.lookL ha q
        exact .lst (.of hx) (dps_of _ (fun d p v => dp_of k n d p v) ds ps xs e1 rr)
      · cases e
    | scr ns =>
      cases (show some (PyData.list (ns.map .int)) = some p from e)
      obtain ⟨a, rfl, hs⟩ := r
      exact .lst (k.sqL hs) (dp_ints ns)
    | dct ks ds => cases (show none = some p from e)
theorem scEq_at {d e : D} {x y : V} {b : Bool} (h : scEq d e = some b) (rx : Rep K W d x) (ry : Rep K W e y) : scal x y = true ∧ decide (x = y) = b := by
  unfold scEq at h
  split at h
  all_goals first
    | (cases h
       cases rx
       cases ry
       exact ⟨rfl, by first | rfl | exact dec_int | exact dec_bl | exact dec_str⟩)
    | cases h
end
def rEqU (K : PySem.W.Frag) : R2 := fun x y H Q => rEq x y H Q ∨ rEqD K x y H Q
def rNeU (K : PySem.W.Frag) : R2 := fun x y H Q => rNe x y H Q ∨ rNeD K x y H Q
theorem oEq {X : Cx} {k : Nat} (hr : Room k X.A) : OpR X (compareOp .Eq) (rEqU X.K) := op_eq.or (op_eqD hr.units)
theorem oNe {X : Cx} {k : Nat} (hr : Room k X.A) : OpR X (compareOp .NotEq) (rNeU X.K) := op_ne.or (op_neD hr.units)
section
variable {K : PySem.W.Frag} {mg : Str → Option Value}
theorem oEqS : OpS K mg (rEqU K) eqD := fun W A H E Q d e x y k rx ry h => by
  unfold eqD at h
  split at h
  · rename_i b hb
    obtain ⟨h1, h2⟩ := scEq_at hb rx ry
    refine .inl ⟨h1, ?_⟩
    rw [h2]
    exact h.ok_at k rfl
  · split at h
    · rename_i p q e1 e2
      split at h
      · rename_i z
        have z' := Bool.and_eq_true_iff.mp z
        exact .inr ⟨p, q, dp_of k _ _ _ _ e1 rx, dp_of k _ _ _ _ e2 ry, z'.1, z'.2, h.ok_at k rfl⟩
      · exact h.elim
    · exact h.elim
theorem oNeS : OpS K mg (rNeU K) neD := fun W A H E Q d e x y k rx ry h => by
  unfold neD at h
  split at h
  · rename_i b hb
    obtain ⟨h1, h2⟩ := scEq_at hb rx ry
    refine .inl ⟨h1, ?_⟩
    rw [h2]
    exact h.ok_at k rfl
  · split at h
    · rename_i p q e1 e2
      split at h
      · rename_i z
        have z' := Bool.and_eq_true_iff.mp z
        exact .inr ⟨p, q, dp_of k _ _ _ _ e1 rx, dp_of k _ _ _ _ e2 ry, z'.1, z'.2, h.ok_at k rfl⟩
      · exact h.elim
    · exact h.elim
end
end Tg

set_option Elab.async false
set_option linter.all false
set_option maxRecDepth 100000
set_option maxHeartbeats 1000000
/-! TgSeq: in, subscripts, slices, displays, fields, dicts, built-ins and methods by values. -/
namespace Tg
open PySem PySem.Spec PyProof.Rows L2

/-! ### dicts as tables -/
def lkK (kvs : List (Key × D)) (k : Key) : Option D := (kvs.find? fun kv => decide (kv.1 = k)).map (·.2)
def ptK (kvs : List (Key × D)) (k : Key) (d : D) : List (Key × D) :=
  if (kvs.any fun kv => decide (kv.1 = k)) = true then kvs.map (fun kv => if kv.1 = k then (kv.1, d) else kv) else kvs ++ [(k, d)]
def keyD : D → Option Key
  | .int i => some (.inl i)
  | .str s => some (.inr s)
  | _ => none
/-- a dict's pairs -/
def dctD (A : AH) : D → Option (List (Key × D))
  | .dct ks ds => some (ks.zip ds)
  | .ref n => match A[n]? with
    | some (.dct kvs) => some kvs
    | _ => none
  | _ => none
def KVR (K : PySem.W.Frag) (W : Wd) (kvs : List (Key × D)) (vs : List (Key × V)) : Prop := vs.map (·.1) = kvs.map (·.1) ∧ Reps K W (kvs.map (·.2)) (vs.map (·.2))
section
variable {K : PySem.W.Frag} {mg : Str → Option Value} {W : Wd} {A : AH} {H : Hp}
theorem KVR.le {W' : Wd} (l : Le W W') {kvs : List (Key × D)} {vs : List (Key × V)} (r : KVR K W kvs vs) : KVR K W' kvs vs := ⟨r.1, r.2.le l⟩
theorem KVR.cons_iff {p : Key × D} {kvs : List (Key × D)} {vs : List (Key × V)} (r : KVR K W (p :: kvs) vs) : ∃ v vs', vs = (p.1, v) :: vs' ∧ Rep K W p.2 v ∧ KVR K W kvs vs' := by
  obtain ⟨h1, h2⟩ := r
  cases vs with
  | nil => cases h1
  | cons q vs =>
    obtain ⟨v, r', e, h3, h4⟩ := h2
    obtain ⟨qk, qv⟩ := q
    simp only [List.map_cons, List.cons.injEq] at h1 e
    obtain ⟨e1, e2⟩ := h1
    obtain ⟨e3, e4⟩ := e
    subst e1 e3 e4
    exact ⟨_, _, rfl, h3, e2, h4⟩
theorem KVR.nil_iff {vs : List (Key × V)} (r : KVR K W [] vs) : vs = [] := by
  cases vs with
  | nil => rfl
  | cons q vs => cases r.1
theorem KVR.get {k : Key} {d : D} : ∀ {kvs : List (Key × D)} {vs : List (Key × V)}, KVR K W kvs vs → lkK kvs k = some d → ∃ v, valV vs k = some v ∧ Rep K W d v
  | [], _, _, e => by cases e
  | p :: kvs, vs, r, e => by
    obtain ⟨v, vs', rfl, h1, h2⟩ := r.cons_iff
    by_cases q : p.1 = k
    · have e' : lkK (p :: kvs) k = some p.2 := by simp [lkK, List.find?_cons, q]
      rw [e'] at e
      cases e
      exact ⟨v, valV_pos q, h1⟩
    · have e' : lkK (p :: kvs) k = lkK kvs k := by simp [lkK, List.find?_cons, q]
      rw [e'] at e
      obtain ⟨u, h3, h4⟩ := KVR.get h2 e
      exact ⟨u, by rw [valV_neg q]; exact h3, h4⟩
theorem KVR.none {k : Key} : ∀ {kvs : List (Key × D)} {vs : List (Key × V)}, KVR K W kvs vs → lkK kvs k = none → valV vs k = none
  | [], _, r, _ => by
    cases r.nil_iff
    rfl
  | p :: kvs, vs, r, e => by
    obtain ⟨v, vs', rfl, h1, h2⟩ := r.cons_iff
    by_cases q : p.1 = k
    · have e' : lkK (p :: kvs) k = some p.2 := by simp [lkK, List.find?_cons, q]
      rw [e'] at e
      cases e
    · have e' : lkK (p :: kvs) k = lkK kvs k := by simp [lkK, List.find?_cons, q]
      rw [e'] at e
      rw [valV_neg q]
      exact KVR.none h2 e
theorem KVR.isSome {k : Key} {kvs : List (Key × D)} {vs : List (Key × V)} (r : KVR K W kvs vs) : (valV vs k).isSome = (lkK kvs k).isSome := by
  cases e : lkK kvs k with
  | none =>
    rw [r.none e]
    rfl
  | some d =>
    obtain ⟨v, e1, _⟩ := r.get e
    rw [e1]
    rfl
theorem KVR.any {k : Key} : ∀ {kvs : List (Key × D)} {vs : List (Key × V)}, KVR K W kvs vs → (vs.any fun kv => decide (kv.1 = k)) = (kvs.any fun kv => decide (kv.1 = k))
  | [], _, r => by
    cases r.nil_iff
    rfl
  | p :: kvs, vs, r => by
    obtain ⟨v, vs', rfl, h1, h2⟩ := r.cons_iff
    simp only [List.any_cons, KVR.any h2]
theorem KVR.mk_cons {k : Key} {d : D} {v : V} {kvs : List (Key × D)} {vs : List (Key × V)} (h : Rep K W d v) (r : KVR K W kvs vs) : KVR K W ((k, d) :: kvs) ((k, v) :: vs) :=
  ⟨by simp only [List.map_cons, r.1], by simp only [List.map_cons]; exact Reps.cons h r.2⟩
theorem KVR.app {kvs lvs : List (Key × D)} {vs us : List (Key × V)} (r : KVR K W kvs vs) (r' : KVR K W lvs us) : KVR K W (kvs ++ lvs) (vs ++ us) :=
  ⟨by rw [List.map_append, List.map_append, r.1, r'.1], by rw [List.map_append, List.map_append]; exact r.2.append r'.2⟩
theorem KVR.over {k : Key} {d : D} {v : V} (h : Rep K W d v) : ∀ {kvs : List (Key × D)} {vs : List (Key × V)}, KVR K W kvs vs →
    KVR K W (kvs.map (fun kv => if kv.1 = k then (kv.1, d) else kv)) (vs.map (fun kv => if kv.1 = k then (kv.1, v) else kv))
  | [], _, r => by
    cases r.nil_iff
    exact ⟨rfl, rfl⟩
  | p :: kvs, vs, r => by
    obtain ⟨u, vs', rfl, h1, h2⟩ := r.cons_iff
    by_cases q : p.1 = k
    · simp only [List.map_cons, if_pos q]
      exact KVR.mk_cons h (KVR.over h h2)
    · simp only [List.map_cons, if_neg q]
      exact KVR.mk_cons (k := p.1) (d := p.2) h1 (KVR.over h h2)
theorem KVR.put {k : Key} {d : D} {v : V} {kvs : List (Key × D)} {vs : List (Key × V)} (r : KVR K W kvs vs) (h : Rep K W d v) : KVR K W (ptK kvs k d) (putK vs k v) := by
  unfold ptK putK
  rw [r.any]
  split
  · exact KVR.over h r
  · exact r.app ⟨rfl, Reps.one h⟩
theorem KVR.len {kvs : List (Key × D)} {vs : List (Key × V)} (r : KVR K W kvs vs) : vs.length = kvs.length := by
  have := congrArg List.length r.1
  simpa using this
theorem KVR.zip : ∀ {ks : List Key} {ds : List D} {vs : List (Key × V)}, vs.map (·.1) = ks → Reps K W ds (vs.map (·.2)) → KVR K W (ks.zip ds) vs
  | [], ds, vs, e, r => by
    cases vs with
    | nil => exact ⟨rfl, rfl⟩
    | cons q vs => cases e
  | k :: ks, ds, vs, e, r => by
    cases vs with
    | nil => cases e
    | cons q vs =>
      obtain ⟨qk, qv⟩ := q
      simp only [List.map_cons, List.cons.injEq] at e
      cases ds with
      | nil => cases (show _ = [] from r)
      | cons d ds =>
        obtain ⟨v, r', e2, h1, h2⟩ := r
        simp only [List.map_cons, List.cons.injEq] at e2
        obtain ⟨e3, e4⟩ := e2
        subst e3
        rw [← e4] at h2
        rw [← e.1]
        exact KVR.mk_cons h1 (KVR.zip e.2 h2)
theorem dctD_at (k : Ok K mg W A H) {d : D} {v : V} (r : Rep K W d v) {kvs : List (Key × D)} (e : dctD A d = some kvs) : ∃ a vs, v = .ref a ∧ H a = some (.dK vs) ∧ KVR K W kvs vs := by
  cases d with
  | dct ks ds =>
    obtain ⟨a, vs, ev, ha, hk, rr⟩ := r
    cases (show some (ks.zip ds) = some kvs from e)
    exact ⟨a, vs, ev, k.frz _ _ ha, KVR.zip hk rr⟩
  | ref n =>
    obtain ⟨a, ev, ha⟩ := r
    unfold dctD at e
    dsimp only at e
    split at e
    · rename_i es q
      cases e
      obtain ⟨vs, hx, hk, rr⟩ := k.obj n a _ ha q
      exact ⟨a, vs, ev, hx, hk, rr⟩
    · cases e
  | _ => cases (show none = some kvs from e)
theorem keyD_at {d : D} {v : V} {k : Key} (r : Rep K W d v) (e : keyD d = some k) : v = kV k := by
  cases d with
  | int i =>
    cases (show some (Sum.inl i) = some k from e)
    exact r
  | str s =>
    cases (show some (Sum.inr s) = some k from e)
    exact r
  | _ => cases (show none = some k from e)
end

/-! ### in, not in -/
def flatD : D → Bool
  | .non | .bl _ | .int _ | .str _ => true
  | _ => false
def feq : D → D → Bool
  | .non, .non => true
  | .bl a, .bl b => a == b
  | .bl a, .int b => (if a then 1 else 0) == b
  | .int a, .bl b => a == (if b then 1 else 0)
  | .int a, .int b => a == b
  | .str a, .str b => a == b
  | _, _ => false
section
variable {K : PySem.W.Frag} {mg : Str → Option Value} {W : Wd} {A : AH} {H : Hp}
theorem flat_at {d : D} {v : V} (r : Rep K W d v) (f : flatD d = true) : flatV v = true := by
  cases d <;> first
    | (cases r; rfl)
    | cases (show false = true from f)
theorem feq_at {d e : D} {v u : V} (r : Rep K W d v) (q : Rep K W e u) (f : flatD d = true) (g : flatD e = true) : eqV v u = feq d e := by
  cases d <;> first
    | cases (show false = true from f)
    | (cases e <;> first
        | cases (show false = true from g)
        | (cases r
           cases q
           rfl))
theorem flats_at : ∀ {ds : List D} {vs : List V}, Reps K W ds vs → ds.all flatD = true → vs.all flatV = true
  | [], _, r, _ => by
    cases (show _ = [] from r)
    rfl
  | d :: ds, _, r, f => by
    obtain ⟨v, r', rfl, h1, h2⟩ := r
    simp only [List.all_cons, Bool.and_eq_true] at f ⊢
    exact ⟨flat_at h1 f.1, flats_at h2 f.2⟩
theorem inV_at {d : D} {v : V} (r : Rep K W d v) (f : flatD d = true) : ∀ {ds : List D} {vs : List V}, Reps K W ds vs → ds.all flatD = true → inV v vs = ds.any fun y => feq y d
  | [], _, r', _ => by
    cases (show _ = [] from r')
    rfl
  | e :: ds, _, r', g => by
    obtain ⟨u, r2, rfl, h1, h2⟩ := r'
    simp only [List.all_cons, Bool.and_eq_true] at g
    have := inV_at r f h2 g.2
    unfold inV at this ⊢
    simp only [List.any_cons, this, feq_at h1 r g.1 f]
end
def itemsD (A : AH) : D → Option (List D)
  | .tup ds => some ds
  | d => seqL A d
def inB (x y : D) (A : AH) : Option Bool := match x, y with
  | .str s, .str t => some (!(Builtin.Str.occurrences t s 0 t.length 1).isEmpty)
  | x, y => match dctD A y with
    | some kvs => (keyD x).map fun k => (lkK kvs k).isSome
    | none => match itemsD A y with
      | some ds => if (flatD x && ds.all flatD) = true then some (ds.any fun z => feq z x) else
          match seqL A y, pyOf 12 A x, pyOf 12 A y with
          | some _, some p, some (.list qs) => if SeqAt.shaped p && SeqAt.shaped (.list qs) then some (qs.any fun z => PyData.eqv z p) else none
          | _, _, _ => none
      | none => none
def inD (x y : D) (A : AH) : R D := match inB x y A with
  | some b => .ok (.bl b) A
  | none => .bad
def ninD (x y : D) (A : AH) : R D := match inB x y A with
  | some b => .ok (.bl (!b)) A
  | none => .bad
def rInDct (neg : Bool) : R2 := fun x y H Q => ∃ a o, y = .ref a ∧ DGet H a x o ∧ Q (.bl (if neg then !o.isSome else o.isSome)) H
def rInAll (K : PySem.W.Frag) : R2 := fun x y H Q =>
  ((∃ i j, x = .str i ∧ y = .str j ∧ Q (.bl (!(Builtin.Str.occurrences j i 0 j.length 1).isEmpty)) H) ∨ rInDct false x y H Q) ∨ rIn K false x y H Q ∨ rInD K x y H Q
def rNInAll (K : PySem.W.Frag) : R2 := fun x y H Q =>
  ((∃ i j, x = .str i ∧ y = .str j ∧ Q (.bl (!(!(Builtin.Str.occurrences j i 0 j.length 1).isEmpty))) H) ∨ rInDct true x y H Q) ∨ rIn K true x y H Q ∨ rNotInD K x y H Q
section
variable {X : Cx}
theorem op_in_dct (hu : X.A.units + 1 < cLine) : OpR X (compareOp .In) (rInDct false) := by
  intro pn st sg Hh xv yv vv uu QQ II rx ry hh
  obtain ⟨a, o, rfl, g, q⟩ := hh
  obtain rfl : uu = Value.ref a := ry
  exact d_in hu II g rx fun s3 I3 => ⟨.bl o.isSome, Hh, I3, rfl, q⟩
theorem op_nin_dct (hu : X.A.units + 1 < cLine) : OpR X (compareOp .NotIn) (rInDct true) := by
  intro pn st sg Hh xv yv vv uu QQ II rx ry hh
  obtain ⟨a, o, rfl, g, q⟩ := hh
  obtain rfl : uu = Value.ref a := ry
  exact d_notIn hu II g rx fun s3 I3 => ⟨.bl (!o.isSome), Hh, I3, rfl, q⟩
theorem room_u1 {k : Nat} {B : Around} (r : Room k B) : B.units + 1 < cLine := by have := r.un; omega
theorem room_u65 {k : Nat} {B : Around} (r : Room k B) : B.units + 65 < cLine := by have := r.un; omega
theorem oIn {k : Nat} (hr : Room k X.A) : OpR X (compareOp .In) (rInAll X.K) := (op_in_str.or (op_in_dct (room_u1 hr))).or (op_in_seq.or (op_inD (room_u65 hr)))
theorem oNIn {k : Nat} (hr : Room k X.A) : OpR X (compareOp .NotIn) (rNInAll X.K) := (op_notin_str.or (op_nin_dct (room_u1 hr))).or (op_notIn_seq.or (op_notInD (room_u65 hr)))
end
section
variable {K : PySem.W.Frag} {mg : Str → Option Value} {W : Wd} {A : AH} {H : Hp}
theorem itemsD_at (k : Ok K mg W A H) {d : D} {v : V} (r : Rep K W d v) {ds : List D} (e : itemsD A d = some ds) : ∃ a xs, v = .ref a ∧ (SqL K H a xs ∨ SqT K H a xs) ∧ Reps K W ds xs := by
  cases d with
  | tup es =>
    cases (show some es = some ds from e)
    obtain ⟨a, xs, h1, h2, h3⟩ := tup_at k r
    exact ⟨a, xs, h1, .inr h2, h3⟩
  | _ =>
    obtain ⟨a, xs, h1, h2, h3⟩ := seqL_at k r e
    exact ⟨a, xs, h1, .inl h2, h3⟩
theorem inB_at (k : Ok K mg W A H) {d e : D} {x y : V} (rx : Rep K W d x) (ry : Rep K W e y) {b : Bool} (h : inB d e A = some b) :
    (∃ i j, x = .str i ∧ y = .str j ∧ b = (!(Builtin.Str.occurrences j i 0 j.length 1).isEmpty)) ∨ (∃ a o, y = .ref a ∧ DGet H a x o ∧ b = o.isSome) ∨
      (∃ p xs, y = .ref p ∧ (SqL K H p xs ∨ SqT K H p xs) ∧ flatV x = true ∧ xs.all flatV = true ∧ b = inV x xs) ∨
        ∃ d ds, Dp K H x d ∧ Dp K H y (.list ds) ∧ SeqAt.shaped d = true ∧ SeqAt.shaped (.list ds) = true ∧ b = ds.any fun z => PyData.eqv z d := by
  unfold inB at h
  split at h
  · cases h
    exact .inl ⟨_, _, rx, ry, rfl⟩
  · split at h
    · rename_i kvs e1
      obtain ⟨kk, e2, e3⟩ := Option.map_eq_some_iff.mp h
      obtain ⟨a, vs, rfl, h1, h2⟩ := dctD_at k ry e1
      refine .inr (.inl ⟨a, valV vs kk, rfl, ?_, ?_⟩)
      · rw [keyD_at rx e2]
        exact .k h1
      · rw [h2.isSome, e3]
    · split at h
      · rename_i ds e1
        obtain ⟨a, xs, rfl, h1, h2⟩ := itemsD_at k ry e1
        split at h
        · rename_i f
          cases h
          have f' := Bool.and_eq_true_iff.mp f
          exact .inr (.inr (.inl ⟨a, xs, rfl, h1, flat_at rx f'.1, flats_at h2 f'.2, (inV_at rx f'.1 h2 f'.2).symm⟩))
        · split at h
          · rename_i es p qs _ e4 e5
            split at h
            · rename_i z
              cases h
              have z' := Bool.and_eq_true_iff.mp z
              exact .inr (.inr (.inr ⟨p, qs, dp_of k _ _ _ _ e4 rx, dp_of k _ _ _ _ e5 ry, z'.1, z'.2, rfl⟩))
            · cases h
          · cases h
      · cases h
theorem oInS : OpS K mg (rInAll K) inD := fun W A H E Q d e x y k rx ry h => by
  unfold inD at h
  split at h
  · rename_i b hb
    rcases inB_at k rx ry hb with ⟨i, j, e1, e2, rfl⟩ | ⟨a, o, e1, g, rfl⟩ | ⟨p, xs, e1, h1, h2, h3, rfl⟩ | ⟨p, ds, h1, h2, h3, h4, rfl⟩
    · exact .inl (.inl ⟨i, j, e1, e2, h.ok_at k rfl⟩)
    · exact .inl (.inr ⟨a, o, e1, g, h.ok_at k rfl⟩)
    · exact .inr (.inl ⟨p, xs, e1, h1, h2, h3, h.ok_at k rfl⟩)
    · exact .inr (.inr ⟨p, ds, h1, h2, h3, h4, h.ok_at k rfl⟩)
  · exact h.elim
theorem oNInS : OpS K mg (rNInAll K) ninD := fun W A H E Q d e x y k rx ry h => by
  unfold ninD at h
  split at h
  · rename_i b hb
    rcases inB_at k rx ry hb with ⟨i, j, e1, e2, rfl⟩ | ⟨a, o, e1, g, rfl⟩ | ⟨p, xs, e1, h1, h2, h3, rfl⟩ | ⟨p, ds, h1, h2, h3, h4, rfl⟩
    · exact .inl (.inl ⟨i, j, e1, e2, h.ok_at k rfl⟩)
    · exact .inl (.inr ⟨a, o, e1, g, h.ok_at k rfl⟩)
    · exact .inr (.inl ⟨p, xs, e1, h1, h2, h3, h.ok_at k rfl⟩)
    · exact .inr (.inr ⟨p, ds, h1, h2, h3, h4, h.ok_at k rfl⟩)
  · exact h.elim
end

/-! ### subscripts -/
def ixD : D → D → AH → R D
  | .str z, .int i, A => match (if z.length ≤ 16777216 then atI z.cps.toList i else none) with
    | some c => .ok (.str ⟨#[c]⟩) A
    | none => .bad
  | x, y, A => match dctD A x with
    | some kvs => match (keyD y).bind (lkK kvs) with
      | some d => .ok d A
      | none => .bad
    | none => match itemsD A x, y with
      | some ds, .int i => match atI ds i with
        | some d => .ok d A
        | none => .bad
      | _, _ => .bad
def rIxDct : R2 := fun x y H Q => ∃ a v, x = .ref a ∧ DGet H a y (some v) ∧ Q v H
def rIxU (K : PySem.W.Frag) : R2 := fun x y H Q => rIxDct x y H Q ∨ rIx K x y H Q
section
variable {X : Cx}
theorem ix_dct (hu : X.A.units + 1 < cLine) : IxR X rIxDct := by
  intro val sl pn st sg Hh xv yv vv uu QQ II rx ry hh hs
  obtain ⟨a, z, rfl, g, q⟩ := hh
  obtain rfl : vv = Value.ref a := rx
  have hT := dict_typeIs II g
  unfold subscriptTail
  refine wpAny_bind ?_
  rw [getitemInPython_of_ne hT.not_modules]
  refine wpAny_bind (wpAny_specialOf hT PySem.F.slot_dict_getitem.lookup ?_)
  have fin : wpAny (model X.prog X.w) X.A (subscripted sl false (.ref a) uu) (fun r s3 => wpAny (model X.prog X.w) X.A (letTemporaryGo val (.ref a) r >>= fun _ => pure r) (EP X pn sg QQ) X.xe s3) X.xe st := by
    rw [hs]
    exact wpAny_operating (wpAny_mono (d_getItem (Q := EP X pn sg QQ) hu II g ry fun w2 s3 I3 rw2 => ⟨z, Hh, I3, rw2, q⟩) (fun r s3 h3 => wpAny_bind (wpAny_letTemporaryGo (wpAny_pure h3))) fun _ _ x => x)
  first
    | exact wpAny_pure (wpAny_bind fin)
    | exact wpAny_bind (wpAny_pure (wpAny_bind fin))
    | exact wpAny_bind fin
theorem oIx {k : Nat} (hr : Room k X.A) : IxR X (rIxU X.K) := (ix_dct (room_u1 hr)).or ix_seq
end
section
variable {K : PySem.W.Frag} {mg : Str → Option Value} {W : Wd} {A : AH} {H : Hp}
theorem Reps.atI {ds : List D} {xs : List V} {i : Int} {d : D} (r : Reps K W ds xs) (e : L2.atI ds i = some d) : ∃ v, L2.atI xs i = some v ∧ Rep K W d v := by
  unfold L2.atI at e ⊢
  rw [r.length]
  cases h : ixN ds.length i with
  | none =>
    rw [h] at e
    cases e
  | some j =>
    rw [h] at e
    exact r.get e
theorem oIxS : OpS K mg (rIxU K) ixD := fun W A H E Q d e x y k rx ry h => by
  unfold ixD at h
  split at h
  · split at h
    · rename_i c hc
      split at hc
      · rename_i z
        exact .inr (.inr (.inr ⟨_, _, c, rx, ry, sz_of z, hc, h.ok_at k rfl⟩))
      · cases hc
    · exact h.elim
  · split at h
    · rename_i kvs e1
      split at h
      · rename_i d' e2
        obtain ⟨kk, e3, e4⟩ := Option.bind_eq_some_iff.mp e2
        obtain ⟨a, vs, rfl, h1, h2⟩ := dctD_at k rx e1
        obtain ⟨v, h3, h4⟩ := h2.get e4
        refine .inl ⟨a, v, rfl, ?_, h.ok_at k h4⟩
        rw [keyD_at ry e3, ← h3]
        exact .k h1
      · exact h.elim
    · split at h
      · rename_i e1 _
        split at h
        · rename_i e2
          obtain ⟨a, xs, rfl, h1, h2⟩ := itemsD_at k rx e1
          obtain ⟨v, h3, h4⟩ := h2.atI e2
          rcases h1 with h1 | h1
          · exact .inr (.inl ⟨a, xs, _, v, rfl, ry, h1, h3, h.ok_at k h4⟩)
          · exact .inr (.inr (.inl ⟨a, xs, _, v, rfl, ry, h1, h3, h.ok_at k h4⟩))
        · exact h.elim
      · exact h.elim
end

/-! ### slices -/
def cutD (ds : List D) (lo hi : Option Int) : List D := (ds.drop (HT.sIx ds.length 0 lo)).take (HT.sIx ds.length ds.length hi - HT.sIx ds.length 0 lo)
def slD (x : D) (lo hi : Option Int) (A : AH) : R D := match x with
  | .str z => if z.length ≤ 16777216 then .ok (.str (cutS z lo hi)) A else .bad
  | .tup ds => .ok (.tup (cutD ds lo hi)) A
  | x => match seqL A x with
    | some ds => .ok (.lst (cutD ds lo hi)) A
    | none => .bad
def rSlU (K : PySem.W.Frag) : V → Option Int → Option Int → Hp → VK → Prop := fun x lo hi H Q => rSlS x lo hi H Q ∨ rSlA K x lo hi H Q ∨ rSlL K x lo hi H Q
theorem oSl {X : Cx} : L2.SlR X (rSlU X.K) := sl_str.or (sl_tupA.or sl_list)
section
variable {K : PySem.W.Frag} {mg : Str → Option Value} {W : Wd} {A : AH} {H : Hp}
theorem Reps.cut {ds : List D} {xs : List V} (r : Reps K W ds xs) (lo hi : Option Int) : Reps K W (cutD ds lo hi) (cutV xs lo hi) := by
  unfold cutD cutV
  rw [r.length]
  exact (r.drop _).take _
theorem oSlS {E : XK} {Q : VK} {d : D} {x : V} {lo hi : Option Int} (k : Ok K mg W A H) (rx : Rep K W d x) (h : Post K mg (Rep K) W H E Q (slD d lo hi A)) : rSlU K x lo hi H Q := by
  unfold slD at h
  split at h
  · split at h
    · rename_i z
      exact .inl ⟨_, rx, sz_of z, h.ok_at k rfl⟩
    · exact h.elim
  · rename_i ds
    obtain ⟨a, xs, rfl, h1, h2⟩ := tup_at k rx
    refine .inr (.inl ⟨a, xs, rfl, h1, fun q => ?_, fun _ p hp => post_tup k h (h2.cut lo hi) hp⟩)
    have e : cutD ds lo hi = ds := by
      unfold cutD
      rw [h2.length] at q
      rw [q.1, q.2]
      simp
    rw [e] at h
    exact h.ok_at k rx
  · split at h
    · rename_i ds e1
      obtain ⟨a, xs, rfl, h1, h2⟩ := seqL_at k rx e1
      exact .inr (.inr ⟨a, xs, rfl, h1, fun p hp => post_lst k h (h2.cut lo hi) hp⟩)
    · exact h.elim
end
end Tg

set_option Elab.async false
set_option linter.all false
set_option maxRecDepth 100000
set_option maxHeartbeats 1000000
/-! TgCall: subscripts, slices, displays, fields, calls as expressions. -/
namespace Tg
open PySem PySem.Spec PyProof.Rows L2

/-! ### a cell beside is taken in -/
def delH (H : Hp) (p : Addr) : Hp := fun b => if b = p then none else H b
theorem delH_same {H : Hp} {p : Addr} : delH H p p = none := if_pos rfl
theorem delH_ne {H : Hp} {p b : Addr} (h : b ≠ p) : delH H p b = H b := if_neg h
theorem upd_delH {H : Hp} {p : Addr} {o : HO} : upd (delH H p) p o = upd H p o := by
  funext b
  by_cases h : b = p
  · rw [h, upd_same, upd_same]
  · rw [upd_ne h, upd_ne h, delH_ne h]
section
variable {K : PySem.W.Frag} {mg : Str → Option Value} {W0 W1 : Wd} {A0 A1 : AH} {H0 H1 : Hp} {p : Addr} {u : HO}
theorem Ok.undo (hp : H0 p = none) (k0 : Ok K mg W0 A0 H0) (e : Ext W0 (upd H0 p u) W1 H1) (k1 : Ok K mg W1 A1 H1) :
    p ∉ W1.m ∧ W1.F p = none ∧ Ok K mg W1 A1 (delH H1 p) ∧ Ext W0 H0 W1 (delH H1 p) ∧ H1 p = some u := by
  have nm := k0.notm hp
  have nF := k0.notF hp
  have nm1 : p ∉ W1.m := fun q => by
    have z := e.fm p q nm
    rw [upd_same] at z
    cases z
  have nF1 : W1.F p = none := by
    cases q : W1.F p with
    | none => rfl
    | some o =>
      have z := e.fF p o q nF
      rw [upd_same] at z
      cases z
  refine ⟨nm1, nF1, ⟨fun a o h => ?_, k1.sep, k1.nd, k1.len, fun n a o h1 h2 => ?_⟩, ⟨e.le, fun a o h n => ?_, fun a h => ?_, fun a o h n => ?_, fun a h n => ?_⟩, e.out p u upd_same nm⟩
  · have z : a ≠ p := fun q => by
      rw [q, nF1] at h
      cases h
    rw [delH_ne z]
    exact k1.frz a o h
  · have z : a ≠ p := fun q => nm1 (q ▸ List.mem_of_getElem? h1)
    rw [delH_ne z]
    exact k1.obj n a o h1 h2
  · have z : a ≠ p := fun q => by
      rw [q, hp] at h
      cases h
    rw [delH_ne z]
    exact e.out a o (by rw [upd_ne z]; exact h) n
  · by_cases q : a = p
    · rw [q]
      exact hp
    · rw [delH_ne q] at h
      have z := e.dom a h
      rw [upd_ne q] at z
      exact z
  · have z := e.fF a o h n
    by_cases q : a = p
    · rw [q]
      exact hp
    · rw [upd_ne q] at z
      exact z
  · have z := e.fm a h n
    by_cases q : a = p
    · rw [q]
      exact hp
    · rw [upd_ne q] at z
      exact z
end

/-! ### displays -/
def mTup (m : MA) : ME := fun s A => (m s A).bind fun ds A1 => if ds.length ≤ 16777216 then .ok (.tup ds) A1 else .bad
def mLst (m : MA) : ME := fun s A => (m s A).bind fun ds A1 => if ds.length ≤ 16777216 then .ok (.lst ds) A1 else .bad
/-- a list that will change -/
def mLstN (m : MA) : ME := fun s A => (m s A).bind fun ds A1 => if ds.length ≤ 16777216 then .ok (.ref A1.length) (A1 ++ [.lst ds]) else .bad
section
variable {X : Cx} {Wx : WX} {e : Expr} {es : List Expr} {te : TE} {t : TA} {me : ME} {m : MA} {pos : Pos}
theorem stup {j : Nat} (h : SA X Wx es t m) : SE X Wx (.Tuple es j pos) (tTup t) (mTup m) :=
  ⟨pe_tup h.pa, fun W σ s A H Q k sr z => h.sim W σ s A H _ k sr (z.bind fun ds A1 vs W1 H1 e1 k1 r1 h1 => by
    by_cases q : ds.length ≤ 16777216
    · rw [if_pos q] at h1
      exact ⟨by rw [r1.length]; exact sz_of q, fun p hp => post_tup k1 h1 r1 hp⟩
    · rw [if_neg q] at h1
      exact h1.elim)⟩
theorem slst (h : SA X Wx es t m) : SE X Wx (.List es pos) (tLst t) (mLst m) :=
  ⟨pe_lst h.pa, fun W σ s A H Q k sr z => h.sim W σ s A H _ k sr (z.bind fun ds A1 vs W1 H1 e1 k1 r1 h1 => by
    by_cases q : ds.length ≤ 16777216
    · rw [if_pos q] at h1
      exact ⟨by rw [r1.length]; exact sz_of q, fun p hp => post_lst k1 h1 r1 hp⟩
    · rw [if_neg q] at h1
      exact h1.elim)⟩
theorem slstN (h : SA X Wx es t m) : SE X Wx (.List es pos) (tLst t) (mLstN m) :=
  ⟨pe_lst h.pa, fun W σ s A H Q k sr z => h.sim W σ s A H _ k sr (z.bind fun ds A1 vs W1 H1 e1 k1 r1 h1 => by
    by_cases q : ds.length ≤ 16777216
    · rw [if_pos q] at h1
      exact ⟨by rw [r1.length]; exact sz_of q, fun p hp => post_new k1 h1 r1 hp⟩
    · rw [if_neg q] at h1
      exact h1.elim)⟩
end

/-! ### a[b], a[b:c] -/
def mPart (m : ME) : Sl → AH → R (Option Int) := fun s A => (m s A).bind fun x A1 => match x with
  | .int i => .ok (some i) A1
  | _ => .bad
def mNoPart : Sl → AH → R (Option Int) := fun _ A => .ok none A
def mSl (m : ME) (lo hi : Sl → AH → R (Option Int)) : ME := fun s A => (m s A).bind fun x A1 => (lo s A1).bind fun l A2 => (hi s A2).bind fun u A3 => slD x l u A3
section
variable {X : Cx} {Wx : WX} {a b e : Expr} {lo hi : Option Expr} {ta tb te : TE} {tl th : TO} {ma mb me : ME} {ml mh : Sl → AH → R (Option Int)} {pos p2 : Pos}
theorem six {k : Nat} (hr : Room k X.A) (ha : SE X Wx a ta ma) (hb : SE X Wx b tb mb) (hs : PlainIx b := by intro _ _; rfl) : SE X Wx (.Subscript a b pos) (tOp (rIxU X.K) ta tb) (mBin ixD ma mb) :=
  ⟨pe_ix (oIx hr) ha.pe hb.pe hs, sim_bin oIxS ha.sim hb.sim⟩
theorem onone : SO X Wx none tNoPart mNoPart := ⟨po_none, fun W σ s A H Q k sr h => h.ok_at k rfl⟩
theorem osome (h : SE X Wx e te me) : SO X Wx (some e) (tPart te) (mPart me) :=
  ⟨po_some h.pe, fun W σ s A H Q k sr z => h.sim W σ s A H _ k sr (z.bind fun x A1 v W1 H1 e1 k1 r1 h1 => by
    cases x with
    | int i => exact ⟨i, r1, h1.ok_at k1 rfl⟩
    | _ => exact h1.elim)⟩
theorem ssl (h : SE X Wx e te me) (hl : SO X Wx lo tl ml) (hh : SO X Wx hi th mh) : SE X Wx (.Subscript e (.Slice lo hi none p2) pos) (tSl (rSlU X.K) te tl th) (mSl me ml mh) :=
  ⟨pe_slice oSl h.pe hl.po hh.po, fun W σ s A H Q k sr z => h.sim W σ s A H _ k sr (z.bind fun x A1 v W1 H1 e1 k1 r1 h1 =>
    hl.sim W1 σ s A1 H1 _ k1 (sr.le e1.le) (h1.bind fun l A2 l' W2 H2 e2 k2 r2 h2 =>
      hh.sim W2 σ s A2 H2 _ k2 (sr.le (e1.trans e2).le) (h2.bind fun u A3 u' W3 H3 e3 k3 r3 h3 => by
        cases r2
        cases r3
        exact oSlS k3 (r1.le (e2.trans e3).le) h3)))⟩
end

/-! ### o.f -/
def Fds (K : PySem.W.Frag) (mg : Str → Option Value) (cs : List Str) (f : Str) : Prop := ∀ c ∈ cs, Cls K (clA mg c) ∧ NoAttr K (clA mg c) f
def fldD (cs : List Str) (f : Str) : D → AH → R D
  | .ref n, A => match A[n]? with
    | some (.ins c fs) => if c ∈ cs then match fs.lookup f with
      | some d => .ok d A
      | none => .bad
      else .bad
    | _ => .bad
  | _, _ => .bad
def mFld (cs : List Str) (f : Str) (m : ME) : ME := fun s A => (m s A).bind fun x A1 => fldD cs f x A1
section
variable {K : PySem.W.Frag} {mg : Str → Option Value} {W : Wd} {A : AH} {H : Hp}
theorem fld_at {f : Str} {d : D} : ∀ {fs : List (Str × D)} {vs : List (Str × V)}, vs.map (·.1) = fs.map (·.1) → Reps K W (fs.map (·.2)) (vs.map (·.2)) → fs.lookup f = some d → ∃ v, vs.lookup f = some v ∧ Rep K W d v
  | [], _, _, _, e => by cases e
  | (g, x) :: fs, vs, h1, h2, e => by
    cases vs with
    | nil => cases h1
    | cons q vs =>
      obtain ⟨qk, qv⟩ := q
      obtain ⟨v, r', e2, h3, h4⟩ := h2
      simp only [List.map_cons, List.cons.injEq] at h1 e2
      obtain ⟨e3, e4⟩ := h1
      obtain ⟨e5, e6⟩ := e2
      subst e3 e5 e6
      simp only [List.lookup] at e ⊢
      cases hb : (f == qk) with
      | true =>
        rw [hb] at e
        cases e
        exact ⟨_, rfl, h3⟩
      | false =>
        rw [hb] at e
        exact fld_at e4 h4 e
theorem fldn_at {f : Str} : ∀ {fs : List (Str × D)} {vs : List (Str × V)}, vs.map (·.1) = fs.map (·.1) → fs.lookup f = none → vs.lookup f = none
  | [], vs, h1, _ => by
    cases vs with
    | nil => rfl
    | cons q vs => cases h1
  | (g, x) :: fs, vs, h1, e => by
    cases vs with
    | nil => cases h1
    | cons q vs =>
      obtain ⟨qk, qv⟩ := q
      simp only [List.map_cons, List.cons.injEq] at h1
      obtain ⟨e3, e4⟩ := h1
      subst e3
      simp only [List.lookup] at e ⊢
      cases hb : (f == qk) with
      | true =>
        rw [hb] at e
        cases e
      | false =>
        rw [hb] at e
        exact fldn_at e4 e
def putFD (f : Str) (d : D) : List (Str × D) → List (Str × D)
  | [] => [(f, d)]
  | (g, x) :: r => if g = f then (g, d) :: r else (g, x) :: putFD f d r
theorem putFD_at {f : Str} {d : D} {v : V} (r : Rep K W d v) : ∀ {fs : List (Str × D)} {vs : List (Str × V)}, vs.map (·.1) = fs.map (·.1) → Reps K W (fs.map (·.2)) (vs.map (·.2)) →
    (putF f v vs).map (·.1) = (putFD f d fs).map (·.1) ∧ Reps K W ((putFD f d fs).map (·.2)) ((putF f v vs).map (·.2))
  | [], vs, h1, h2 => by
    cases vs with
    | nil => exact ⟨rfl, Reps.one r⟩
    | cons q vs => cases h1
  | (g, x) :: fs, vs, h1, h2 => by
    cases vs with
    | nil => cases h1
    | cons q vs =>
      obtain ⟨qk, qv⟩ := q
      obtain ⟨u, r', e2, h3, h4⟩ := h2
      simp only [List.map_cons, List.cons.injEq] at h1 e2
      obtain ⟨e3, e4⟩ := h1
      obtain ⟨e5, e6⟩ := e2
      subst e3 e5 e6
      obtain ⟨i1, i2⟩ := putFD_at (f := f) r e4 h4
      unfold putF putFD
      by_cases hq : qk = f
      · rw [if_pos hq, if_pos hq]
        exact ⟨by simp only [List.map_cons, e4], Reps.cons r h4⟩
      · rw [if_neg hq, if_neg hq]
        exact ⟨by simp only [List.map_cons, i1], Reps.cons h3 i2⟩
end
section
variable {X : Cx} {Wx : WX} {e : Expr} {te : TE} {me : ME} {pos : Pos}
theorem sfld {cs : List Str} {f : Str} (hc : Fds X.K X.mg cs f) (h : SE X Wx e te me) (hb : attributeBase e f X.env (eval e X.env) = eval e X.env := by rfl) : SE X Wx (.Attribute e f pos) (tFld X.K te f) (mFld cs f me) :=
  ⟨pe_fld h.pe hb, fun W σ s A H Q k sr z => h.sim W σ s A H _ k sr (z.bind fun x A1 v W1 H1 e1 k1 r1 h1 => by
    unfold fldD at h1
    split at h1
    · split at h1
      · rename_i n c fs q
        split at h1
        · rename_i hm
          split at h1
          · rename_i d hd
            obtain ⟨a, rfl, ha⟩ := r1
            obtain ⟨dx, vs, hx, hk, rr⟩ := k1.obj _ a _ ha q
            obtain ⟨v, h3, h4⟩ := fld_at hk rr hd
            exact ⟨a, _, dx, vs, v, rfl, hx, (hc c hm).1, (hc c hm).2, h3, h1.ok_at k1 h4⟩
          · exact h1.elim
        · exact h1.elim
      · exact h1.elim
    · exact h1.elim)⟩
end

/-! ### promises of defs -/
def spM (K : PySem.W.Frag) (mg : Str → Option Value) (g : List D → AH → R D) : Sp := fun vs H Q E => ∃ (W : Wd) (ds : List D) (A : AH), Ok K mg W A H ∧ Reps K W ds vs ∧ Post K mg (Rep K) W H E Q (g ds A)
/-- the def that the module's name x holds does as g says -/
def Dfn (P : Program) (w : World) (K : PySem.W.Frag) (mg : Str → Option Value) (base : Heap) (x : Str) (k : Nat) (g : List D → AH → R D) : Prop :=
  ∃ (f : Addr) (fd : FuncData) (ps : List Str), FnOk P w K mg base (L2.CX P w) k f fd ps (spM K mg g) ∧ mg x = some (.ref f) ∧ PySem.W.keepIn K (.ref f) = true ∧ Binds K fd ps []
/-- the method m of the class named c does as g says -/
def Mtd (P : Program) (w : World) (K : PySem.W.Frag) (mg : Str → Option Value) (base : Heap) (c m : Str) (k : Nat) (g : List D → AH → R D) : Prop :=
  ∃ (f : Addr) (fd : FuncData) (ps : List Str), FnOk P w K mg base (L2.CX P w) k f fd ps (spM K mg g) ∧ Meth K (clA mg c) m f ∧ Binds K fd ps [] ∧ Cls K (clA mg c)
/-- the class named c can be made; its __init__ does as g says -/
def Mkr (P : Program) (w : World) (K : PySem.W.Frag) (mg : Str → Option Value) (base : Heap) (c : Str) (k : Nat) (g : List D → AH → R D) : Prop :=
  ∃ (C f : Addr) (fd : FuncData) (ps : List Str), FnOk P w K mg base (L2.CX P w) k f fd ps (spM K mg g) ∧ mg c = some (.ref C) ∧ Mk K C f ∧ Binds K fd ps []
def mCall (g : List D → AH → R D) (m : MA) : ME := fun s A => (m s A).bind fun ds A1 => g ds A1
def mMeth (c m : Str) (g : List D → AH → R D) (o : ME) (ma : MA) : ME := fun s A => (o s A).bind fun x A1 => match x with
  | .ref n => match A1[n]? with
    | some (.ins c' fs) => if c' = c ∧ fs.lookup m = none then (ma s A1).bind fun ds A2 => g (.ref n :: ds) A2 else .bad
    | _ => .bad
  | _ => .bad
def mMake (c : Str) (g : List D → AH → R D) (ma : MA) : ME := fun s A => (ma s A).bind fun ds A1 => (g (.ref A1.length :: ds) (A1 ++ [.ins c []])).bind fun r A2 => match r with
  | .non => .ok (.ref A1.length) A2
  | _ => .bad
abbrev WxF : WX := fun _ _ _ _ => False

section
variable {X : Cx} {Wx : WX} {e o : Expr} {es : List Expr} {to : TE} {t : TA} {mo : ME} {m : MA} {p pos apos : Pos} {x c mn : Str} {k j : Nat} {g : List D → AH → R D}
theorem sim_call {K : PySem.W.Frag} {mg : Str → Option Value} (h : SimA K mg Wx t m) : SimE K mg Wx (tCallS (spM K mg g) (WE Wx) t) (mCall g m) := fun W σ s A H Q k sr z =>
  h W σ s A H _ k sr (z.bind fun ds A1 vs W1 H1 e1 k1 r1 h1 => ⟨W1, ds, A1, k1, r1, h1⟩)
theorem scall (d : Dfn X.prog X.w X.K X.mg X.base x k g) (hr : Room j X.A) (hk : k ≤ j) (tk : Takes X Wx) (ha : SA X Wx (e :: es) t m) (hg : Gl X x := by rfl) (hdb : (x == ("__debug__" : Str)) = false := by decide)
    (he : starEach (e :: es) X.env = (false, eval e X.env) :: starEach es X.env := by rfl) (hpl : (backTo pos (starEach es X.env)).any (·.1) = false := by rfl) :
    SE X Wx (.Call (.Name x p) (e :: es) [] pos) (tCallS (spM X.K X.mg g) (WE Wx) t) (mCall g m) := by
  obtain ⟨f, fd, ps, F, hm, kp, hb⟩ := d
  exact ⟨pe_callS F (hr.mono hk) hg hm kp hb (fun σ => passAt tk σ) ha.pa hdb he hpl, sim_call ha.sim⟩
theorem pe_call0S {CX : CXT} {f : Addr} {fd : FuncData} {ps : List Str} {sp : Sp} {E : L2.St → XK} (F : FnOk X.prog X.w X.K X.mg X.base CX k f fd ps sp) (hr : Room k X.A) (hg : Gl X x) (hm : X.mg x = some (.ref f)) (hk : PySem.W.keepIn X.K (.ref f) = true)
    (hb : Binds X.K fd ps []) (hx : ∀ σ, PassesAt CX X σ (E σ)) (hdb : (x == ("__debug__" : Str)) = false := by decide) : PE X (.Call (.Name x p) [] [] pos) (tCallS sp E tNil) :=
  ⟨fun pn st sg Hh QQ II hh => wpAny_Call_Name_kw (ld_glob II hg hm (PySem.W.callWith_K0 II.kIn hk (run_fnS (us := []) F hr hb (hx sg) II .nil hh)) hdb)⟩
theorem scall0 (d : Dfn X.prog X.w X.K X.mg X.base x k g) (hr : Room j X.A) (hk : k ≤ j) (tk : Takes X Wx) (hg : Gl X x := by rfl) (hdb : (x == ("__debug__" : Str)) = false := by decide) :
    SE X Wx (.Call (.Name x p) [] [] pos) (tCallS (spM X.K X.mg g) (WE Wx) tNil) (mCall g mNil) := by
  obtain ⟨f, fd, ps, F, hm, kp, hb⟩ := d
  exact ⟨pe_call0S F (hr.mono hk) hg hm kp hb (fun σ => passAt tk σ) hdb, sim_call fun W σ s A H Q k sr h => h.ok_at k rfl⟩

/-- o.m(..), what is raised wished for at the slots -/
def tMethS (C : Addr) (m : Str) (sp : Sp) (E : L2.St → XK) (ta : TE) (t : TA) : TE := fun σ H Q => ta σ H fun x H1 => ∃ a dx fs, x = .ref a ∧ H1 a = some (.ins C dx fs) ∧ fs.lookup m = none ∧ t σ H1 fun vs H2 => sp (x :: vs) H2 Q (E σ)
theorem pe_methS1 {CX : CXT} {C f : Addr} {fd : FuncData} {ps : List Str} {sp : Sp} {E : L2.St → XK} {pl : Sem Bool} (he : PE X o to) (cl : Cls X.K C) (hm : Meth X.K C mn f) (F : FnOk X.prog X.w X.K X.mg X.base CX k f fd ps sp) (hr : Room k X.A)
    (hb : Binds X.K fd ps []) (hx : ∀ σ, PassesAt CX X σ (E σ)) (ha : PA X (e :: es) t)
    (hst : starEach (e :: es) X.env = (false, eval e X.env) :: starEach es X.env) (hpl : (backTo pos (starEach es X.env)).any (·.1) = false)
    (ht : eval (.Call (.Attribute o mn apos) (e :: es) [] pos) X.env = (do
      let ov ← eval o X.env
      standAt apos.atName
      let (f, first) ← holding [ov] (getMethod ov mn pl)
      callWith pos f first (backTo pos (starEach (e :: es) X.env)) (backToKw pos (keywordEach [] X.env)))) :
    PE X (.Call (.Attribute o mn apos) (e :: es) [] pos) (tMethS C mn sp E to t) := by
  refine ⟨fun pn st sg Hh QQ II hh => ?_⟩
  refine PySem.W.methodCall_KW (pl := pl) (thn (he.run pn st sg Hh _ II hh) fun u s1 ⟨x, H1, I1, rx, a, dx, fs, ex, ea, l, q⟩ => ?_) ht
  subst ex
  obtain rfl : u = Value.ref a := rx
  refine getmeth_ok I1 ea cl hm l ?_
  refine PySem.W.callWith_K (first := [.ref a]) (h₀ := X.base) II.ok.mod.kin hm.kp (thn (ha.run pos pn s1 sg H1 _ I1 q) fun us s2 ⟨vs, H2, I2, r, q2⟩ => ⟨I2.kIn, ?_⟩) hst hpl
  exact run_fnS (us := .ref a :: us) (vs := .ref a :: vs) F hr hb (hx sg) I2 (.cons rfl r) q2
theorem pe_methS0 {CX : CXT} {C f : Addr} {fd : FuncData} {ps : List Str} {sp : Sp} {E : L2.St → XK} {pl : Sem Bool} (he : PE X o to) (cl : Cls X.K C) (hm : Meth X.K C mn f) (F : FnOk X.prog X.w X.K X.mg X.base CX k f fd ps sp) (hr : Room k X.A)
    (hb : Binds X.K fd ps []) (hx : ∀ σ, PassesAt CX X σ (E σ))
    (ht : eval (.Call (.Attribute o mn apos) [] [] pos) X.env = (do
      let ov ← eval o X.env
      standAt apos.atName
      let (f, first) ← holding [ov] (getMethod ov mn pl)
      callWith pos f first (backTo pos (starEach [] X.env)) (backToKw pos (keywordEach [] X.env)))) :
    PE X (.Call (.Attribute o mn apos) [] [] pos) (tMethS C mn sp E to tNil) := by
  refine ⟨fun pn st sg Hh QQ II hh => ?_⟩
  refine PySem.W.methodCall_KW (pl := pl) (thn (he.run pn st sg Hh _ II hh) fun u s1 ⟨x, H1, I1, rx, a, dx, fs, ex, ea, l, q⟩ => ?_) ht
  subst ex
  obtain rfl : u = Value.ref a := rx
  refine getmeth_ok I1 ea cl hm l ?_
  exact PySem.W.callWith_K0 (first := [.ref a]) I1.kIn hm.kp (run_fnS (us := [.ref a]) (vs := [.ref a]) F hr hb (hx sg) I1 (.cons rfl .nil) q)
theorem sim_meth {K : PySem.W.Frag} {mg : Str → Option Value} (ho : SimE K mg Wx to mo) (h : SimA K mg Wx t m) : SimE K mg Wx (tMethS (clA mg c) mn (spM K mg g) (WE Wx) to t) (mMeth c mn g mo m) := fun W σ s A H Q k sr z =>
  ho W σ s A H _ k sr (z.bind fun x A1 v W1 H1 e1 k1 r1 h1 => by
    split at h1
    · rename_i n
      split at h1
      · rename_i c' fs q
        split at h1
        · rename_i hm
          obtain ⟨a, rfl, ha⟩ := r1
          obtain ⟨dx, vs, hx, hk, rr⟩ := k1.obj n a _ ha q
          rw [hm.1] at hx
          refine ⟨a, dx, vs, rfl, hx, fldn_at hk hm.2, h W1 σ s A1 H1 _ k1 (sr.le e1.le) (h1.bind fun ds A2 us W2 H2 e2 k2 r2 h2 => ⟨W2, _, A2, k2, Reps.cons (d := .ref n) ⟨a, rfl, e2.le.at ha⟩ r2, h2⟩)⟩
        · exact h1.elim
      · exact h1.elim
    · exact h1.elim)
theorem smeth {pl : Sem Bool} (d : Mtd X.prog X.w X.K X.mg X.base c mn k g) (hr : Room j X.A) (hk : k ≤ j) (tk : Takes X Wx) (ho : SE X Wx o to mo) (ha : SA X Wx (e :: es) t m)
    (hst : starEach (e :: es) X.env = (false, eval e X.env) :: starEach es X.env := by rfl) (hpl : (backTo pos (starEach es X.env)).any (·.1) = false := by rfl)
    (ht : eval (.Call (.Attribute o mn apos) (e :: es) [] pos) X.env = (do
      let ov ← eval o X.env
      standAt apos.atName
      let (f, first) ← holding [ov] (getMethod ov mn pl)
      callWith pos f first (backTo pos (starEach (e :: es) X.env)) (backToKw pos (keywordEach [] X.env))) := by rfl) :
    SE X Wx (.Call (.Attribute o mn apos) (e :: es) [] pos) (tMethS (clA X.mg c) mn (spM X.K X.mg g) (WE Wx) to t) (mMeth c mn g mo m) := by
  obtain ⟨f, fd, ps, F, hm, hb, cl⟩ := d
  exact ⟨pe_methS1 ho.pe cl hm F (hr.mono hk) hb (fun σ => passAt tk σ) ha.pa hst hpl ht, sim_meth ho.sim ha.sim⟩
theorem smeth0 {pl : Sem Bool} (d : Mtd X.prog X.w X.K X.mg X.base c mn k g) (hr : Room j X.A) (hk : k ≤ j) (tk : Takes X Wx) (ho : SE X Wx o to mo)
    (ht : eval (.Call (.Attribute o mn apos) [] [] pos) X.env = (do
      let ov ← eval o X.env
      standAt apos.atName
      let (f, first) ← holding [ov] (getMethod ov mn pl)
      callWith pos f first (backTo pos (starEach [] X.env)) (backToKw pos (keywordEach [] X.env))) := by rfl) :
    SE X Wx (.Call (.Attribute o mn apos) [] [] pos) (tMethS (clA X.mg c) mn (spM X.K X.mg g) (WE Wx) to tNil) (mMeth c mn g mo mNil) := by
  obtain ⟨f, fd, ps, F, hm, hb, cl⟩ := d
  exact ⟨pe_methS0 ho.pe cl hm F (hr.mono hk) hb (fun σ => passAt tk σ) ht, sim_meth ho.sim fun W σ s A H Q k sr h => h.ok_at k rfl⟩

/-- C(..), what is raised wished for at the slots -/
def tMakeS (C : Addr) (sp : Sp) (E : L2.St → XK) (t : TA) : TE := fun σ H Q => t σ H fun vs H1 => ∀ x dx, H1 x = none → H1 dx = none → dx ≠ x →
  sp (.ref x :: vs) (upd (upd H1 dx (.own x)) x (.ins C dx [])) (fun v H2 => v = .non ∧ Q (.ref x) H2) (E σ)
theorem run_makeS {CX : CXT} {C f : Addr} {fd : FuncData} {ps : List Str} {sp : Sp} {E : L2.St → XK} {pn : List (Addr × Obj)} {sg : L2.St} {Hh : Hp} {st : Shared} {QQ : VK} {us : List Value} {vs : List V} (M : Mk X.K C f)
    (F : FnOk X.prog X.w X.K X.mg X.base CX k f fd ps sp) (hr : Room (k + 1) X.A) (hb : Binds X.K fd ps []) (hx : ∀ σ, PassesAt CX X σ (E σ)) (II : Inv X pn sg Hh st) (r : Vals vs us)
    (h : ∀ x dx, Hh x = none → Hh dx = none → dx ≠ x → sp (.ref x :: vs) (upd (upd Hh dx (.own x)) x (.ins C dx [])) (fun v H2 => v = .non ∧ QQ (.ref x) H2) (E sg)) :
    wpAny (model X.prog X.w) X.A (call (.ref C) us) (EP X pn sg QQ) X.xe st := by
  have hq := h (st.heap.objs.size + 1) st.heap.objs.size (II.hok.fresh (Nat.le_succ _)) (II.hok.fresh (Nat.le_refl _)) (Nat.ne_of_lt (Nat.lt_succ_self _))
  have I2 := Inv.made (C := C) II
  have r2 : Vals (V.ref (st.heap.objs.size + 1) :: vs) (Value.ref (st.heap.objs.size + 1) :: us) := .cons rfl r
  have hl : (Value.ref (st.heap.objs.size + 1) :: us).length = ps.length := by
    have e := r2.length
    rw [F.len _ _ _ _ hq] at e
    exact e.symm
  have hbb := hb _ (Value.ref (st.heap.objs.size + 1) :: us) I2.kIn (by rw [List.append_nil]; exact hl)
  rw [List.append_nil] at hbb
  refine wpAny_call (make_map (f := f) II.kIn M.makes M.init (beq_iff_eq.mp M.fn) (codeAny_mono (F.run _ X.stack _ _ ⟨Value.ref (st.heap.objs.size + 1) :: us, []⟩ _ _ _ (E sg) (hr.make C us []) (I2.env0.make C us []) hbb r2 hq) fun r s' hq' => ?_))
  cases r with
  | error e => exact hx sg pn _ _ e s' I2 hq'
  | ok fl =>
    cases fl with
    | ret u =>
      obtain ⟨v, H', I3, rv, ev, q3⟩ := I2.after hq'
      subst ev
      exact ⟨rv, ⟨V.ref (st.heap.objs.size + 1), H', I3, rfl, q3⟩⟩
    | next => exact False.elim hq'
    | brk => exact False.elim hq'
    | cont => exact False.elim hq'
theorem smake (d : Mkr X.prog X.w X.K X.mg X.base c k g) (hr : Room j X.A) (hk : k + 1 ≤ j) (tk : Takes X Wx) (ha : SA X Wx (e :: es) t m) (hg : Gl X c := by rfl) (hdb : (c == ("__debug__" : Str)) = false := by decide)
    (he : starEach (e :: es) X.env = (false, eval e X.env) :: starEach es X.env := by rfl) (hpl : (backTo pos (starEach es X.env)).any (·.1) = false := by rfl) :
    SE X Wx (.Call (.Name c p) (e :: es) [] pos) (tMakeS (clA X.mg c) (spM X.K X.mg g) (WE Wx) t) (mMake c g m) := by
  obtain ⟨C, f, fd, ps, F, hm, M, hb⟩ := d
  rw [clA_of hm]
  refine ⟨⟨fun pn st sg Hh QQ II hh => ?_⟩, fun W σ s A H Q k sr z => ?_⟩
  · refine wpAny_Call_Name_kw (ld_glob II hg hm ?_ hdb)
    refine PySem.W.callWith_K (h₀ := X.base) II.ok.mod.kin M.kp (thn (ha.pa.run pos pn st sg Hh _ II hh) fun us s1 ⟨vs, H1, I1, r, q⟩ => ⟨I1.kIn, ?_⟩) he hpl
    exact run_makeS (E := WE Wx) M F (hr.mono hk) hb (fun σ => passAt tk σ) I1 r q
  · refine ha.sim W σ s A H _ k sr (z.bind fun ds A1 vs W1 H1 e1 k1 r1 h1 => fun x dx hx hdx ne => ?_)
    obtain ⟨k2, e2⟩ := k1.aside hdx (.own x)
    have hx2 : upd H1 dx (.own x) x = none := by
      rw [upd_ne (Ne.symm ne)]
      exact hx
    obtain ⟨k3, e3⟩ := k2.fresh hx2 (o := .ins C dx []) (u := .ins c []) ⟨dx, [], by rw [clA_of hm], rfl, rfl⟩
    have hn : (W1.m ++ [x])[A1.length]? = some x := by
      rw [← k1.len]
      exact List.getElem?_concat_length
    refine ⟨_, .ref A1.length :: ds, _, k3, Reps.cons ⟨x, rfl, hn⟩ (r1.le (e2.trans e3).le), ?_⟩
    have h2 := Post.ext (e2.trans e3) h1
    exact h2.bind fun r A2 v W4 H4 e4 k4 r4 h4 => by
      cases r with
      | non => exact ⟨r4, h4.ok_at k4 ⟨x, rfl, e4.le.at hn⟩⟩
      | _ => exact h4.elim
end
end Tg

set_option Elab.async false
set_option linter.all false
set_option maxRecDepth 100000
set_option maxHeartbeats 2000000
/-! TgBuilt: built-in functions and methods. -/
namespace Tg
open PySem PySem.Spec PyProof.Rows L2

/-! ### a built-in by its name -/
section
variable {X : Cx} {Wx : WX} {e o : Expr} {es : List Expr} {to : TE} {t : TA} {mo : ME} {m : MA} {p pos apos : Pos} {x : Str} {id T : String} {r : List V → Hp → VK → Prop} {f : List D → AH → R D}
theorem sim_cb {K : PySem.W.Frag} {mg : Str → Option Value} (hs : CallS K mg r f) (ha : SimA K mg Wx t m) : SimE K mg Wx (tCB r t) (mCall f m) := fun W σ s A H Q k sr z =>
  ha W σ s A H _ k sr (z.bind fun ds A1 vs W1 H1 e1 k1 r1 h1 => hs W1 A1 H1 _ Q ds vs k1 r1 h1)
theorem sbuilt (hc : CallR X (.builtin id) r) (hs : CallS X.K X.mg r f) (hm : X.mg x = none) (ha : SA X Wx (e :: es) t m) (hg : Gl X x := by rfl) (hv : bootBuiltins x = some (.builtin id) := by decide +kernel) (hn : x ≠ "__name__" := by decide) (hdb : (x == ("__debug__" : Str)) = false := by decide)
    (he : starEach (e :: es) X.env = (false, eval e X.env) :: starEach es X.env := by rfl) (hpl : (backTo pos (starEach es X.env)).any (·.1) = false := by rfl) : SE X Wx (.Call (.Name x p) (e :: es) [] pos) (tCB r t) (mCall f m) :=
  ⟨pe_callB hc hg hm hv ha.pa hn hdb he hpl, sim_cb hs ha.sim⟩
theorem styp (hc : CallR X (.type T) r) (hs : CallS X.K X.mg r f) (hm : X.mg x = none) (ha : SA X Wx (e :: es) t m) (hg : Gl X x := by rfl) (hv : bootBuiltins x = some (.type T) := by decide +kernel) (hn : x ≠ "__name__" := by decide) (hdb : (x == ("__debug__" : Str)) = false := by decide)
    (he : starEach (e :: es) X.env = (false, eval e X.env) :: starEach es X.env := by rfl) (hpl : (backTo pos (starEach es X.env)).any (·.1) = false := by rfl) : SE X Wx (.Call (.Name x p) (e :: es) [] pos) (tCB r t) (mCall f m) :=
  ⟨pe_callTy hc hg hm hv ha.pa hn hdb he hpl, sim_cb hs ha.sim⟩
end

/-! ### len, int, str, abs, max, min, sum, sorted, tuple, list, dict -/
def lenD : List D → AH → R D
  | [.str z], A => if z.length ≤ 16777216 then .ok (.int z.length) A else .bad
  | [d], A => match dctD A d with
    | some kvs => .ok (.int kvs.length) A
    | none => match itemsD A d with
      | some ds => .ok (.int ds.length) A
      | none => .bad
  | _, _ => .bad
def intD : List D → AH → R D
  | [.int i], A => .ok (.int i) A
  | [.bl k], A => .ok (.int (if k then 1 else 0)) A
  | [.str a], A => match PySem.intText? a with
    | some n => if a.length ≤ 640 then .ok (.int n) A else .bad
    | none => .bad
  | _, _ => .bad
def strD : List D → AH → R D
  | [.int i], A => if i.natAbs.log2 < 1920 then .ok (.str (toString i)) A else .bad
  | [.str a], A => .ok (.str a) A
  | _, _ => .bad
def intsD : List D → Option (List Int)
  | [] => some []
  | .int i :: ds => (intsD ds).map (i :: ·)
  | _ :: _ => none
def maxI : List Int → Option Int
  | [] => none
  | i :: is => some (is.foldl (fun m j => if m < j then j else m) i)
def maxD : List D → AH → R D
  | [.int i, .int j], A => .ok (.int (if j > i then j else i)) A
  | [d], A => match (itemsD A d).bind intsD with
    | some ns => match maxI ns with
      | some m => .ok (.int m) A
      | none => .bad
    | none => .bad
  | _, _ => .bad
def minD : List D → AH → R D
  | [.int i, .int j], A => .ok (.int (if j < i then j else i)) A
  | _, _ => .bad
def sumD : List D → AH → R D
  | [d], A => match (seqL A d).bind intsD with
    | some ns => .ok (.int ns.sum) A
    | none => .bad
  | _, _ => .bad
def tupD : List D → AH → R D
  | [.tup ds], A => .ok (.tup ds) A
  | [d], A => match seqL A d with
    | some ds => .ok (.tup ds) A
    | none => .bad
  | _, _ => .bad
def keyOfK : Key → D
  | .inl i => .int i
  | .inr s => .str s
def listD : List D → AH → R D
  | [d], A => match dctD A d with
    | some kvs => .ok (.lst (kvs.map fun kv => keyOfK kv.1)) A
    | none => match itemsD A d with
      | some ds => .ok (.lst ds) A
      | none => .bad
  | _, _ => .bad
def listN : List D → AH → R D
  | [d], A => match itemsD A d with
      | some ds => .ok (.ref A.length) (A ++ [.lst ds])
      | none => .bad
  | _, _ => .bad
section
variable {K : PySem.W.Frag} {mg : Str → Option Value} {W : Wd} {A : AH} {H : Hp}
theorem reps1 {d : D} {xs : List V} (r : Reps K W [d] xs) : ∃ v, xs = [v] ∧ Rep K W d v := by
  obtain ⟨v, r', rfl, h1, h2⟩ := r
  cases (show r' = [] from h2)
  exact ⟨v, rfl, h1⟩
theorem reps2 {d e : D} {xs : List V} (r : Reps K W [d, e] xs) : ∃ v u, xs = [v, u] ∧ Rep K W d v ∧ Rep K W e u := by
  obtain ⟨v, r', rfl, h1, h2⟩ := r
  obtain ⟨u, rfl, h3⟩ := reps1 h2
  exact ⟨v, u, rfl, h1, h3⟩
theorem intsD_at : ∀ {ds : List D} {ns : List Int} {xs : List V}, intsD ds = some ns → Reps K W ds xs → xs = ns.map V.int
  | [], ns, xs, e, r => by
    cases (show some [] = some ns from e)
    exact r
  | d :: ds, ns, xs, e, r => by
    cases d with
    | int i =>
      obtain ⟨ns', e1, rfl⟩ := Option.map_eq_some_iff.mp (show (intsD ds).map (i :: ·) = some ns from e)
      obtain ⟨v, r', rfl, h1, h2⟩ := r
      rw [intsD_at e1 h2, (show v = .int i from h1)]
      rfl
    | _ => cases (show none = some ns from e)
theorem maxI_mem : ∀ (is : List Int) (i : Int), is.foldl (fun m j => if m < j then j else m) i ∈ i :: is ∧ ∀ y ∈ i :: is, y ≤ is.foldl (fun m j => if m < j then j else m) i
  | [], i => ⟨by simp, fun y h => by
      have e : y = i := by simpa using h
      rw [e]
      exact Int.le_refl i⟩
  | j :: is, i => by
    rw [List.foldl_cons]
    generalize hk : (if i < j then j else i) = k
    have hk1 : i ≤ k ∧ j ≤ k ∧ (k = i ∨ k = j) := by
      rw [← hk]
      split
      · exact ⟨by omega, by omega, .inr rfl⟩
      · exact ⟨by omega, by omega, .inl rfl⟩
    obtain ⟨h1, h2⟩ := maxI_mem is k
    have h3 := h2 k (by simp)
    refine ⟨?_, fun y h => ?_⟩
    · rcases List.mem_cons.mp h1 with e | e
      · rw [e]
        rcases hk1.2.2 with z | z
        · rw [z]
          simp
        · rw [z]
          simp
      · exact List.mem_cons_of_mem _ (List.mem_cons_of_mem _ e)
    · rcases List.mem_cons.mp h with e | e
      · rw [e]
        exact Int.le_trans hk1.1 h3
      · rcases List.mem_cons.mp e with e | e
        · rw [e]
          exact Int.le_trans hk1.2.1 h3
        · exact h2 y (List.mem_cons_of_mem _ e)
theorem maxI_eq {ns : List Int} {m n : Int} (h : maxI ns = some m) (h1 : n ∈ ns) (h2 : ∀ y, y ∈ ns → y ≤ n) : n = m := by
  cases ns with
  | nil => cases h1
  | cons i is =>
    have e : is.foldl (fun m j => if m < j then j else m) i = m := Option.some.inj h
    obtain ⟨q1, q2⟩ := maxI_mem is i
    rw [e] at q1 q2
    have z1 := h2 m q1
    have z2 := q2 n h1
    omega
def rLenU (K : PySem.W.Frag) : List V → Hp → VK → Prop := fun xs H Q => (∃ x n, xs = [x] ∧ LenV K x H n ∧ Q (.int n) H) ∨ ∃ a kvs, xs = [V.ref a] ∧ H a = some (.dK kvs) ∧ Q (.int kvs.length) H
theorem oLen {X : Cx} : CallR X (.builtin "len") (rLenU X.K) := call_len.or call_lenD
theorem oLenS : CallS K mg (rLenU K) lenD := fun W A H E Q ds xs k r h => by
  unfold lenD at h
  split at h
  · split at h
    · rename_i z
      obtain ⟨v, rfl, h1⟩ := reps1 r
      cases (show v = _ from h1)
      exact .inl ⟨_, _, rfl, ⟨sz_of z, rfl⟩, h.ok_at k rfl⟩
    · exact h.elim
  · obtain ⟨v, rfl, h1⟩ := reps1 r
    split at h
    · rename_i kvs e1
      obtain ⟨a, vs, rfl, h2, h3⟩ := dctD_at k h1 e1
      refine .inr ⟨a, vs, rfl, h2, ?_⟩
      rw [h3.len]
      exact h.ok_at k rfl
    · split at h
      · rename_i es e1
        obtain ⟨a, ys, rfl, h2, h3⟩ := itemsD_at k h1 e1
        refine .inl ⟨_, ys.length, rfl, ?_, ?_⟩
        · rcases h2 with h2 | h2
          · exact .inl ⟨ys, h2, rfl⟩
          · exact .inr ⟨ys, h2, rfl⟩
        · rw [h3.length]
          exact h.ok_at k rfl
      · exact h.elim
  · exact h.elim
def rIntU : List V → Hp → VK → Prop := fun xs H Q => ((∃ i, xs = [.int i] ∧ Q (.int i) H) ∨ ∃ k, xs = [.bl k] ∧ Q (.int (if k then 1 else 0)) H) ∨ ∃ a n, xs = [.str a] ∧ PySem.intText? a = some n ∧ a.length ≤ 640 ∧ Q (.int n) H
theorem oInt {X : Cx} : CallR X (.type "int") rIntU := call_int1.or call_int_str
theorem oIntS : CallS K mg rIntU intD := fun W A H E Q ds xs k r h => by
  unfold intD at h
  split at h
  · obtain ⟨v, rfl, h1⟩ := reps1 r
    cases (show v = _ from h1)
    exact .inl (.inl ⟨_, rfl, h.ok_at k rfl⟩)
  · obtain ⟨v, rfl, h1⟩ := reps1 r
    cases (show v = _ from h1)
    exact .inl (.inr ⟨_, rfl, h.ok_at k rfl⟩)
  · obtain ⟨v, rfl, h1⟩ := reps1 r
    cases (show v = _ from h1)
    split at h
    · rename_i n e1
      split at h
      · rename_i z
        exact .inr ⟨_, n, rfl, e1, z, h.ok_at k rfl⟩
      · exact h.elim
    · exact h.elim
  · exact h.elim
def rStrU : List V → Hp → VK → Prop := fun xs H Q => (∃ i : Int, xs = [.int i] ∧ i.natAbs.log2 < 1920 ∧ Q (.str (toString i)) H) ∨ ∃ a, xs = [.str a] ∧ Q (.str a) H
theorem oStr {X : Cx} : CallR X (.type "str") rStrU := call_str_int.or SkE.call_str_str
theorem oStrS : CallS K mg rStrU strD := fun W A H E Q ds xs k r h => by
  unfold strD at h
  split at h
  · obtain ⟨v, rfl, h1⟩ := reps1 r
    cases (show v = _ from h1)
    split at h
    · rename_i z
      exact .inl ⟨_, rfl, z, h.ok_at k rfl⟩
    · exact h.elim
  · obtain ⟨v, rfl, h1⟩ := reps1 r
    cases (show v = _ from h1)
    exact .inr ⟨_, rfl, h.ok_at k rfl⟩
  · exact h.elim
end

/-- max of a tuple of ints -/
theorem iter_intTup {prog : Program} {w : World} {B : Around} {E : Value → Shared → Prop} {s : Shared} {l : Addr} {items : Array Value} {Q : Value → Shared → Prop} (hl : s.heap.IsTuple l items)
    (h : ∀ s2 : Shared, s2 = { s with heap := s.heap.push { cls := .type "tuple_iterator", data := .fields #[.ref l, .int 0 0] } } →
      (s2.heap.IsTupleIter s.heap.objs.size l 0 ∧ s2.heap.IsTuple l items) → (∀ b ∈ [s.heap.objs.size, l], b < s2.heap.objs.size) → l ≠ s.heap.objs.size → Q (.ref s.heap.objs.size) s2) : wpAny (model prog w) B (pyIter (.ref l)) Q E s := by
  have hlt : l < s.heap.objs.size := by obtain ⟨_, e, _⟩ := hl; exact Heap.lt_size e
  refine wpAny_pyIter_tuple hl (h _ rfl ⟨⟨_, Heap.get?_push_size _ rfl, rfl, rfl⟩, hl.push _⟩ (fun b hb => ?_) (Nat.ne_of_lt hlt))
  rw [Heap.size_push]
  rcases List.mem_cons.mp hb with z | z
  · rw [z]
    exact Nat.lt_succ_self _
  · rw [List.mem_singleton.mp z]
    exact Nat.lt_succ_of_lt hlt
def rMaxT (K : PySem.W.Frag) : List V → Hp → VK → Prop := fun vs H Q => ∃ (a : Addr) (ns : List Int), vs = [V.ref a] ∧ SqT K H a (ns.map V.int) ∧ 0 < ns.length ∧ ∀ m, m ∈ ns → (∀ y, y ∈ ns → y ≤ m) → Q (.int m) H
theorem cr_maxT {X : Cx} (hc : X.calm = true) : CallR X (.builtin "max") (rMaxT X.K) := by
  intro pn st sg Hh vs us QQ II r hh
  obtain ⟨a, ns, rfl, hs, hne, q⟩ := hh
  obtain ⟨its, rv, ⟨o0, ho, hcl, n, hdat⟩, _⟩ := II.tuple hs
  rw [Vals.ref1 r]
  have hi := rv.ints
  obtain ⟨ys, e⟩ := hi.allInts.items
  have hn : numsOf (intItems ys).toList = ns := by rw [← e]; exact hi.numsOf
  rw [nums_intItems] at hn
  subst hn
  have hT : st.heap.IsTuple a (intItems ys) := ⟨o0, ho, hcl, n, by rw [hdat, ← e]⟩
  have hsz : 0 < ys.size := by simpa using hne
  refine call_max_walk (iter_intTup hT fun s2 e2 st2 hfp hlI => ?_)
  subst e2
  refine ⟨_, _, _, _, _, _, _, rfl, Walks.tuple (A := X.A.in1) (II.ok.hd hc) _ a hlI (intItems ys), st2, hfp, by simpa [intItems] using hsz, CmpOf.ints_gt (numAt ys) (fun _ _ => intItems_at), fun v h' tk hP hk => ?_⟩
  have hP' : (intItems ys)[argBest (fun i j => decide (numAt ys i > numAt ys j)) (ys.size - 1)]? = some v := by simpa [intItems] using hP
  have hk' : ∀ b o, st.heap.get? b = some o → h'.get? b = some o := fun b o e => by
    refine hk b o (fun hm => ?_) (Heap.get?_push_of_some _ e)
    rw [List.mem_singleton.mp hm] at e
    exact absurd (Heap.lt_size e) (Nat.lt_irrefl _)
  obtain ⟨t, rfl⟩ := intItems_at hP'
  obtain ⟨h1, h2⟩ := argBest_gt (numAt ys) (ys.size - 1)
  refine ⟨.int _, Hh, II.kept hk', ⟨_, rfl⟩, q _ ?_ fun y hy => ?_⟩
  · rw [numAt_eq]
    exact PySem.getD_mem (by rw [List.length_map, Array.length_toList]; omega)
  · obtain ⟨j, hj, rfl⟩ := mem_getD hy
    rw [List.length_map, Array.length_toList] at hj
    rw [← numAt_eq]
    exact h2 j (by omega)
def rMaxU (K : PySem.W.Frag) : List V → Hp → VK → Prop := fun xs H Q => (∃ i j, xs = [.int i, .int j] ∧ Q (.int (if j > i then j else i)) H) ∨ rMax K xs H Q ∨ rMaxT K xs H Q
theorem oMax {X : Cx} (hc : X.calm = true) : CallR X (.builtin "max") (rMaxU X.K) := (call_max2 hc).or ((cr_max hc).or (cr_maxT hc))
def rTupU (K : PySem.W.Frag) : List V → Hp → VK → Prop := fun xs H Q => ∃ p ys, xs = [.ref p] ∧ ((SqL K H p ys ∧ ∀ l, H l = none → Q (.ref l) (upd H l (.tup ys))) ∨ (SqT K H p ys ∧ Q (.ref p) H))
def rListU (K : PySem.W.Frag) : List V → Hp → VK → Prop := fun xs H Q => (∃ p ys, xs = [.ref p] ∧ (SqL K H p ys ∨ SqT K H p ys) ∧ ∀ l, H l = none → Q (.ref l) (upd H l (.lst ys))) ∨ rListD xs H Q
theorem oList {X : Cx} (hc : X.calm = true) : CallR X (.type "list") (rListU X.K) := call_list_of.or (call_list_dK hc)
section
variable {K : PySem.W.Frag} {mg : Str → Option Value} {W : Wd} {A : AH} {H : Hp}
theorem oMaxS : CallS K mg (rMaxU K) maxD := fun W A H E Q ds xs k r h => by
  unfold maxD at h
  split at h
  · obtain ⟨v, u, rfl, h1, h2⟩ := reps2 r
    cases (show v = _ from h1)
    cases (show u = _ from h2)
    exact .inl ⟨_, _, rfl, h.ok_at k rfl⟩
  · obtain ⟨v, rfl, h1⟩ := reps1 r
    split at h
    · rename_i ns e1
      obtain ⟨es, e2, e3⟩ := Option.bind_eq_some_iff.mp e1
      split at h
      · rename_i mx e4
        obtain ⟨a, ys, rfl, h2, h3⟩ := itemsD_at k h1 e2
        have ey := intsD_at e3 h3
        subst ey
        have hne : 0 < ns.length := by
          cases ns with
          | nil => cases e4
          | cons _ _ => exact Nat.succ_pos _
        have go : ∀ m, m ∈ ns → (∀ y, y ∈ ns → y ≤ m) → Q (.int m) H := fun m q1 q2 => by
          rw [maxI_eq e4 q1 q2]
          exact h.ok_at k rfl
        rcases h2 with h2 | h2
        · exact .inr (.inl ⟨a, ns, rfl, h2, hne, go⟩)
        · exact .inr (.inr ⟨a, ns, rfl, h2, hne, go⟩)
      · exact h.elim
    · exact h.elim
  · exact h.elim
theorem oMinS : CallS K mg (fun xs H Q => ∃ i j, xs = [.int i, .int j] ∧ Q (.int (if j < i then j else i)) H) minD := fun W A H E Q ds xs k r h => by
  unfold minD at h
  split at h
  · obtain ⟨v, u, rfl, h1, h2⟩ := reps2 r
    cases (show v = _ from h1)
    cases (show u = _ from h2)
    exact ⟨_, _, rfl, h.ok_at k rfl⟩
  · exact h.elim
theorem oSumS : CallS K mg (rSum K) sumD := fun W A H E Q ds xs k r h => by
  unfold sumD at h
  split at h
  · obtain ⟨v, rfl, h1⟩ := reps1 r
    split at h
    · rename_i ns e1
      obtain ⟨es, e2, e3⟩ := Option.bind_eq_some_iff.mp e1
      obtain ⟨a, ys, rfl, h2, h3⟩ := seqL_at k h1 e2
      have ey := intsD_at e3 h3
      subst ey
      exact ⟨a, ns, rfl, h2, h.ok_at k rfl⟩
    · exact h.elim
  · exact h.elim
theorem oTupS : CallS K mg (rTupU K) tupD := fun W A H E Q ds xs k r h => by
  unfold tupD at h
  split at h
  · obtain ⟨v, rfl, h1⟩ := reps1 r
    obtain ⟨a, ys, rfl, h2, h3⟩ := tup_at k h1
    exact ⟨a, ys, rfl, .inr ⟨h2, h.ok_at k h1⟩⟩
  · obtain ⟨v, rfl, h1⟩ := reps1 r
    split at h
    · rename_i es e1
      obtain ⟨a, ys, rfl, h2, h3⟩ := seqL_at k h1 e1
      exact ⟨a, ys, rfl, .inl ⟨h2, fun l hl => post_tup k h h3 hl⟩⟩
    · exact h.elim
  · exact h.elim
theorem reps_keys : ∀ {kvs : List (Key × D)} {vs : List (Key × V)}, KVR K W kvs vs → Reps K W (kvs.map fun kv => keyOfK kv.1) (vs.map fun kv => kV kv.1)
  | [], _, r => by
    cases r.nil_iff
    exact rfl
  | p :: kvs, vs, r => by
    obtain ⟨v, vs', rfl, h1, h2⟩ := r.cons_iff
    refine Reps.cons ?_ (reps_keys h2)
    obtain ⟨kk, d⟩ := p
    cases kk <;> exact rfl
theorem oListS : CallS K mg (rListU K) listD := fun W A H E Q ds xs k r h => by
  unfold listD at h
  split at h
  · obtain ⟨v, rfl, h1⟩ := reps1 r
    split at h
    · rename_i kvs e1
      obtain ⟨a, vs, rfl, h2, h3⟩ := dctD_at k h1 e1
      exact .inr ⟨a, vs, rfl, h2, fun q hq => post_lst k h (reps_keys h3) hq⟩
    · split at h
      · rename_i es e1
        obtain ⟨a, ys, rfl, h2, h3⟩ := itemsD_at k h1 e1
        exact .inl ⟨a, ys, rfl, h2, fun l hl => post_lst k h h3 hl⟩
      · exact h.elim
  · exact h.elim
theorem oListNS : CallS K mg (rListU K) listN := fun W A H E Q ds xs k r h => by
  unfold listN at h
  split at h
  · obtain ⟨v, rfl, h1⟩ := reps1 r
    split at h
    · rename_i es e1
      obtain ⟨a, ys, rfl, h2, h3⟩ := itemsD_at k h1 e1
      exact .inl ⟨a, ys, rfl, h2, fun l hl => post_new k h h3 hl⟩
    · exact h.elim
  · exact h.elim
end

/-! ### isinstance -/
def tyD (A : AH) : D → Option String
  | .non => some "NoneType"
  | .bl _ => some "bool"
  | .int _ => some "int"
  | .str _ => some "str"
  | .tup _ => some "tuple"
  | .lst _ => some "list"
  | .scr _ => some "list"
  | .dct _ _ => some "dict"
  | .ref n => match A[n]? with
    | some (.lst _) => some "list"
    | some (.dct _) => some "dict"
    | _ => none
/-- is a thing of the type a one of T? -/
def subTy (a T : String) : Bool := a == T || (a == "bool" && T == "int")
def isiD (T : String) (d : D) (A : AH) : R D := match tyD A d with
  | some a => .ok (.bl (subTy a T)) A
  | none => .bad
def isiD2 (T U : String) (d : D) (A : AH) : R D := match tyD A d with
  | some a => .ok (.bl (subTy a T || subTy a U)) A
  | none => .bad
/-- the types that are asked about -/
def askTy : List String := ["int", "bool", "str", "tuple", "list", "dict"]
theorem kit_all : ∀ a ∈ ["NoneType", "bool", "int", "str", "tuple", "list", "dict"], ∀ T ∈ askTy, kitB a T = some (subTy a T) := by decide +kernel
section
variable {K : PySem.W.Frag} {mg : Str → Option Value} {W : Wd} {A : AH} {H : Hp}
theorem tyD_at (k : Ok K mg W A H) {d : D} {v : V} (r : Rep K W d v) {a : String} (e : tyD A d = some a) : TyX K H v (.type a) ∧ a ∈ ["NoneType", "bool", "int", "str", "tuple", "list", "dict"] := by
  cases d with
  | non =>
    cases (show some "NoneType" = some a from e)
    cases (show v = .non from r)
    exact ⟨.base .non, by simp⟩
  | bl b =>
    cases (show some "bool" = some a from e)
    cases (show v = .bl b from r)
    exact ⟨.base (.bl b), by simp⟩
  | int b =>
    cases (show some "int" = some a from e)
    cases (show v = .int b from r)
    exact ⟨.base (.int b), by simp⟩
  | str b =>
    cases (show some "str" = some a from e)
    cases (show v = .str b from r)
    exact ⟨.base (.str b), by simp⟩
  | tup ds =>
    cases (show some "tuple" = some a from e)
    obtain ⟨p, xs, rfl, h1, _⟩ := tup_at k r
    rcases h1 with (h1 | ⟨o, h1⟩) | ⟨o, its, n, h1, h2, _⟩
    · exact ⟨.base (.tup h1), by simp⟩
    · exact ⟨.fTuple h1, by simp⟩
    · exact ⟨.kTuple h1 h2, by simp⟩
  | lst ds =>
    cases (show some "list" = some a from e)
    obtain ⟨p, xs, rfl, h1, _⟩ := r
    exact ⟨.base (.lst (k.frz _ _ h1)), by simp⟩
  | scr ns =>
    cases (show some "list" = some a from e)
    obtain ⟨p, rfl, h1⟩ := r
    rcases k.sqL h1 with (h1 | ⟨o, h1⟩) | ⟨o, its, n, h1, h2, _⟩
    · exact ⟨.base (.lst h1), by simp⟩
    · exact ⟨.base (.frz h1), by simp⟩
    · exact ⟨.kList h1 h2, by simp⟩
  | dct ks ds =>
    cases (show some "dict" = some a from e)
    obtain ⟨p, xs, rfl, h1, _⟩ := r
    exact ⟨.base (.dK (k.frz _ _ h1)), by simp⟩
  | ref n =>
    obtain ⟨p, rfl, hp⟩ := r
    unfold tyD at e
    dsimp only at e
    split at e
    · rename_i ds q
      cases e
      obtain ⟨xs, h1, _⟩ := k.obj n p _ hp q
      exact ⟨.base (.lst h1), by simp⟩
    · rename_i ds q
      cases e
      obtain ⟨xs, h1, _⟩ := k.obj n p _ hp q
      exact ⟨.base (.dK h1), by simp⟩
    · cases e
end
section
variable {X : Cx} {Wx : WX} {e : Expr} {te : TE} {me : ME} {p pos : Pos}
theorem sisi {T : String} {y : Str} {p2 : Pos} (hT : T ∈ askTy) (hm : X.mg "isinstance" = none) (hm2 : X.mg y = none) (h : SE X Wx e te me) (hg : Gl X "isinstance" := by rfl) (hg2 : Gl X y := by rfl) (hv : bootBuiltins y = some (.type T) := by decide +kernel)
    (hn : y ≠ "__name__" := by decide) (hdb : (y == ("__debug__" : Str)) = false := by decide)
    (he1 : starEach [.Name y p2] X.env = (false, eval (.Name y p2) X.env) :: starEach [] X.env := by rfl) (he2 : starEach [e, .Name y p2] X.env = (false, eval e X.env) :: starEach [.Name y p2] X.env := by rfl)
    (hpl : (backTo pos (starEach [.Name y p2] X.env)).any (·.1) = false := by rfl) :
    SE X Wx (.Call (.Name "isinstance" p) [e, .Name y p2] [] pos) (tCB (rIsi X.K) (tCons te (tCons (tC (.ty T)) tNil))) (mUn (isiD T) me) :=
  ⟨pe_callB call_isi hg hm (by decide +kernel) (pa_cons h.pe (pa_cons (pe_bltn hg2 hm2 hv rfl hn hdb) pa_nil he1) he2) (by decide) (by decide) he2 hpl, fun W σ s A H Q k sr z =>
    h.sim W σ s A H _ k sr (z.bind fun x A1 v W1 H1 e1 k1 r1 h1 => by
      show rIsi X.K [v, .ty T] H1 Q
      unfold isiD at h1
      split at h1
      · rename_i a e2
        obtain ⟨q1, q2⟩ := tyD_at k1 r1 e2
        exact ⟨v, .ty T, .type a, .type T, subTy a T, rfl, .ty T, q1, kit_ty (kit_all a q2 T hT), h1.ok_at k1 rfl⟩
      · exact h1.elim)⟩
theorem sisi2 {T U : String} {y z : Str} {p2 p3 p4 : Pos} {j : Nat} (hT : T ∈ askTy) (hU : U ∈ askTy) (hm : X.mg "isinstance" = none) (hm2 : X.mg y = none) (hm3 : X.mg z = none) (h : SE X Wx e te me) (hg : Gl X "isinstance" := by rfl) (hg2 : Gl X y := by rfl) (hg3 : Gl X z := by rfl)
    (hv : bootBuiltins y = some (.type T) := by decide +kernel) (hv3 : bootBuiltins z = some (.type U) := by decide +kernel)
    (hn : y ≠ "__name__" := by decide) (hdb : (y == ("__debug__" : Str)) = false := by decide) (hn3 : z ≠ "__name__" := by decide) (hdb3 : (z == ("__debug__" : Str)) = false := by decide)
    (he3 : starEach [.Name z p3] X.env = (false, eval (.Name z p3) X.env) :: starEach [] X.env := by rfl) (he4 : starEach [.Name y p2, .Name z p3] X.env = (false, eval (.Name y p2) X.env) :: starEach [.Name z p3] X.env := by rfl)
    (he1 : starEach [.Tuple [.Name y p2, .Name z p3] j p4] X.env = (false, eval (.Tuple [.Name y p2, .Name z p3] j p4) X.env) :: starEach [] X.env := by rfl)
    (he2 : starEach [e, .Tuple [.Name y p2, .Name z p3] j p4] X.env = (false, eval e X.env) :: starEach [.Tuple [.Name y p2, .Name z p3] j p4] X.env := by rfl)
    (hpl : (backTo pos (starEach [.Tuple [.Name y p2, .Name z p3] j p4] X.env)).any (·.1) = false := by rfl) :
    SE X Wx (.Call (.Name "isinstance" p) [e, .Tuple [.Name y p2, .Name z p3] j p4] [] pos) (tCB (rIsiT X.K) (tCons te (tCons (tTup (tCons (tC (.ty T)) (tCons (tC (.ty U)) tNil))) tNil))) (mUn (isiD2 T U) me) :=
  ⟨pe_callB call_isiT hg hm (by decide +kernel) (pa_cons h.pe (pa_cons (pe_tup (pa_cons (pe_bltn hg2 hm2 hv rfl hn hdb) (pa_cons (pe_bltn hg3 hm3 hv3 rfl hn3 hdb3) pa_nil he3) he4)) pa_nil he1) he2) (by decide) (by decide) he2 hpl, fun W σ s A H Q k sr z =>
    h.sim W σ s A H _ k sr (z.bind fun x A1 v W1 H1 e1 k1 r1 h1 => by
      show ([V.ty T, V.ty U] : List V).length ≤ sizeLine ∧ ∀ p, H1 p = none → rIsiT X.K [v, .ref p] (upd H1 p (.tup [.ty T, .ty U])) Q
      refine ⟨sz_of (by show 2 ≤ 16777216; decide), fun p hp => ?_⟩
      obtain ⟨k2, e2⟩ := k1.aside hp (.tup [.ty T, .ty U])
      have h2 := Post.ext e2 h1
      unfold isiD2 at h2
      split at h2
      · rename_i a e3
        obtain ⟨q1, q2⟩ := tyD_at k2 r1 e3
        refine ⟨v, p, [.ty T, .ty U], .type a, [.type T, .type U], subTy a T || subTy a U, rfl, upd_same, .cons (.ty T) (.cons (.ty U) .nil), q1, ?_, h2.ok_at k2 rfl⟩
        refine kitAny_cons (kit_ty (kit_all a q2 T hT)) (fun q => ?_) (fun q => by rw [q]; rfl)
        rw [q]
        refine kitAny_cons (kit_ty (kit_all a q2 U hU)) (fun q' => ?_) (fun q' => by rw [q']; rfl)
        rw [q']
        rfl
      · exact h2.elim)⟩
end
end Tg

set_option Elab.async false
set_option linter.all false
set_option maxRecDepth 100000
set_option maxHeartbeats 2000000
/-! TgMeth: methods of lists, dicts, texts; dict displays. -/
namespace Tg
open PySem PySem.Spec PyProof.Rows L2

def tyMD (A : AH) (T : String) (d : D) : Bool :=
  if T = "list" then (seqL A d).isSome else if T = "dict" then (dctD A d).isSome else if T = "str" then (match d with
    | .str _ => true
    | _ => false) else false
def mMt (T : String) (f : D → List D → AH → R D) (mo : ME) (ma : MA) : ME := fun s A => (mo s A).bind fun x A1 => if tyMD A1 T x then (ma s A1).bind fun ds A2 => f x ds A2 else .bad
def MtS (K : PySem.W.Frag) (mg : Str → Option Value) (r : V → List V → Hp → VK → Prop) (f : D → List D → AH → R D) : Prop :=
  ∀ (W : Wd) (A : AH) (H : Hp) (E : XK) (Q : VK) (d : D) (x : V) (ds : List D) (xs : List V), Ok K mg W A H → Rep K W d x → Reps K W ds xs → Post K mg (Rep K) W H E Q (f d ds A) → r x xs H Q
section
variable {K : PySem.W.Frag} {mg : Str → Option Value} {W : Wd} {A : AH} {H : Hp}
theorem tyMD_at (k : Ok K mg W A H) {d : D} {x : V} (r : Rep K W d x) {T : String} (h : tyMD A T d = true) : tyV K T x H := by
  unfold tyMD at h
  split at h
  · rename_i e
    subst e
    obtain ⟨ds, e1⟩ := Option.isSome_iff_exists.mp h
    obtain ⟨a, xs, rfl, h1, h2⟩ := seqL_at k r e1
    exact .inl ⟨rfl, xs, h1⟩
  · split at h
    · rename_i e
      subst e
      obtain ⟨ds, e1⟩ := Option.isSome_iff_exists.mp h
      obtain ⟨a, xs, rfl, h1, h2⟩ := dctD_at k r e1
      exact .inr (.inr (.inl ⟨rfl, .inl ⟨xs, h1⟩⟩))
    · split at h
      · rename_i e
        subst e
        split at h
        · cases (show x = _ from r)
          exact rfl
        · cases h
      · cases h
end
section
variable {X : Cx} {Wx : WX} {e o : Expr} {es : List Expr} {to : TE} {t : TA} {mo : ME} {m : MA} {apos cpos : Pos} {name : Str} {T id : String} {r : V → List V → Hp → VK → Prop} {f : D → List D → AH → R D}
theorem smt (pa : PlainAttrs T) (slot : Slot T name id) (hty : typeOf (.builtin id) = pure (.type "method_descriptor")) (hm : MtR X id r) (hs : MtS X.K X.mg r f) (ho : SE X Wx o to mo) (ha : SA X Wx (e :: es) t m)
    (hbase : attributeBase o name X.env (eval o X.env) = eval o X.env := by rfl)
    (hfew : ((backTo cpos (starEach (e :: es) X.env)).all (fun x => !x.1) && (backToKw cpos (keywordEach [] X.env)).all (fun x => x.1.isSome) && decide ((e :: es).length + ([] : List Keyword).length + (if ([] : List Keyword).isEmpty then 0 else 1) < 30)) = true := by rfl)
    (hline : (apos.endLine == cpos.line) = true := by rfl) (hst : starEach (e :: es) X.env = (false, eval e X.env) :: starEach es X.env := by rfl) (hplain : (backTo cpos (starEach es X.env)).any (·.1) = false := by rfl) :
    SE X Wx (.Call (.Attribute o name apos) (e :: es) [] cpos) (tBM X.K T r to t) (mMt T f mo m) :=
  ⟨pe_bm pa slot hty hm ho.pe ha.pa hbase hfew hline hst hplain, fun W σ s A H Q k sr z => ho.sim W σ s A H _ k sr (z.bind fun x A1 v W1 H1 e1 k1 r1 h1 => by
    by_cases q : tyMD A1 T x = true
    · rw [if_pos q] at h1
      exact ⟨tyMD_at k1 r1 q, ha.sim W1 σ s A1 H1 _ k1 (sr.le e1.le) (h1.bind fun ds A2 us W2 H2 e2 k2 r2 h2 => hs W2 A2 H2 _ Q x v ds us k2 (r1.le e2.le) r2 h2)⟩
    · rw [if_neg q] at h1
      exact h1.elim)⟩
theorem smt0 (pa : PlainAttrs T) (slot : Slot T name id) (hty : typeOf (.builtin id) = pure (.type "method_descriptor")) (hm : MtR X id r) (hs : MtS X.K X.mg r f) (ho : SE X Wx o to mo)
    (hbase : attributeBase o name X.env (eval o X.env) = eval o X.env := by rfl) (hline : (apos.endLine == cpos.line) = true := by rfl) :
    SE X Wx (.Call (.Attribute o name apos) [] [] cpos) (tBM0 X.K T r to) (mMt T f mo mNil) :=
  ⟨pe_bm0 pa slot hty hm ho.pe hbase hline, fun W σ s A H Q k sr z => ho.sim W σ s A H _ k sr (z.bind fun x A1 v W1 H1 e1 k1 r1 h1 => by
    by_cases q : tyMD A1 T x = true
    · rw [if_pos q] at h1
      exact ⟨tyMD_at k1 r1 q, hs W1 A1 H1 _ Q x v [] [] k1 r1 rfl h1⟩
    · rw [if_neg q] at h1
      exact h1.elim)⟩
end

/-! ### lists that change -/
def appD : D → List D → AH → R D
  | .ref n, [d], A => match A[n]? with
    | some (.lst ds) => if ds.length < 16777216 then .ok .non (A.set n (.lst (ds ++ [d]))) else .bad
    | _ => .bad
  | _, _, _ => .bad
def extD : D → List D → AH → R D
  | .ref n, [d], A => match A[n]?, lstL A d with
    | some (.lst ds), some es => if ds.length + es.length ≤ 16777216 then .ok .non (A.set n (.lst (ds ++ es))) else .bad
    | _, _ => .bad
  | _, _, _ => .bad
def popD : D → List D → AH → R D
  | .ref n, [], A => match A[n]? with
    | some (.lst ds) => match ds[ds.length - 1]? with
      | some d => .ok d (A.set n (.lst ds.dropLast))
      | none => .bad
    | _ => .bad
  | _, _, _ => .bad
def popAtD : D → List D → AH → R D
  | .ref n, [.int i], A => match A[n]? with
    | some (.lst ds) => if 0 ≤ i ∧ i < ds.length ∧ i < 2 ^ 63 then match ds[i.toNat]? with
      | some d => .ok d (A.set n (.lst (ds.eraseIdx i.toNat)))
      | none => .bad
      else .bad
    | _ => .bad
  | _, _, _ => .bad
def revD : D → List D → AH → R D
  | .ref n, [], A => match A[n]? with
    | some (.lst ds) => .ok .non (A.set n (.lst ds.reverse))
    | _ => .bad
  | _, _, _ => .bad
def clrD : D → List D → AH → R D
  | .ref n, [], A => match A[n]? with
    | some (.lst _) => .ok .non (A.set n (.lst []))
    | _ => .bad
  | _, _, _ => .bad
def findI (k : Int) : List Int → Option Nat
  | [] => none
  | i :: is => if i = k then some 0 else (findI k is).map (· + 1)
def remD : D → List D → AH → R D
  | .ref n, [.int k], A => match A[n]? with
    | some (.lst ds) => match intsD ds with
      | some ns => match findI k ns with
        | some j => .ok .non (A.set n (.lst ((ns.eraseIdx j).map .int)))
        | none => .bad
      | none => .bad
    | _ => .bad
  | _, _, _ => .bad
section
variable {K : PySem.W.Frag} {mg : Str → Option Value}
theorem obl {W : Wd} {ds : List D} {xs : List V} (h : Reps K W ds xs) : ObR K mg W (.lst ds) (some (.lst xs)) := ⟨xs, rfl, h⟩
theorem obd {W : Wd} {kvs : List (Key × D)} {vs : List (Key × V)} (h : KVR K W kvs vs) : ObR K mg W (.dct kvs) (some (.dK vs)) := ⟨vs, rfl, h.1, h.2⟩
theorem post_write {W : Wd} {A : AH} {H : Hp} {E : XK} {Q : VK} {n : Nat} {a : Addr} {d : D} {v : V} {u : AO} {o : HO} (k : Ok K mg W A H) (ha : W.m[n]? = some a) (ob : ObR K mg W u (some o)) (rv : Rep K W d v)
    (h : Post K mg (Rep K) W H E Q (.ok d (A.set n u))) : Q v (upd H a o) := by
  obtain ⟨k1, e1⟩ := k.write ha ob
  exact h _ _ _ e1 k1 (rv.le e1.le)
theorem oAppS : MtS K mg rAppend appD := fun W A H E Q d x ds xs k rx r h => by
  unfold appD at h
  split at h
  · obtain ⟨a, rfl, ha⟩ := rx
    obtain ⟨v, rfl, h1⟩ := reps1 r
    split at h
    · rename_i es q
      split at h
      · rename_i z
        obtain ⟨ys, h2, h3⟩ := k.lookL ha q
        exact ⟨a, ys, v, rfl, rfl, h2, by rw [sizeLine_eq, h3.length]; exact z, post_write (d := .non) k ha (obl (h3.append (Reps.one h1))) rfl h⟩
      · exact h.elim
    · exact h.elim
  · exact h.elim
theorem oExtS : MtS K mg rExtend extD := fun W A H E Q d x ds xs k rx r h => by
  unfold extD at h
  split at h
  · obtain ⟨a, rfl, ha⟩ := rx
    obtain ⟨v, rfl, h1⟩ := reps1 r
    split at h
    · rename_i es fs q q2
      split at h
      · rename_i z
        obtain ⟨ys, h2, h3⟩ := k.lookL ha q
        obtain ⟨b, zs, rfl, h4, h5⟩ := lstL_at k h1 q2
        exact ⟨a, b, ys, zs, rfl, rfl, h2, h4, by rw [h3.length, h5.length]; exact sz_of z, post_write (d := .non) k ha (obl (h3.append h5)) rfl h⟩
      · exact h.elim
    · exact h.elim
  · exact h.elim
theorem Reps.dropLast {W : Wd} {ds : List D} {xs : List V} (r : Reps K W ds xs) : Reps K W ds.dropLast xs.dropLast := by
  rw [List.dropLast_eq_take, List.dropLast_eq_take, r.length]
  exact r.take _
theorem oPopS : MtS K mg rPop popD := fun W A H E Q d x ds xs k rx r h => by
  unfold popD at h
  split at h
  · obtain ⟨a, rfl, ha⟩ := rx
    cases (show xs = [] from r)
    split at h
    · rename_i es q
      split at h
      · rename_i d' q2
        obtain ⟨ys, h2, h3⟩ := k.lookL ha q
        obtain ⟨v, h4, h5⟩ := h3.get q2
        exact ⟨a, ys, v, rfl, rfl, h2, by rw [h3.length]; exact h4, post_write k ha (obl (h3.dropLast)) h5 h⟩
      · exact h.elim
    · exact h.elim
  · exact h.elim
theorem oPopAtS : MtS K mg rPopAt popAtD := fun W A H E Q d x ds xs k rx r h => by
  unfold popAtD at h
  split at h
  · obtain ⟨a, rfl, ha⟩ := rx
    obtain ⟨v, rfl, h1⟩ := reps1 r
    cases (show v = _ from h1)
    split at h
    · rename_i i _ es q
      split at h
      · rename_i z
        split at h
        · rename_i d' q2
          obtain ⟨ys, h2, h3⟩ := k.lookL ha q
          obtain ⟨v, h4, h5⟩ := h3.get q2
          refine ⟨a, ys, _, _, v, rfl, rfl, h2, by omega, z.2.2, ?_, h4, post_write k ha (obl (h3.eraseIdx _)) h5 h⟩
          rw [h3.length]
          exact (ixN_seq (by unfold ixN; rw [if_pos z.1, if_pos z.2.1])).1
        · exact h.elim
      · exact h.elim
    · exact h.elim
  · exact h.elim
theorem oRevS : MtS K mg rReverse revD := fun W A H E Q d x ds xs k rx r h => by
  unfold revD at h
  split at h
  · obtain ⟨a, rfl, ha⟩ := rx
    cases (show xs = [] from r)
    split at h
    · rename_i es q
      obtain ⟨ys, h2, h3⟩ := k.lookL ha q
      exact ⟨a, ys, rfl, rfl, h2, post_write (d := .non) k ha (obl (h3.reverse)) rfl h⟩
    · exact h.elim
  · exact h.elim
theorem oClrS : MtS K mg rClear clrD := fun W A H E Q d x ds xs k rx r h => by
  unfold clrD at h
  split at h
  · obtain ⟨a, rfl, ha⟩ := rx
    cases (show xs = [] from r)
    split at h
    · rename_i es q
      obtain ⟨ys, h2, h3⟩ := k.lookL ha q
      exact ⟨a, ys, rfl, rfl, h2, post_write (d := .non) k ha (obl (show Reps K W [] [] from rfl)) rfl h⟩
    · exact h.elim
  · exact h.elim
theorem findI_at : ∀ {ns : List Int} {k : Int} {j : Nat}, findI k ns = some j → ns[j]? = some k ∧ ∀ m : Nat, m < j → ns[m]? ≠ some k
  | [], _, _, e => by cases e
  | i :: is, k, j, e => by
    unfold findI at e
    by_cases q : i = k
    · rw [if_pos q] at e
      cases e
      exact ⟨by simp [q], fun m hm => absurd hm (Nat.not_lt_zero m)⟩
    · rw [if_neg q] at e
      obtain ⟨j', e1, rfl⟩ := Option.map_eq_some_iff.mp e
      obtain ⟨h1, h2⟩ := findI_at e1
      refine ⟨by simpa using h1, fun m hm => ?_⟩
      cases m with
      | zero => simpa using q
      | succ m => simpa using h2 m (by omega)
theorem oRemS : MtS K mg rRemI remD := fun W A H E Q d x ds xs k rx r h => by
  unfold remD at h
  split at h
  · obtain ⟨a, rfl, ha⟩ := rx
    obtain ⟨v, rfl, h1⟩ := reps1 r
    cases (show v = _ from h1)
    split at h
    · rename_i es q
      split at h
      · rename_i ns q2
        split at h
        · rename_i j q3
          obtain ⟨ys, h2, h3⟩ := k.lookL ha q
          have ey := intsD_at q2 h3
          subst ey
          obtain ⟨f1, f2⟩ := findI_at q3
          exact ⟨a, ns, _, j, rfl, rfl, h2, f1, f2, post_write (d := .non) k ha (obl (reps_ints W _)) rfl h⟩
        · exact h.elim
      · exact h.elim
    · exact h.elim
  · exact h.elim
end

/-! ### texts -/
def strsD : List D → Option (List Str)
  | [] => some []
  | .str z :: ds => (strsD ds).map (z :: ·)
  | _ :: _ => none
def joinD : D → List D → AH → R D
  | .str a, [d], A => match (itemsD A d).bind strsD with
    | some ys => if (ys.map (·.length)).sum + ys.length * a.length ≤ 16777216 then .ok (.str (Txt.join a ys)) A else .bad
    | none => .bad
  | _, _, _ => .bad
def splitD : D → List D → AH → R D
  | .str a, [.str b], A => if (b.length == 0) = false ∧ a.length + 2 ≤ 16777216 then .ok (.lst ((Txt.split a b).map .str)) A else .bad
  | _, _, _ => .bad
section
variable {K : PySem.W.Frag} {mg : Str → Option Value}
theorem strsD_at {W : Wd} : ∀ {ds : List D} {ys : List Str} {xs : List V}, strsD ds = some ys → Reps K W ds xs → xs = ys.map V.str
  | [], ys, xs, e, r => by
    cases (show some [] = some ys from e)
    exact r
  | d :: ds, ys, xs, e, r => by
    cases d with
    | str z =>
      obtain ⟨ys', e1, rfl⟩ := Option.map_eq_some_iff.mp (show (strsD ds).map (z :: ·) = some ys from e)
      obtain ⟨v, r', rfl, h1, h2⟩ := r
      rw [strsD_at e1 h2, (show v = .str z from h1)]
      rfl
    | _ => cases (show none = some ys from e)
theorem reps_strs (W : Wd) : ∀ ys : List Str, Reps K W (ys.map .str) (ys.map V.str)
  | [] => rfl
  | y :: ys => ⟨_, _, rfl, rfl, reps_strs W ys⟩
theorem oJoinS : MtS K mg (fun x xs H Q => ∃ a p, ∃ ys : List Str, x = .str a ∧ xs = [.ref p] ∧ (SqL K H p (ys.map V.str) ∨ SqT K H p (ys.map V.str)) ∧ (ys.map (·.length)).sum + ys.length * a.length ≤ 16777216 ∧ Q (.str (Txt.join a ys)) H) joinD :=
  fun W A H E Q d x ds xs k rx r h => by
    unfold joinD at h
    split at h
    · cases (show x = _ from rx)
      obtain ⟨v, rfl, h1⟩ := reps1 r
      split at h
      · rename_i ys e1
        obtain ⟨es, e2, e3⟩ := Option.bind_eq_some_iff.mp e1
        split at h
        · rename_i z
          obtain ⟨p, zs, rfl, h2, h3⟩ := itemsD_at k h1 e2
          have ez := strsD_at e3 h3
          subst ez
          exact ⟨_, p, ys, rfl, rfl, h2, z, h.ok_at k rfl⟩
        · exact h.elim
      · exact h.elim
    · exact h.elim
theorem oSplitS : MtS K mg (fun x xs H Q => ∃ a b, x = .str a ∧ xs = [.str b] ∧ (b.length == 0) = false ∧ a.length + 2 ≤ sizeLine ∧ rNewStrs (Txt.split a b) H Q) splitD :=
  fun W A H E Q d x ds xs k rx r h => by
    unfold splitD at h
    split at h
    · cases (show x = _ from rx)
      obtain ⟨v, rfl, h1⟩ := reps1 r
      cases (show v = _ from h1)
      split at h
      · rename_i z
        exact ⟨_, _, rfl, rfl, z.1, sz_of z.2, fun p hp => post_lst k h (reps_strs W _) hp⟩
      · exact h.elim
    · exact h.elim
end

/-! ### dicts -/
def getD1 (x y : D) (A : AH) : R D := match dctD A x, keyD y with
  | some kvs, some k => .ok ((lkK kvs k).getD .non) A
  | _, _ => .bad
def getD2 (x y z : D) (A : AH) : R D := match dctD A x, keyD y with
  | some kvs, some k => .ok ((lkK kvs k).getD z) A
  | _, _ => .bad
def mGet1 (o y : ME) : ME := fun s A => (o s A).bind fun x A1 => if (dctD A1 x).isSome then (y s A1).bind fun d A2 => getD1 x d A2 else .bad
def mGet2 (o y z : ME) : ME := fun s A => (o s A).bind fun x A1 => if (dctD A1 x).isSome then (y s A1).bind fun d A2 => (z s A2).bind fun e A3 => getD2 x d e A3 else .bad
section
variable {X : Cx} {Wx : WX} {o e f : Expr} {to te tf : TE} {mo me mf : ME} {apos cpos : Pos} {kk : Nat}
theorem isD_of {K : PySem.W.Frag} {mg : Str → Option Value} {W : Wd} {A : AH} {H : Hp} (k : Ok K mg W A H) {d : D} {x : V} (r : Rep K W d x) (h : (dctD A d).isSome = true) : ∃ a, x = .ref a ∧ IsD H a := by
  obtain ⟨kvs, e1⟩ := Option.isSome_iff_exists.mp h
  obtain ⟨a, vs, rfl, h1, _⟩ := dctD_at k r e1
  exact ⟨a, rfl, .inl ⟨vs, .inl h1⟩⟩
theorem sget1 (hr : Room kk X.A) (ho : SE X Wx o to mo) (he : SE X Wx e te me) (m : M1 X o "get" apos e cpos := by exact ⟨by rfl, by rfl, by rfl, by rfl⟩) : SE X Wx (.Call (.Attribute o "get" apos) [e] [] cpos) (tDGet1 to te) (mGet1 mo me) :=
  ⟨pe_dget1 (room_u1 hr) ho.pe he.pe m, fun W σ s A H Q k sr z => ho.sim W σ s A H _ k sr (z.bind fun x A1 v W1 H1 e1 k1 r1 h1 => by
    by_cases q : (dctD A1 x).isSome = true
    · rw [if_pos q] at h1
      obtain ⟨a, rfl, hd⟩ := isD_of k1 r1 q
      refine ⟨a, rfl, hd, he.sim W1 σ s A1 H1 _ k1 (sr.le e1.le) (h1.bind fun y A2 u W2 H2 e2 k2 r2 h2 => ?_)⟩
      unfold getD1 at h2
      split at h2
      · rename_i kvs kx q1 q2
        obtain ⟨b, vs, ev, h3, h4⟩ := dctD_at k2 (r1.le e2.le) q1
        cases ev
        refine ⟨valV vs kx, ?_, h2.ok_at k2 ?_⟩
        · rw [keyD_at r2 q2]
          exact .k h3
        · cases q3 : lkK kvs kx with
          | none =>
            rw [h4.none q3]
            exact rfl
          | some d =>
            obtain ⟨w', h5, h6⟩ := h4.get q3
            rw [h5]
            exact h6
      · exact h2.elim
    · rw [if_neg q] at h1
      exact h1.elim)⟩
theorem sget2 (hr : Room kk X.A) (ho : SE X Wx o to mo) (he : SE X Wx e te me) (hf : SE X Wx f tf mf) (m : M2 X o "get" apos e f cpos := by exact ⟨by rfl, by rfl, by rfl, by rfl⟩) : SE X Wx (.Call (.Attribute o "get" apos) [e, f] [] cpos) (tDGet2 to te tf) (mGet2 mo me mf) :=
  ⟨pe_dget2 (room_u1 hr) ho.pe he.pe hf.pe m, fun W σ s A H Q k sr z => ho.sim W σ s A H _ k sr (z.bind fun x A1 v W1 H1 e1 k1 r1 h1 => by
    by_cases q : (dctD A1 x).isSome = true
    · rw [if_pos q] at h1
      obtain ⟨a, rfl, hd⟩ := isD_of k1 r1 q
      refine ⟨a, rfl, hd, he.sim W1 σ s A1 H1 _ k1 (sr.le e1.le) (h1.bind fun y A2 u W2 H2 e2 k2 r2 h2 => hf.sim W2 σ s A2 H2 _ k2 (sr.le (e1.trans e2).le) (h2.bind fun dz A3 uz W3 H3 e3 k3 r3 h3 => ?_))⟩
      unfold getD2 at h3
      split at h3
      · rename_i kvs kx q1 q2
        obtain ⟨b, vs, ev, h4, h5⟩ := dctD_at k3 (r1.le (e2.trans e3).le) q1
        cases ev
        refine ⟨valV vs kx, ?_, h3.ok_at k3 ?_⟩
        · rw [keyD_at r2 q2]
          exact .k h4
        · cases q3 : lkK kvs kx with
          | none =>
            rw [h5.none q3]
            exact r3
          | some d =>
            obtain ⟨w', h6, h7⟩ := h5.get q3
            rw [h6]
            exact h7
      · exact h3.elim
    · rw [if_neg q] at h1
      exact h1.elim)⟩
end

/-! ### {k: v, ..} -/
abbrev MP := Sl → AH → R (List (D × D))
def RepP (K : PySem.W.Frag) (W : Wd) : List (D × D) → List (V × V) → Prop
  | [], ps => ps = []
  | p :: ds, ps => ∃ q r, ps = q :: r ∧ Rep K W p.1 q.1 ∧ Rep K W p.2 q.2 ∧ RepP K W ds r
structure SPs (X : Cx) (Wx : WX) (pos : Pos) (keys : List (Option Expr)) (values : List Expr) (trs : List (TE × TE)) (m : MP) : Prop where
  pps : PPs X pos keys values trs
  sim : ∀ (W : Wd) (σ : L2.St) (s : Sl) (A : AH) (H : Hp) (Q : List (V × V) → Hp → Prop), Ok X.K X.mg W A H → SlR X.K W s σ → Post X.K X.mg (RepP X.K) W H (fun c d H' => Wx c d σ H') Q (m s A) → tPairs trs σ H Q
def mPNil : MP := fun _ A => .ok [] A
def mPCons (a b : ME) (r : MP) : MP := fun s A => (a s A).bind fun x A1 => (b s A1).bind fun y A2 => (r s A2).bind fun ps A3 => .ok ((x, y) :: ps) A3
def keysD : List (D × D) → Option (List (Key × D))
  | [] => some []
  | p :: ps => match keyD p.1, keysD ps with
    | some k, some kvs => some ((k, p.2) :: kvs)
    | _, _ => none
def mergeD (kvs more : List (Key × D)) : List (Key × D) := more.foldl (fun acc kv => ptK acc kv.1 kv.2) kvs
/-- a dict that lies still; one that will change -/
def mDct (m : MP) : ME := fun s A => (m s A).bind fun ps A1 => match keysD ps with
  | some kvs => if kvs.length ≤ 15 then .ok (.dct ((mergeD [] kvs).map (·.1)) ((mergeD [] kvs).map (·.2))) A1 else .bad
  | none => .bad
def mDctN (m : MP) : ME := fun s A => (m s A).bind fun ps A1 => match keysD ps with
  | some kvs => if kvs.length ≤ 15 then .ok (.ref A1.length) (A1 ++ [.dct (mergeD [] kvs)]) else .bad
  | none => .bad
section
variable {K : PySem.W.Frag} {mg : Str → Option Value} {W : Wd}
theorem RepP.le {W' : Wd} (l : Le W W') : ∀ {ds : List (D × D)} {ps : List (V × V)}, RepP K W ds ps → RepP K W' ds ps
  | [], _, h => h
  | _ :: _, _, h => by
    obtain ⟨q, r, e, h1, h2, h3⟩ := h
    exact ⟨q, r, e, h1.le l, h2.le l, RepP.le l h3⟩
theorem keysD_at : ∀ {ds : List (D × D)} {ps : List (V × V)} {kvs : List (Key × D)}, RepP K W ds ps → keysD ds = some kvs → ∃ vs : List (Key × V), ps = vs.map (fun kv => (kV kv.1, kv.2)) ∧ KVR K W kvs vs
  | [], ps, kvs, r, e => by
    cases (show some [] = some kvs from e)
    cases (show ps = [] from r)
    exact ⟨[], rfl, rfl, rfl⟩
  | p :: ds, ps, kvs, r, e => by
    obtain ⟨q, r', rfl, h1, h2, h3⟩ := r
    unfold keysD at e
    split at e
    · rename_i kx kvs' e1 e2
      cases e
      obtain ⟨vs, e3, e4⟩ := keysD_at h3 e2
      refine ⟨(kx, q.2) :: vs, ?_, KVR.mk_cons h2 e4⟩
      rw [List.map_cons, ← e3, ← keyD_at h1 e1]
    · cases e
theorem KVR.merge : ∀ {more : List (Key × D)} {ms : List (Key × V)} {kvs : List (Key × D)} {vs : List (Key × V)}, KVR K W more ms → KVR K W kvs vs → KVR K W (mergeD kvs more) (mergeK vs ms)
  | [], ms, kvs, vs, r, r' => by
    cases r.nil_iff
    exact r'
  | p :: more, ms, kvs, vs, r, r' => by
    obtain ⟨v, ms', rfl, h1, h2⟩ := r.cons_iff
    have e : mergeK vs ((p.1, v) :: ms') = mergeK (putK vs p.1 v) ms' := rfl
    rw [e]
    exact KVR.merge (more := more) h2 (r'.put h1)
theorem KVR.zipMap {kvs : List (Key × D)} : ((kvs.map (·.1)).zip (kvs.map (·.2))) = kvs := by
  induction kvs with
  | nil => rfl
  | cons p r ih => simp only [List.map_cons, List.zip_cons_cons, ih]
end
section
variable {X : Cx} {Wx : WX} {pos : Pos} {a b : Expr} {keys : List (Option Expr)} {values : List Expr} {ta tb : TE} {ma mb : ME} {trs : List (TE × TE)} {m : MP}
theorem spnil : SPs X Wx pos [] [] [] mPNil := ⟨pps_nil, fun W σ s A H Q k sr h => h.ok_at k rfl⟩
theorem spcons (ha : SE X Wx a ta ma) (hb : SE X Wx b tb mb) (h : SPs X Wx pos keys values trs m) : SPs X Wx pos (some a :: keys) (b :: values) ((ta, tb) :: trs) (mPCons ma mb m) :=
  ⟨pps_cons ha.pe hb.pe h.pps, fun W σ s A H Q k sr z => ha.sim W σ s A H _ k sr (z.bind fun x A1 v W1 H1 e1 k1 r1 h1 => hb.sim W1 σ s A1 H1 _ k1 (sr.le e1.le) (h1.bind fun y A2 u W2 H2 e2 k2 r2 h2 =>
    h.sim W2 σ s A2 H2 _ k2 (sr.le (e1.trans e2).le) (h2.bind fun ps A3 qs W3 H3 e3 k3 r3 h3 => h3.ok_at k3 ⟨(v, u), qs, rfl, r1.le (e2.trans e3).le, r2.le e3.le, r3⟩)))⟩
theorem sdct (h : SPs X Wx pos keys values trs m) (hall : keys.all (·.isSome) = true := by rfl) (hl : keys.length = values.length := by rfl) (h0 : keys ≠ [] := by (intro z; cases z)) (h15 : keys.length ≤ 15 := by decide) : SE X Wx (.Dict keys values pos) (tDisp trs) (mDct m) :=
  ⟨pe_disp h.pps hall hl h0 h15, fun W σ s A H Q k sr z p hp => by
    obtain ⟨k0, e0⟩ := k.aside hp (.dK [])
    refine h.sim W σ s A _ _ k0 (sr.le e0.le) (z.bind0 e0 fun ps A1 qs W1 H1 e1 k1 r1 h1 => ?_)
    obtain ⟨nm, nF, k2, e2, hh⟩ := Ok.undo hp k e1 k1
    refine ⟨hh, ?_⟩
    split at h1
    · rename_i kvs q
      split at h1
      · rename_i q15
        obtain ⟨vs, ev, rr⟩ := keysD_at r1 q
        refine ⟨vs, ev, by rw [rr.len]; exact q15, ?_⟩
        have mm := KVR.merge rr (kvs := []) (vs := []) ⟨rfl, rfl⟩
        obtain ⟨k3, e3⟩ := k2.frozen delH_same (.dK (mergeK [] vs))
        rw [upd_delH] at k3 e3
        exact h1 _ _ _ (e2.trans e3) k3 ⟨p, _, rfl, upd_same, mm.1, mm.2.le e3.le⟩
      · exact h1.elim
    · exact h1.elim⟩
theorem sdctN (h : SPs X Wx pos keys values trs m) (hall : keys.all (·.isSome) = true := by rfl) (hl : keys.length = values.length := by rfl) (h0 : keys ≠ [] := by (intro z; cases z)) (h15 : keys.length ≤ 15 := by decide) : SE X Wx (.Dict keys values pos) (tDisp trs) (mDctN m) :=
  ⟨pe_disp h.pps hall hl h0 h15, fun W σ s A H Q k sr z p hp => by
    obtain ⟨k0, e0⟩ := k.aside hp (.dK [])
    refine h.sim W σ s A _ _ k0 (sr.le e0.le) (z.bind0 e0 fun ps A1 qs W1 H1 e1 k1 r1 h1 => ?_)
    obtain ⟨nm, nF, k2, e2, hh⟩ := Ok.undo hp k e1 k1
    refine ⟨hh, ?_⟩
    split at h1
    · rename_i kvs q
      split at h1
      · rename_i q15
        obtain ⟨vs, ev, rr⟩ := keysD_at r1 q
        refine ⟨vs, ev, by rw [rr.len]; exact q15, ?_⟩
        have mm := KVR.merge rr (kvs := []) (vs := []) ⟨rfl, rfl⟩
        have l : Le W1 ⟨W1.F, W1.m ++ [p]⟩ := ⟨fun _ _ e => e, [p], rfl⟩
        obtain ⟨k3, e3⟩ := k2.fresh delH_same (obd (mm.le l))
        rw [upd_delH] at k3 e3
        refine h1 _ _ _ (e2.trans e3) k3 ⟨p, rfl, ?_⟩
        rw [← k2.len]
        exact List.getElem?_concat_length
      · exact h1.elim
    · exact h1.elim⟩
theorem sdct0 : SE X Wx (.Dict [] [] pos) tDNewK (mDct mPNil) := ⟨pe_dnewK, fun W σ s A H Q k sr z p hp => by
    obtain ⟨k3, e3⟩ := k.frozen hp (.dK [])
    exact z _ _ _ e3 k3 ⟨p, _, rfl, upd_same, rfl, rfl⟩⟩
theorem sdct0N : SE X Wx (.Dict [] [] pos) tDNewK (mDctN mPNil) := ⟨pe_dnewK, fun W σ s A H Q k sr z p hp => by
    obtain ⟨k3, e3⟩ := k.fresh hp (o := .dK []) (u := .dct []) ⟨[], rfl, rfl, rfl⟩
    refine z _ _ _ e3 k3 ⟨p, rfl, ?_⟩
    rw [← k.len]
    exact List.getElem?_concat_length⟩
end
end Tg

set_option Elab.async false
set_option linter.all false
set_option maxRecDepth 100000
set_option maxHeartbeats 2000000
/-! TgStmt: statements, loops, comprehensions. -/
namespace Tg
open PySem PySem.Spec PyProof.Rows L2

inductive RS where
  | nx (s : Sl) (A : AH)
  | rt (d : D) (A : AH)
  | bk (s : Sl) (A : AH)
  | ct (s : Sl) (A : AH)
  | exc (x : XV) (s : Sl) (A : AH)
  | bad
abbrev MS := Sl → AH → RS
def PostS (K : PySem.W.Frag) (mg : Str → Option Value) (W : Wd) (H : Hp) (De : Ends) (Wx : WX) : RS → Prop
  | .nx s A => ∀ W' σ' H', Ext W H W' H' → Ok K mg W' A H' → SlR K W' s σ' → De.nx σ' H'
  | .rt d A => ∀ W' v H', Ext W H W' H' → Ok K mg W' A H' → Rep K W' d v → De.rt v H'
  | .bk s A => ∀ W' σ' H', Ext W H W' H' → Ok K mg W' A H' → SlR K W' s σ' → De.bk σ' H'
  | .ct s A => ∀ W' σ' H', Ext W H W' H' → Ok K mg W' A H' → SlR K W' s σ' → De.ct σ' H'
  | .exc x s A => ∀ W' σ' H' c d, Ext W H W' H' → Ok K mg W' A H' → SlR K W' s σ' → XRep K mg W' x c d H' → Wx c d σ' H'
  | .bad => False
section
variable {K : PySem.W.Frag} {mg : Str → Option Value} {W W1 : Wd} {H H1 : Hp} {De : Ends} {Wx : WX}
theorem PostS.ext {r : RS} (e : Ext W H W1 H1) (h : PostS K mg W H De Wx r) : PostS K mg W1 H1 De Wx r := by
  cases r with
  | nx s A => exact fun W' σ' H' x => h W' σ' H' (e.trans x)
  | rt s A => exact fun W' σ' H' x => h W' σ' H' (e.trans x)
  | bk s A => exact fun W' σ' H' x => h W' σ' H' (e.trans x)
  | ct s A => exact fun W' σ' H' x => h W' σ' H' (e.trans x)
  | exc y s A => exact fun W' σ' H' c d x => h W' σ' H' c d (e.trans x)
  | bad => exact h
theorem PostS.nx_at {s : Sl} {A : AH} {σ : L2.St} (h : PostS K mg W H De Wx (.nx s A)) (k : Ok K mg W A H) (sr : SlR K W s σ) : De.nx σ H := h W σ H (Ext.refl W H) k sr
end
def SimS (K : PySem.W.Frag) (mg : Str → Option Value) (Wx : WX) (t : TS) (m : MS) : Prop :=
  ∀ (W : Wd) (σ : L2.St) (s : Sl) (A : AH) (H : Hp) (De : Ends), Ok K mg W A H → SlR K W s σ → PostS K mg W H De Wx (m s A) → t De σ H
structure SS (X : Cx) (Wx : WX) (st : Stmt) (t : TS) (m : MS) : Prop where
  ps : PS X st t
  sim : SimS X.K X.mg Wx t m
structure SSs (X : Cx) (Wx : WX) (st : List Stmt) (t : TS) (m : MS) : Prop where
  ps : PSs X st t
  sim : SimS X.K X.mg Wx t m
/-- behind an expression -/
def R.thenS {α : Type} (r : R α) (s : Sl) (f : α → AH → RS) : RS := match r with
  | .ok a A => f a A
  | .exc x A => .exc x s A
  | .bad => .bad
@[simp] theorem R.thenS_ok {α : Type} (a : α) (A : AH) (s : Sl) (f : α → AH → RS) : (R.ok a A).thenS s f = f a A := rfl
@[simp] theorem R.thenS_exc {α : Type} (x : XV) (A : AH) (s : Sl) (f : α → AH → RS) : (R.exc x A).thenS s f = .exc x s A := rfl
@[simp] theorem R.thenS_bad {α : Type} (s : Sl) (f : α → AH → RS) : (R.bad : R α).thenS s f = .bad := rfl
theorem PostS.bind {α β : Type} {K : PySem.W.Frag} {mg : Str → Option Value} {rel : Wd → α → β → Prop} {W : Wd} {H : Hp} {De : Ends} {Wx : WX} {Q : β → Hp → Prop} {r : R α} {s : Sl} {σ : L2.St} {f : α → AH → RS} (sr : SlR K W s σ) (h : PostS K mg W H De Wx (r.thenS s f))
    (g : ∀ a A1 b W1 H1, Ext W H W1 H1 → Ok K mg W1 A1 H1 → rel W1 a b → PostS K mg W1 H1 De Wx (f a A1) → Q b H1) : Post K mg rel W H (fun c d H' => Wx c d σ H') Q r := by
  cases r with
  | ok a A' => exact fun W' H' b x k z => g a A' b W' H' x k z (PostS.ext x h)
  | exc x A' => exact fun W' H' c d y k z => h W' σ H' c d y k (sr.le y.le) z
  | bad => exact h

def mNx : MS := fun s A => .nx s A
def mSeq (a b : MS) : MS := fun s A => match a s A with
  | .nx s1 A1 => b s1 A1
  | r => r
def mDrop (m : ME) : MS := fun s A => (m s A).thenS s fun _ A1 => .nx s A1
def mRet (m : ME) : MS := fun s A => (m s A).thenS s fun d A1 => .rt d A1
def mRetN : MS := fun _ A => .rt .non A
def mIfS (c : MT) (a b : MS) : MS := fun s A => (c s A).thenS s fun k A1 => if k then a s A1 else b s A1
def mCt : MS := fun s A => .ct s A
def mBk : MS := fun s A => .bk s A
def mNever : MS := fun _ _ => .bad
abbrev MG := D → Sl → Option Sl
def mAsg (m : ME) (g : MG) : MS := fun s A => (m s A).thenS s fun d A1 => match g d s with
  | some s1 => .nx s1 A1
  | none => .bad
def gmN (i : Nat) : MG := fun d s => some (s.set i (some d))
abbrev MGs := List D → Sl → Option Sl
def gmNil : MGs := fun ds s => match ds with
  | [] => some s
  | _ => none
def gmCons (g : MG) (gs : MGs) : MGs := fun ds s => match ds with
  | d :: r => match g d s with
    | some s1 => gs r s1
    | none => none
  | _ => none
def gmTup (n : Nat) (gs : MGs) : MG := fun d s => match d with
  | .tup ds => if ds.length = n then gs ds s else none
  | _ => none
theorem wipe_set {i : Nat} {o : Option V} : ∀ {vs : List Nat} {σ : L2.St}, wipe (σ.set i o) vs = if i ∈ vs then wipe σ vs else (wipe σ vs).set i o
  | [], σ => rfl
  | v :: vs, σ => by
    show (wipe (σ.set i o) vs).set v none = if i ∈ v :: vs then (wipe σ vs).set v none else ((wipe σ vs).set v none).set i o
    rw [wipe_set]
    by_cases h : i ∈ vs
    · rw [if_pos h, if_pos (List.mem_cons_of_mem _ h)]
    · rw [if_neg h]
      by_cases q : i = v
      · subst q
        rw [if_pos (List.mem_cons_self ..), List.set_set]
      · rw [if_neg (by simp only [List.mem_cons, not_or]; exact ⟨q, h⟩), List.set_comm _ _ q]
theorem wipe_in {i : Nat} {o : Option V} {vs : List Nat} {σ : L2.St} (h : i ∈ vs) : wipe (σ.set i o) vs = wipe σ vs := by rw [wipe_set, if_pos h]
def wpD (s : Sl) : List Nat → Sl
  | [] => s
  | v :: vs => (wpD s vs).set v none
theorem SlR.wipe {K : PySem.W.Frag} {W : Wd} {s : Sl} {σ : L2.St} (h : Tg.SlR K W s σ) : ∀ vs : List Nat, Tg.SlR K W (wpD s vs) (L2.wipe σ vs)
  | [] => h
  | v :: vs => (SlR.wipe h vs).unset v
/-- a target; is: its slots -/
structure SG (X : Cx) (tg : Expr) (g : TG) (m : MG) (is : List Nat) : Prop where
  pg : PG X tg g
  sim : ∀ (W : Wd) (σ : L2.St) (s s1 : Sl) (A : AH) (H : Hp) (d : D) (x : V) (Q : L2.St → Hp → Prop), Ok X.K X.mg W A H → SlR X.K W s σ → Rep X.K W d x → m d s = some s1 →
    (∀ σ', SlR X.K W s1 σ' → (∀ vs, (∀ i ∈ is, i ∈ vs) → wipe σ' vs = wipe σ vs) → Q σ' H) → g x σ H Q
structure SGs (X : Cx) (tg : List Expr) (g : TGs) (m : MGs) (is : List Nat) : Prop where
  pgs : PGs X tg g
  sim : ∀ (W : Wd) (σ : L2.St) (s s1 : Sl) (A : AH) (H : Hp) (ds : List D) (xs : List V) (Q : L2.St → Hp → Prop), Ok X.K X.mg W A H → SlR X.K W s σ → Reps X.K W ds xs → m ds s = some s1 →
    (∀ σ', SlR X.K W s1 σ' → (∀ vs, (∀ i ∈ is, i ∈ vs) → wipe σ' vs = wipe σ vs) → Q σ' H) → g xs σ H Q
section
variable {X : Cx} {Wx : WX} {e : Expr} {es : List Expr} {te : TE} {me : ME} {pos : Pos}
theorem gname {i : Nat} {x : Str} (hN : X.N.Nodup) (hi : X.N[i]? = some x := by rfl) (hx : Loc X.env.scope x := by first | exact Or.inl rfl | exact Or.inr rfl) (hf : X.fn x = true ∨ X.env.scope.names.lookup x = some .local := by first | exact .inl rfl | exact .inr rfl | assumption) :
    SG X (.Name x pos) (gName i) (gmN i) [i] := ⟨pg_name hN hi hx hf, fun W σ s s1 A H d x Q k sr r e h => by
  cases e
  exact h _ (sr.set i r) fun vs hv => wipe_in (hv i (by simp))⟩
theorem gnil : SGs X [] gNil gmNil [] := ⟨pgs_nil, fun W σ s s1 A H ds xs Q k sr r e h => by
  cases ds with
  | nil =>
    cases e
    exact ⟨r, h σ sr fun _ _ => rfl⟩
  | cons d ds => cases e⟩
theorem gcons {g : TG} {gs : TGs} {m : MG} {ms : MGs} {is js : List Nat} (h1 : SG X e g m is) (h2 : SGs X es gs ms js) (hs : (assignEach (e :: es) X.env).map (·.2) = assign e X.env :: (assignEach es X.env).map (·.2) := by rfl) :
    SGs X (e :: es) (gCons g gs) (gmCons m ms) (is ++ js) := ⟨pgs_cons h1.pg h2.pgs hs, fun W σ s s1 A H ds xs Q k sr r eq h => by
  cases ds with
  | nil => cases eq
  | cons d ds =>
    obtain ⟨v, r', rfl, r1, r2⟩ := r
    unfold gmCons at eq
    dsimp only at eq
    split at eq
    · rename_i s2 e1
      exact ⟨v, r', rfl, h1.sim W σ s s2 A H d v _ k sr r1 e1 fun σ2 sr2 w2 => h2.sim W σ2 s2 s1 A H ds r' _ k sr2 r2 eq fun σ3 sr3 w3 => h σ3 sr3 fun vs hv =>
        (w3 vs fun i hi => hv i (List.mem_append_right _ hi)).trans (w2 vs fun i hi => hv i (List.mem_append_left _ hi))⟩
    · cases eq⟩
theorem gtup {gs : TGs} {ms : MGs} {is : List Nat} {n j : Nat} (hc : X.calm = true) (h : SGs X es gs ms is) (hn : (assignEach es X.env).length = n := by rfl) (hst : (assignEach es X.env).findIdx? (·.1) = none := by rfl) :
    SG X (.Tuple es j pos) (gTup X.K n gs) (gmTup n ms) is := ⟨pg_tup hc h.pgs hn hst, fun W σ s s1 A H d x Q k sr r eq hq => by
  unfold gmTup at eq
  split at eq
  · rename_i ds
    split at eq
    · rename_i hl
      obtain ⟨a, xs, rfl, q1, q2⟩ := tup_at k r
      exact ⟨a, xs, rfl, q1, q2.length.trans hl, h.sim W σ s s1 A H ds xs Q k sr q2 eq hq⟩
    · cases eq
  · cases eq⟩
end

section
variable {X : Cx} {Wx : WX} {c e o : Expr} {es : List Expr} {st : Stmt} {rest as bs : List Stmt} {te to : TE} {me mo : ME} {tc : TT} {mc' : MT} {t u : TS} {m n : MS} {pos pos' : Pos}
theorem ssnil : SSs X Wx [] tNext mNx := ⟨pss_nil, fun W σ s A H De k sr h => h.nx_at k sr⟩
theorem sscons (h1 : SS X Wx st t m) (h2 : SSs X Wx rest u n) : SSs X Wx (st :: rest) (tSeq t u) (mSeq m n) :=
  ⟨pss_cons h1.ps h2.ps, fun W σ s A H De k sr h => h1.sim W σ s A H _ k sr (by
    unfold mSeq at h
    split at h
    · rename_i s1 A1 e1
      rw [e1]
      exact fun W' σ' H' x k' sr' => h2.sim W' σ' s1 A1 H' De k' sr' (PostS.ext x h)
    · rename_i z
      generalize hm : m s A = r at h z
      cases r with
      | nx s1 A1 => exact absurd rfl (z s1 A1)
      | _ => exact h)⟩
theorem ssone (h1 : SS X Wx st t m) : SSs X Wx [st] t m := ⟨pss_one h1.ps, h1.sim⟩
theorem spass : SS X Wx (.Pass pos) tNext mNx := ⟨ps_pass, fun W σ s A H De k sr h => h.nx_at k sr⟩
theorem scont : SS X Wx (.Continue pos) tCont mCt := ⟨ps_continue, fun W σ s A H De k sr h => h W σ H (Ext.refl W H) k sr⟩
theorem sbrk : SS X Wx (.Break pos) tBreak mBk := ⟨ps_break, fun W σ s A H De k sr h => h W σ H (Ext.refl W H) k sr⟩
theorem snever : SS X Wx st tNever mNever := ⟨ps_never, fun W σ s A H De k sr h => h.elim⟩
theorem sexpr (h : SE X Wx e te me) (hs : swapsWith e none pos.line X.env = pure false := by rfl) : SS X Wx (.Expr e pos) (tDrop te) (mDrop me) :=
  ⟨ps_expr h.pe hs, fun W σ s A H De k sr z => h.sim W σ s A H _ k sr (PostS.bind (rel := Rep X.K) sr z fun d A1 v W1 H1 e1 k1 r1 h1 => h1.nx_at k1 (sr.le e1.le))⟩
theorem sret (h : SE X Wx e te me) : SS X Wx (.Return (some e) pos) (tRet te) (mRet me) :=
  ⟨ps_ret h.pe, fun W σ s A H De k sr z => h.sim W σ s A H _ k sr (PostS.bind (rel := Rep X.K) sr z fun d A1 v W1 H1 e1 k1 r1 h1 => h1 W1 v H1 (Ext.refl _ _) k1 r1)⟩
theorem sretN : SS X Wx (.Return none pos) tRetN mRetN := ⟨ps_retN, fun W σ s A H De k sr h => h W .non H (Ext.refl _ _) k rfl⟩
theorem sifS (hc : ST X Wx c tc mc') (ha : SSs X Wx as t m) (hb : SSs X Wx bs u n) : SS X Wx (.If c as bs pos) (tIfS tc t u) (mIfS mc' m n) :=
  ⟨ps_if hc.pt ha.ps hb.ps, fun W σ s A H De k sr z => hc.sim W σ s A H _ k sr (PostS.bind (rel := relB) sr z fun x A1 v W1 H1 e1 k1 r1 h1 => by
    cases r1
    cases x with
    | true => exact ha.sim W1 σ s A1 H1 De k1 (sr.le e1.le) h1
    | false => exact hb.sim W1 σ s A1 H1 De k1 (sr.le e1.le) h1)⟩
theorem sim_asg {K : PySem.W.Frag} {mg : Str → Option Value} {g : TG} {mgt : MG} (h : SimE K mg Wx te me) (hg : ∀ (W : Wd) (σ : L2.St) (s s1 : Sl) (A : AH) (H : Hp) (d : D) (x : V) (Q : L2.St → Hp → Prop), Ok K mg W A H → SlR K W s σ → Rep K W d x → mgt d s = some s1 →
    (∀ σ', SlR K W s1 σ' → Q σ' H) → g x σ H Q) : SimS K mg Wx (tAsg te g) (mAsg me mgt) := fun W σ s A H De k sr z => h W σ s A H _ k sr (PostS.bind (rel := Rep K) sr z fun d A1 v W1 H1 e1 k1 r1 h1 => by
  split at h1
  · rename_i s1 q
    exact hg W1 σ s s1 A1 H1 d v _ k1 (sr.le e1.le) r1 q fun σ' sr' => h1.nx_at k1 sr'
  · exact h1.elim)
/-- name = e -/
theorem sset (i : Nat) {x : Str} (hN : X.N.Nodup) (h : SE X Wx e te me) (hi : X.N[i]? = some x := by rfl) (hx : Loc X.env.scope x := by first | exact Or.inl rfl | exact Or.inr rfl) (hs : swapsWith e (some (.Name x pos')) pos.line X.env = pure false := by rfl)
    (hf : X.fn x = true ∨ X.env.scope.names.lookup x = some .local := by first | exact .inl rfl | exact .inr rfl | assumption) : SS X Wx (.Assign [.Name x pos'] e pos) (tAsg te (gName i)) (mAsg me (gmN i)) :=
  ⟨ps_set hN hi hx h.pe hs hf, sim_asg h.sim fun W σ s s1 A H d x Q k sr r eq hq => by
    cases eq
    exact hq _ (sr.set i r)⟩
/-- (a, b) = e -/
theorem sasg {tg : Expr} {g : TG} {m : MG} {is : List Nat} (h : SE X Wx e te me) (hg : SG X tg g m is) (hs : swapsWithSole [tg] e pos.line X.env = pure false := by rfl) (hw : swappedStores [tg] e X.env = pure none := by rfl)
    (h1 : (assignEach [tg] X.env).map (·.2) = [assign tg X.env] := by rfl) : SS X Wx (.Assign [tg] e pos) (tAsg te g) (mAsg me m) :=
  ⟨ps_asg h.pe hg.pg hs hw h1, sim_asg h.sim fun W σ s s1 A H d x Q k sr r eq hq => hg.sim W σ s s1 A H d x Q k sr r eq fun σ' sr' _ => hq σ' sr'⟩
/-- a, b = e1, e2 and a, b, c = e1, e2, e3 -/
def mPar (is : List Nat) (m : MA) : MS := fun s A => (m s A).thenS s fun ds A1 => match is, ds with
  | [i, j], [d, e] => .nx ((s.set i (some d)).set j (some e)) A1
  | [i, j, l], [d, e, f] => .nx (((s.set i (some d)).set j (some e)).set l (some f)) A1
  | _, _ => .bad
theorem spar {i j : Nat} {x y : Str} {a b : Expr} {ta : TA} {ma : MA} {px py pt pt2 : Pos} {kt k2 : Nat} (hc : X.calm = true) (hN : X.N.Nodup) (h : SA X Wx [a, b] ta ma) (hp : PS X (.Assign [.Tuple [.Name x px, .Name y py] kt pt] (.Tuple [a, b] k2 pt2) pos) (tPar i j ta)) :
    SS X Wx (.Assign [.Tuple [.Name x px, .Name y py] kt pt] (.Tuple [a, b] k2 pt2) pos) (tPar i j ta) (mPar [i, j] ma) :=
  ⟨hp, fun W σ s A H De k sr z => h.sim W σ s A H _ k sr (PostS.bind (rel := Reps X.K) sr z fun ds A1 v W1 H1 e1 k1 r1 h1 => by
    split at h1
    · rename_i i' j' d' e' q
      simp only [List.cons.injEq] at q
      obtain ⟨rfl, rfl, _⟩ := q
      obtain ⟨v1, v2, rfl, q1, q2⟩ := reps2 r1
      exact ⟨v1, v2, rfl, h1.nx_at k1 (((sr.le e1.le).set _ q1).set _ q2)⟩
    · rename_i q
      simp at q
    · exact h1.elim)⟩
theorem spar3 {i j l : Nat} {x y z : Str} {a b c : Expr} {ta : TA} {ma : MA} {px py pz pt pt2 : Pos} {kt k2 : Nat} (hc : X.calm = true) (hN : X.N.Nodup) (h : SA X Wx [a, b, c] ta ma)
    (hp : PS X (.Assign [.Tuple [.Name x px, .Name y py, .Name z pz] kt pt] (.Tuple [a, b, c] k2 pt2) pos) (tPar3 i j l ta)) :
    SS X Wx (.Assign [.Tuple [.Name x px, .Name y py, .Name z pz] kt pt] (.Tuple [a, b, c] k2 pt2) pos) (tPar3 i j l ta) (mPar [i, j, l] ma) :=
  ⟨hp, fun W σ s A H De k sr z => h.sim W σ s A H _ k sr (PostS.bind (rel := Reps X.K) sr z fun ds A1 v W1 H1 e1 k1 r1 h1 => by
    split at h1
    · rename_i q
      simp at q
    · rename_i i' j' l' d' e' f' q
      simp only [List.cons.injEq] at q
      obtain ⟨rfl, rfl, rfl, _⟩ := q
      obtain ⟨v1, r', rfl, q1, r2⟩ := r1
      obtain ⟨v2, v3, rfl, q2, q3⟩ := reps2 r2
      exact ⟨v1, v2, v3, rfl, h1.nx_at k1 ((((sr.le e1.le).set _ q1).set _ q2).set _ q3)⟩
    · exact h1.elim)⟩

/-! ### o.f = e, o[i] = e -/
def stFld (cs : List Str) (f : Str) (o d : D) (A : AH) : Option AH := match o with
  | .ref n => match A[n]? with
    | some (.ins c fs) => if c ∈ cs ∧ fs.length < 1000 then some (A.set n (.ins c (putFD f d fs))) else none
    | _ => none
  | _ => none
def mFldS (cs : List Str) (f : Str) (mo me : ME) : MS := fun s A => (me s A).thenS s fun d A1 => (mo s A1).thenS s fun x A2 => match stFld cs f x d A2 with
  | some A3 => .nx s A3
  | none => .bad
theorem sfldS {cs : List Str} {f : Str} (hc : Fds X.K X.mg cs f) (ho : SE X Wx o to mo) (h : SE X Wx e te me) (hs : swapsWith e (some (.Attribute o f pos')) pos.line X.env = pure false := by rfl) : SS X Wx (.Assign [.Attribute o f pos'] e pos) (sFld X.K to te f) (mFldS cs f mo me) :=
  ⟨ps_fld ho.pe h.pe hs, fun W σ s A H De k sr z => h.sim W σ s A H _ k sr (PostS.bind (rel := Rep X.K) sr z fun d A1 v W1 H1 e1 k1 r1 h1 =>
    ho.sim W1 σ s A1 H1 _ k1 (sr.le e1.le) (PostS.bind (rel := Rep X.K) (sr.le e1.le) h1 fun x A2 u W2 H2 e2 k2 r2 h2 => by
      split at h2
      · rename_i A3 q
        unfold stFld at q
        split at q
        · rename_i j
          split at q
          · rename_i c' fs q2
            split at q
            · rename_i q3
              cases q
              obtain ⟨a, rfl, ha⟩ := r2
              obtain ⟨dx, vs, hx, hk, rr⟩ := k2.obj _ a _ ha q2
              obtain ⟨p1, p2⟩ := putFD_at (f := f) (r1.le e2.le) hk rr
              have hl : vs.length = fs.length := by simpa using congrArg List.length hk
              obtain ⟨k3, e3⟩ := k2.write ha (u := .ins c' (putFD f d fs)) (o := .ins (clA X.mg c') dx (putF f v vs)) ⟨dx, _, rfl, p1, p2⟩
              exact ⟨a, _, dx, vs, rfl, hx, (hc c' q3.1).1, (hc c' q3.1).2, by rw [hl]; exact q3.2, h2 _ _ _ e3 k3 (sr.le ((e1.trans e2).trans e3).le)⟩
            · cases q
          · cases q
        · cases q
      · exact h2.elim))⟩
def rSetU : V → V → V → Hp → (Hp → Prop) → Prop := fun o i v H Q => rSetL o i v H Q ∨ ∃ a H', o = .ref a ∧ DPut H a i v H' ∧ Q H'
theorem set_any {kk : Nat} (hr : Room kk X.A) : PSet X rSetU := by
  intro pn st' sg Hh ov iv vv o1 i1 v1 QQ II ro ri rv hh
  rcases hh with hh | ⟨a, H', rfl, g, q⟩
  · exact set_list pn st' sg Hh ov iv vv o1 i1 v1 QQ II ro ri rv hh
  · obtain rfl : o1 = Value.ref a := ro
    exact d_setItem (room_u1 hr) II g ri rv fun s4 I4 => ⟨_, I4, q⟩
def stSub (o i d : D) (A : AH) : Option AH := match o with
  | .ref n => match A[n]? with
    | some (.lst ds) => match i with
      | .int k => match ixN ds.length k with
        | some j => some (A.set n (.lst (ds.set j d)))
        | none => none
      | _ => none
    | some (.dct kvs) => match keyD i with
      | some k => if kvs.length < 16777216 then some (A.set n (.dct (ptK kvs k d))) else none
      | none => none
    | _ => none
  | _ => none
def mSubS (mo mi me : ME) : MS := fun s A => (me s A).thenS s fun d A1 => (mo s A1).thenS s fun x A2 => (mi s A2).thenS s fun y A3 => match stSub x y d A3 with
  | some A4 => .nx s A4
  | none => .bad
theorem ssub {i : Expr} {ti : TE} {mi : ME} {kk : Nat} (hr : Room kk X.A) (ho : SE X Wx o to mo) (hi : SE X Wx i ti mi) (h : SE X Wx e te me)
    (ha : ∀ v, assign (.Subscript o i pos') X.env v = (do
      let ov ← holding [v] (eval o X.env)
      let iv ← holding [v, ov] (eval i X.env)
      standAt pos'
      holding [v, ov, iv] (setItem ov iv v)
      release [v, ov, iv] []) := by intro _; rfl)
    (hs : swapsWithSole [.Subscript o i pos'] e pos.line X.env = pure false := by rfl) (hw : swappedStores [.Subscript o i pos'] e X.env = pure none := by rfl)
    (h1 : (assignEach [.Subscript o i pos'] X.env).map (·.2) = [assign (.Subscript o i pos') X.env] := by rfl) :
    SS X Wx (.Assign [.Subscript o i pos'] e pos) (tAsg te (gSub to ti rSetU)) (mSubS mo mi me) :=
  ⟨ps_asg h.pe (pg_sub ho.pe hi.pe (set_any hr) ha) hs hw h1, fun W σ s A H De k sr z => h.sim W σ s A H _ k sr (PostS.bind (rel := Rep X.K) sr z fun d A1 v W1 H1 e1 k1 r1 h1 =>
    ho.sim W1 σ s A1 H1 _ k1 (sr.le e1.le) (PostS.bind (rel := Rep X.K) (sr.le e1.le) h1 fun x A2 u W2 H2 e2 k2 r2 h2 =>
      hi.sim W2 σ s A2 H2 _ k2 (sr.le (e1.trans e2).le) (PostS.bind (rel := Rep X.K) (sr.le (e1.trans e2).le) h2 fun y A3 w W3 H3 e3 k3 r3 h3 => by
        have rd := r1.le (e2.trans e3).le
        have ro := r2.le e3.le
        have sr3 := sr.le ((e1.trans e2).trans e3).le
        split at h3
        · rename_i A4 q
          unfold stSub at q
          split at q
          · rename_i n'
            obtain ⟨a, rfl, ha'⟩ := ro
            split at q
            · rename_i ds q2
              split at q
              · rename_i kx
                split at q
                · rename_i jx q4
                  cases q
                  obtain ⟨xs, hx, rr⟩ := k3.lookL ha' q2
                  obtain ⟨k4, e4⟩ := k3.write ha' (u := .lst (ds.set jx d)) (o := .lst (xs.set jx v)) (obl (rr.set jx rd))
                  exact .inl ⟨a, xs, kx, jx, rfl, r3, hx, by rw [rr.length]; exact q4, h3 _ _ _ e4 k4 (sr3.le e4.le)⟩
                · cases q
              · cases q
            · rename_i kvs q2
              split at q
              · rename_i kx q3
                split at q
                · rename_i q4
                  cases q
                  obtain ⟨vs, hx, hk, rr⟩ := k3.obj _ a _ ha' q2
                  have kr : KVR X.K W3 kvs vs := ⟨hk, rr⟩
                  obtain ⟨k4, e4⟩ := k3.write ha' (u := .dct (ptK kvs kx d)) (o := .dK (putK vs kx v)) (obd (kr.put rd))
                  refine .inr ⟨a, _, rfl, ?_, h3 _ _ _ e4 k4 (sr3.le e4.le)⟩
                  rw [keyD_at r3 q3]
                  exact .k hx (by rw [sizeLine_eq, kr.len]; exact q4)
                · cases q
              · cases q
            · cases q
          · cases q
        · exact h3.elim)))⟩
end
end Tg

set_option Elab.async false
set_option linter.all false
set_option maxRecDepth 100000
set_option maxHeartbeats 2000000
/-! TgLoop: for, while, comprehensions. -/
namespace Tg
open PySem PySem.Spec PyProof.Rows L2

/-- what is walked: data that lies still, or a list that may change -/
inductive IT where
  | data (ds : List D)
  | ref (n : Nat)
def itNext : IT → Nat → AH → Option (Option D)
  | .data ds, i, _ => some ds[i]?
  | .ref n, i, A => match A[n]? with
    | some (.lst ds) => some ds[i]?
    | _ => none
def itLen : IT → AH → Nat
  | .data ds, _ => ds.length
  | .ref n, A => match A[n]? with
    | some (.lst ds) => ds.length
    | _ => 0
/-- J goes as it does, from W on -/
def JR (K : PySem.W.Frag) (mg : Str → Option Value) (W : Wd) (it : IT) (J : It) : Prop :=
  ∀ (W' : Wd) (A' : AH) (H' : Hp) (i : Nat), Le W W' → Ok K mg W' A' H' → match itNext it i A' with
    | some (some d) => J.go i H' ∧ ∀ x H2, J.yld i H' x H2 → ∃ W2, Ext W' H' W2 H2 ∧ Ok K mg W2 A' H2 ∧ Rep K W2 d x
    | some none => J.stop i H'
    | none => True
def SimI (K : PySem.W.Frag) (mg : Str → Option Value) (Wx : WX) (t : TI) (m : Sl → AH → R IT) : Prop :=
  ∀ (W : Wd) (σ : L2.St) (s : Sl) (A : AH) (H : Hp) (Rr : It → Hp → Prop), Ok K mg W A H → SlR K W s σ → Post K mg (JR K mg) W H (fun c d H' => Wx c d σ H') Rr (m s A) → t σ H Rr
structure SI (X : Cx) (Wx : WX) (tg iter : Expr) (t : TI) (m : Sl → AH → R IT) : Prop where
  pi : PI X tg iter t
  sim : SimI X.K X.mg Wx t m

/-! ### what is walked -/
def iAny (K : PySem.W.Frag) (te : TE) : TI := fun σ H Rr => te σ H fun x H1 => (∃ a, x = .ref a ∧ (∃ xs, SqL K H1 a xs) ∧ Rr (Itl K a) H1) ∨ (∃ a, x = .ref a ∧ (∃ xs, SqT K H1 a xs) ∧ Rr (Itt K a) H1) ∨ ∃ z, x = .str z ∧ Rr (Its z) H1
def signs (z : Str) : List D := z.cps.toList.map fun c => .str ⟨#[c]⟩
def itOf : D → AH → R IT
  | .str z, A => .ok (.data (signs z)) A
  | .tup ds, A => .ok (.data ds) A
  | .lst ds, A => .ok (.data ds) A
  | .scr ns, A => .ok (.data (ns.map .int)) A
  | .ref n, A => match A[n]? with
    | some (.lst _) => .ok (.ref n) A
    | _ => .bad
  | _, _ => .bad
def miAny (m : ME) : Sl → AH → R IT := fun s A => (m s A).bind itOf
section
variable {X : Cx} {Wx : WX} {e tg : Expr} {es : List Expr} {te : TE} {me : ME} {ta : TA} {ma : MA} {p pos : Pos}
theorem pi_any (he : PE X e te) : PI X tg e (iAny X.K te) := by
  refine ⟨fun pn st sg Hh RR II hh => thn (he.run pn st sg Hh _ II hh) fun v s1 ⟨y, H1, I1, r1, q1⟩ => ?_⟩
  rcases q1 with ⟨a, rfl, ⟨xs, hq⟩, q⟩ | ⟨a, rfl, ⟨xs, hq⟩, q⟩ | ⟨z, rfl, q⟩
  · cases r1
    obtain ⟨its, rv, pp, hz⟩ := I1.list hq
    exact wpAny_pyIter_list pp.isList (pi_one (tk := s1.toks) I1 _ (turn_list a _) ⟨_, Heap.get?_push_size _ rfl, rfl, rfl⟩ q)
  · cases r1
    obtain ⟨its, rv, pp, hz⟩ := I1.tuple hq
    exact wpAny_pyIter_tuple (show s1.heap.IsTuple a its.toArray from pp) (pi_one (tk := s1.toks) I1 _ (turn_tuple a _) ⟨_, Heap.get?_push_size _ rfl, rfl, rfl⟩ q)
  · obtain ⟨t, rfl⟩ := r1
    cases ha : z.cps.all (· < 128)
    · exact wpAny_pyIter_wide ha (pi_one (tk := s1.toks) I1 _ (turn_str _ z t "str_iterator" (.inr rfl)) ⟨_, Heap.get?_push_size _ rfl, rfl, rfl⟩ q)
    · exact wpAny_pyIter_ascii ha (pi_one (tk := s1.toks) I1 _ (turn_str _ z t "str_ascii_iterator" (.inl rfl)) ⟨_, Heap.get?_push_size _ rfl, rfl, rfl⟩ q)
theorem jr_list {K : PySem.W.Frag} {mg : Str → Option Value} {W : Wd} {a : Addr} {xs : List V} {ds : List D} (h : SqL K W.F a xs) (r : Reps K W ds xs) : JR K mg W (.data ds) (Itl K a) := fun W' A' H' i l k => by
  have q := k.sqL (sqL_le l h)
  have r' := r.le l
  show match some ds[i]? with
    | some (some d) => _
    | some none => _
    | none => True
  cases hd : ds[i]? with
  | none => exact ⟨xs, q, by rw [r.length]; exact List.getElem?_eq_none_iff.mp hd⟩
  | some d =>
    obtain ⟨v, h1, h2⟩ := r'.get hd
    refine ⟨⟨xs, v, q, h1⟩, fun x H2 y => ?_⟩
    obtain ⟨rfl, y⟩ := y
    have := y xs q
    rw [h1] at this
    cases this
    exact ⟨W', Ext.refl _ _, k, h2⟩
theorem jr_tup {K : PySem.W.Frag} {mg : Str → Option Value} {W : Wd} {a : Addr} {xs : List V} {ds : List D} (h : SqT K W.F a xs) (r : Reps K W ds xs) : JR K mg W (.data ds) (Itt K a) := fun W' A' H' i l k => by
  have q := k.sqT (sqT_le l h)
  have r' := r.le l
  show match some ds[i]? with
    | some (some d) => _
    | some none => _
    | none => True
  cases hd : ds[i]? with
  | none => exact ⟨xs, q, by rw [r.length]; exact List.getElem?_eq_none_iff.mp hd⟩
  | some d =>
    obtain ⟨v, h1, h2⟩ := r'.get hd
    refine ⟨⟨xs, v, q, h1⟩, fun x H2 y => ?_⟩
    obtain ⟨rfl, y⟩ := y
    have := y xs q
    rw [h1] at this
    cases this
    exact ⟨W', Ext.refl _ _, k, h2⟩
theorem jr_ref {K : PySem.W.Frag} {mg : Str → Option Value} {W : Wd} {a : Addr} {n : Nat} (h : W.m[n]? = some a) : JR K mg W (.ref n) (Itl K a) := fun W' A' H' i l k => by
  have ha := l.at h
  cases hq : A'[n]? with
  | none =>
    rw [show itNext (.ref n) i A' = none by simp only [itNext, hq]]
    trivial
  | some o =>
    cases o with
    | lst ds =>
      obtain ⟨xs, q, r⟩ := k.lookL ha hq
      rw [show itNext (.ref n) i A' = some ds[i]? by simp only [itNext, hq]]
      cases hd : ds[i]? with
      | none => exact ⟨xs, .of q, by rw [r.length]; exact List.getElem?_eq_none_iff.mp hd⟩
      | some d =>
        obtain ⟨v, h1, h2⟩ := r.get hd
        refine ⟨⟨xs, v, .of q, h1⟩, fun x H2 y => ?_⟩
        obtain ⟨rfl, y⟩ := y
        have := y xs (.of q)
        rw [h1] at this
        cases this
        exact ⟨W', Ext.refl _ _, k, h2⟩
    | dct _ =>
      rw [show itNext (.ref n) i A' = none by simp only [itNext, hq]]
      trivial
    | ins _ _ =>
      rw [show itNext (.ref n) i A' = none by simp only [itNext, hq]]
      trivial
theorem jr_str {K : PySem.W.Frag} {mg : Str → Option Value} {W : Wd} {z : Str} : JR K mg W (.data (signs z)) (Its z) := fun W' A' H' i l k => by
  show match some (signs z)[i]? with
    | some (some d) => _
    | some none => _
    | none => True
  unfold signs
  rw [List.getElem?_map, Array.getElem?_toList]
  cases hd : z.cps[i]? with
  | none => exact Array.getElem?_eq_none_iff.mp hd
  | some c =>
    refine ⟨(Array.getElem?_eq_some_iff.mp hd).1, fun x H2 y => ?_⟩
    obtain ⟨rfl, c', hc, rfl⟩ := y
    rw [hd] at hc
    cases hc
    exact ⟨W', Ext.refl _ _, k, rfl⟩
theorem iany (h : SE X Wx e te me) : SI X Wx tg e (iAny X.K te) (miAny me) :=
  ⟨pi_any h.pe, fun W σ s A H Rr k sr z => h.sim W σ s A H _ k sr (z.bind fun x A1 v W1 H1 e1 k1 r1 h1 => by
    unfold itOf at h1
    split at h1
    · exact .inr (.inr ⟨_, r1, h1.ok_at k1 jr_str⟩)
    · obtain ⟨a, xs, rfl, q1, q2⟩ := r1
      exact .inr (.inl ⟨a, rfl, ⟨xs, k1.sqT q1⟩, h1.ok_at k1 (jr_tup q1 q2)⟩)
    · obtain ⟨a, xs, rfl, q1, q2⟩ := r1
      exact .inl ⟨a, rfl, ⟨xs, .of (k1.frz _ _ q1)⟩, h1.ok_at k1 (jr_list (.of q1) q2)⟩
    · obtain ⟨a, rfl, q1⟩ := r1
      exact .inl ⟨a, rfl, ⟨_, k1.sqL q1⟩, h1.ok_at k1 (jr_list q1 (reps_ints _ _))⟩
    · obtain ⟨a, rfl, q1⟩ := r1
      split at h1
      · rename_i q2
        obtain ⟨xs, q3, _⟩ := k1.lookL q1 q2
        exact .inl ⟨a, rfl, ⟨xs, .of q3⟩, h1.ok_at k1 (jr_ref q1)⟩
      · exact h1.elim
    · exact h1.elim)⟩

/-- range(n), range(a, b), range(a, b, c) -/
def rngL (lo c : Int) (n : Nat) : List D := (List.range n).map fun i => .int (lo + (i : Nat) * c)
def mRng1 (m : MA) : Sl → AH → R IT := fun s A => (m s A).bind fun ds A1 => match ds with
  | [.int j] => if -(2 ^ 62) ≤ j ∧ j < 2 ^ 62 then .ok (.data (rngL 0 1 j.toNat)) A1 else .bad
  | _ => .bad
def mRng2 (m : MA) : Sl → AH → R IT := fun s A => (m s A).bind fun ds A1 => match ds with
  | [.int i, .int j] => if -(2 ^ 62) ≤ i ∧ i < 2 ^ 62 ∧ -(2 ^ 62) ≤ j ∧ j < 2 ^ 62 then .ok (.data (rngL i 1 (j - i).toNat)) A1 else .bad
  | _ => .bad
def mRng3 (m : MA) : Sl → AH → R IT := fun s A => (m s A).bind fun ds A1 => match ds with
  | [.int i, .int j, .int c] => if c ≠ 0 ∧ c.natAbs < 1073741824 ∧ Builtin.Range.small i j c = true then .ok (.data (rngL i c (Builtin.Range.rangeSize i j c).toNat)) A1 else .bad
  | _ => .bad
theorem jr_rng {K : PySem.W.Frag} {mg : Str → Option Value} {W : Wd} {lo c : Int} {n : Nat} : JR K mg W (.data (rngL lo c n)) (Itc lo c n) := fun W' A' H' i l k => by
  show match some (rngL lo c n)[i]? with
    | some (some d) => _
    | some none => _
    | none => True
  unfold rngL
  rw [List.getElem?_map]
  by_cases hi : i < n
  · rw [List.getElem?_range hi]
    refine ⟨hi, fun x H2 y => ?_⟩
    obtain ⟨rfl, rfl⟩ := y
    exact ⟨W', Ext.refl _ _, k, rfl⟩
  · rw [List.getElem?_eq_none_iff.mpr (by simpa using hi)]
    exact Nat.le_of_not_lt hi
theorem jr_rng1 {K : PySem.W.Frag} {mg : Str → Option Value} {W : Wd} {lo : Int} {n : Nat} : JR K mg W (.data (rngL lo 1 n)) (Itr lo n) := fun W' A' H' i l k => by
  show match some (rngL lo 1 n)[i]? with
    | some (some d) => _
    | some none => _
    | none => True
  unfold rngL
  rw [List.getElem?_map]
  by_cases hi : i < n
  · rw [List.getElem?_range hi]
    refine ⟨hi, fun x H2 y => ?_⟩
    obtain ⟨rfl, rfl⟩ := y
    refine ⟨W', Ext.refl _ _, k, ?_⟩
    show V.int _ = V.int _
    rw [Int.mul_one]
  · rw [List.getElem?_eq_none_iff.mpr (by simpa using hi)]
    exact Nat.le_of_not_lt hi
theorem irng1 {a : Expr} (hm : X.mg "range" = none) (ha : SA X Wx [a] ta ma) (hg : Gl X "range" := by rfl) (hs : starEach [a] X.env = [(false, eval a X.env)] := by rfl) : SI X Wx tg (.Call (.Name "range" p) [a] [] pos) (iRng1 ta) (mRng1 ma) :=
  ⟨pi_range1 hg hm ha.pa hs, fun W σ s A H Rr k sr z => ha.sim W σ s A H _ k sr (z.bind fun ds A1 vs W1 H1 e1 k1 r1 h1 => by
    split at h1
    · obtain ⟨v, rfl, q⟩ := reps1 r1
      cases (show v = _ from q)
      split at h1
      · rename_i b
        exact ⟨_, rfl, b.1, b.2, h1.ok_at k1 jr_rng1⟩
      · exact h1.elim
    · exact h1.elim)⟩
theorem irng2 {a b : Expr} (hm : X.mg "range" = none) (ha : SA X Wx [a, b] ta ma) (hg : Gl X "range" := by rfl) (hs : starEach [a, b] X.env = [(false, eval a X.env), (false, eval b X.env)] := by rfl) (hs2 : starEach [b] X.env = [(false, eval b X.env)] := by rfl) :
    SI X Wx tg (.Call (.Name "range" p) [a, b] [] pos) (iRng2 ta) (mRng2 ma) :=
  ⟨pi_range2 hg hm ha.pa hs hs2, fun W σ s A H Rr k sr z => ha.sim W σ s A H _ k sr (z.bind fun ds A1 vs W1 H1 e1 k1 r1 h1 => by
    split at h1
    · obtain ⟨v, u, rfl, q, q'⟩ := reps2 r1
      cases (show v = _ from q)
      cases (show u = _ from q')
      split at h1
      · rename_i b
        exact ⟨_, _, rfl, b, h1.ok_at k1 jr_rng1⟩
      · exact h1.elim
    · exact h1.elim)⟩
theorem irng3 {a b c : Expr} (hm : X.mg "range" = none) (ha : SA X Wx [a, b, c] ta ma) (hg : Gl X "range" := by rfl) (hs : starEach [a, b, c] X.env = (false, eval a X.env) :: starEach [b, c] X.env := by rfl) (hpl : (backTo pos (starEach [b, c] X.env)).any (·.1) = false := by rfl) :
    SI X Wx tg (.Call (.Name "range" p) [a, b, c] [] pos) (iRng3 ta) (mRng3 ma) :=
  ⟨pi_range3 hg hm ha.pa hs hpl, fun W σ s A H Rr k sr z => ha.sim W σ s A H _ k sr (z.bind fun ds A1 vs W1 H1 e1 k1 r1 h1 => by
    split at h1
    · obtain ⟨v, r', rfl, q, r2⟩ := r1
      obtain ⟨u, w, rfl, q', q2⟩ := reps2 r2
      cases (show v = _ from q)
      cases (show u = _ from q')
      cases (show w = _ from q2)
      split at h1
      · rename_i i j c' b
        refine ⟨i, j, c', (Builtin.Range.rangeSize i j c').toNat, rfl, ⟨b.1, b.2.1, b.2.2, ?_⟩, h1.ok_at k1 jr_rng⟩
        have : 0 ≤ Builtin.Range.rangeSize i j c' := by
          unfold Builtin.Range.rangeSize
          split
          · split
            · have := Int.ediv_nonneg (a := j - i - 1) (b := c') (by omega) (by omega)
              omega
            · exact Int.le_refl 0
          · split
            · have := Int.ediv_nonneg (a := i - j - 1) (b := -c') (by omega) (by omega)
              omega
            · exact Int.le_refl 0
        omega
      · exact h1.elim
    · exact h1.elim)⟩
end

/-! ### for -/
def forG (g : MG) (b : MS) (it : IT) : Nat → Nat → Sl → AH → RS
  | 0, _, _, _ => .bad
  | f + 1, i, s, A => match itNext it i A with
    | none => .bad
    | some none => .nx s A
    | some (some d) => match g d s with
      | none => .bad
      | some s1 => match b s1 A with
        | .nx s2 A2 => forG g b it f (i + 1) s2 A2
        | .ct s2 A2 => forG g b it f (i + 1) s2 A2
        | .bk s2 A2 => .nx s2 A2
        | r => r
def mFor (mi : Sl → AH → R IT) (g : MG) (b : MS) : MS := fun s A => (mi s A).thenS s fun it A1 => forG g b it (itLen it A1 + 1) 0 s A1
/-- over data -/
def forL (g : MG) (b : MS) : List D → Sl → AH → RS
  | [], s, A => .nx s A
  | d :: ds, s, A => match g d s with
    | none => .bad
    | some s1 => match b s1 A with
      | .nx s2 A2 => forL g b ds s2 A2
      | .ct s2 A2 => forL g b ds s2 A2
      | .bk s2 A2 => .nx s2 A2
      | r => r
theorem forG_data (g : MG) (b : MS) (ds : List D) : ∀ (f i : Nat) (s : Sl) (A : AH), i + f = ds.length + 1 → forG g b (.data ds) f i s A = if f = 0 then .bad else forL g b (ds.drop i) s A
  | 0, i, s, A, h => rfl
  | f + 1, i, s, A, h => by
    rw [if_neg (Nat.succ_ne_zero f)]
    show (match some ds[i]? with
      | none => RS.bad
      | some none => .nx s A
      | some (some d) => _) = _
    cases hd : ds[i]? with
    | none =>
      rw [List.drop_eq_nil_of_le (List.getElem?_eq_none_iff.mp hd)]
      rfl
    | some d =>
      have hi := (List.getElem?_eq_some_iff.mp hd).1
      rw [List.drop_eq_getElem_cons hi, (List.getElem?_eq_some_iff.mp hd).2]
      have hf : f ≠ 0 := by omega
      show (match g d s with
        | none => RS.bad
        | some s1 => _) = (match g d s with
        | none => RS.bad
        | some s1 => _)
      cases g d s with
      | none => rfl
      | some s1 =>
        dsimp only
        cases b s1 A with
        | nx s2 A2 =>
          dsimp only
          rw [forG_data g b ds f (i + 1) s2 A2 (by omega), if_neg hf]
        | ct s2 A2 =>
          dsimp only
          rw [forG_data g b ds f (i + 1) s2 A2 (by omega), if_neg hf]
        | _ => rfl
theorem mFor_data {mi : Sl → AH → R IT} {g : MG} {b : MS} {s : Sl} {A A1 : AH} {ds : List D} (h : mi s A = .ok (.data ds) A1) : mFor mi g b s A = forL g b ds s A1 := by
  unfold mFor
  rw [h]
  show forG g b (.data ds) (ds.length + 1) 0 s A1 = _
  rw [forG_data g b ds _ _ _ _ (Nat.zero_add _), if_neg (Nat.succ_ne_zero _), List.drop_zero]
section
variable {X : Cx} {Wx : WX} {tg iter c : Expr} {body : List Stmt} {wi : TI} {mi : Sl → AH → R IT} {g : TG} {mgt : MG} {is : List Nat} {tb : TS} {mb : MS} {tc : TT} {mc' : MT} {pos : Pos}
theorem sfor (hp : PassesOwn (model X.prog X.w) X.A X.env X.xe) (hc : X.calm = true) (hi : SI X Wx tg iter wi mi) (hg : SG X tg g mgt is) (hb : SSs X Wx body tb mb) (hs : ∀ x, foldedSetIterable iter X.env x = pure x := by intro _; rfl) :
    SS X Wx (.For tg iter body [] pos) (tFor wi g tb) (mFor mi mgt mb) :=
  ⟨ps_for hp hc hi.pi hg.pg hb.ps hs, fun W σ s A H De k sr z => hi.sim W σ s A H _ k sr (PostS.bind (rel := JR X.K X.mg) sr z fun it A1 J W1 H1 e1 k1 j1 h1 => by
    refine ⟨fun i m σ2 H2 => ∃ W2 s2 A2, Ext W1 H1 W2 H2 ∧ Ok X.K X.mg W2 A2 H2 ∧ SlR X.K W2 s2 σ2 ∧ PostS X.K X.mg W2 H2 De Wx (forG mgt mb it m i s2 A2), ⟨_, W1, s, A1, Ext.refl _ _, k1, sr.le e1.le, h1⟩, ?_⟩
    rintro i m σ2 H2 ⟨W2, s2, A2, e2, k2, sr2, h2⟩
    cases m with
    | zero => exact h2.elim
    | succ m =>
      have jj := j1 W2 A2 H2 i e2.le k2
      unfold forG at h2
      cases hn : itNext it i A2 with
      | none =>
        rw [hn] at h2
        exact h2.elim
      | some o =>
        rw [hn] at h2 jj
        cases o with
        | none => exact .inl ⟨jj, h2.nx_at k2 sr2⟩
        | some d =>
          refine .inr ⟨jj.1, fun σ3 H3 => ∃ W3 s3 A3, Ext W1 H1 W3 H3 ∧ Ok X.K X.mg W3 A3 H3 ∧ SlR X.K W3 s3 σ3 ∧ PostS X.K X.mg W3 H3 De Wx (forG mgt mb it m (i + 1) s3 A3), fun σ3 H3 q => ⟨m, Nat.lt_succ_self m, q⟩, fun x H3 y => ?_⟩
          obtain ⟨W3, e3, k3, r3⟩ := jj.2 x H3 y
          have h3 := PostS.ext e3 h2
          dsimp only at h3
          cases hg1 : mgt d s2 with
          | none =>
            rw [hg1] at h3
            exact h3.elim
          | some s3 =>
            rw [hg1] at h3
            dsimp only at h3
            refine hg.sim W3 σ2 s2 s3 A2 H3 d x _ k3 (sr2.le e3.le) r3 hg1 fun σ4 sr4 _ => ?_
            refine hb.sim W3 σ4 s3 A2 H3 _ k3 sr4 ?_
            cases hb1 : mb s3 A2 with
            | nx s4 A4 =>
              rw [hb1] at h3
              exact fun W5 σ5 H5 e5 k5 sr5 => ⟨W5, s4, A4, (e2.trans e3).trans e5, k5, sr5, PostS.ext e5 h3⟩
            | ct s4 A4 =>
              rw [hb1] at h3
              exact fun W5 σ5 H5 e5 k5 sr5 => ⟨W5, s4, A4, (e2.trans e3).trans e5, k5, sr5, PostS.ext e5 h3⟩
            | bk s4 A4 =>
              rw [hb1] at h3
              exact h3
            | rt d4 A4 =>
              rw [hb1] at h3
              exact h3
            | exc x4 s4 A4 =>
              rw [hb1] at h3
              exact h3
            | bad =>
              rw [hb1] at h3
              exact h3.elim)⟩

/-! ### while -/
def whG (c : MT) (b : MS) : Nat → Sl → AH → RS
  | 0, _, _ => .bad
  | f + 1, s, A => (c s A).thenS s fun k A1 => if k then match b s A1 with
      | .nx s2 A2 => whG c b f s2 A2
      | .ct s2 A2 => whG c b f s2 A2
      | .bk s2 A2 => .nx s2 A2
      | r => r
    else .nx s A1
theorem swh (N : Nat) (hp : PassesOwn (model X.prog X.w) X.A X.env X.xe) (hc : ST X Wx c tc mc') (hb : SSs X Wx body tb mb) : SS X Wx (.While c body [] pos) (tWhile tc tb) (whG mc' mb N) :=
  ⟨ps_while hp hc.pt hb.ps, fun W σ s A H De k sr z => by
    refine ⟨fun m σ2 H2 => ∃ W2 s2 A2, Ok X.K X.mg W2 A2 H2 ∧ SlR X.K W2 s2 σ2 ∧ PostS X.K X.mg W2 H2 De Wx (whG mc' mb m s2 A2), ⟨N, W, s, A, k, sr, z⟩, ?_⟩
    rintro m σ2 H2 ⟨W2, s2, A2, k2, sr2, h2⟩
    cases m with
    | zero => exact h2.elim
    | succ m =>
      unfold whG at h2
      refine hc.sim W2 σ2 s2 A2 H2 _ k2 sr2 (PostS.bind (rel := relB) sr2 h2 fun b A3 b' W3 H3 e3 k3 r3 h3 => ?_)
      cases r3
      have sr3 := sr2.le e3.le
      cases b with
      | false => exact h3.nx_at k3 sr3
      | true =>
        rw [if_pos rfl] at h3 ⊢
        refine ⟨fun σ4 H4 => ∃ W4 s4 A4, Ok X.K X.mg W4 A4 H4 ∧ SlR X.K W4 s4 σ4 ∧ PostS X.K X.mg W4 H4 De Wx (whG mc' mb m s4 A4), fun σ4 H4 q => ⟨m, Nat.lt_succ_self m, q⟩, ?_⟩
        refine hb.sim W3 σ2 s2 A3 H3 _ k3 sr3 ?_
        cases hb1 : mb s2 A3 with
        | nx s4 A4 =>
          rw [hb1] at h3
          exact fun W5 σ5 H5 e5 k5 sr5 => ⟨W5, s4, A4, k5, sr5, PostS.ext e5 h3⟩
        | ct s4 A4 =>
          rw [hb1] at h3
          exact fun W5 σ5 H5 e5 k5 sr5 => ⟨W5, s4, A4, k5, sr5, PostS.ext e5 h3⟩
        | bk s4 A4 =>
          rw [hb1] at h3
          exact h3
        | rt d4 A4 =>
          rw [hb1] at h3
          exact h3
        | exc x4 s4 A4 =>
          rw [hb1] at h3
          exact h3
        | bad =>
          rw [hb1] at h3
          exact h3.elim⟩
end

/-! ### comprehensions -/
/-- nothing raised -/
def R.bindN {α β : Type} (r : R α) (f : α → AH → R β) : R β := match r with
  | .ok a A => f a A
  | _ => .bad
@[simp] theorem R.bindN_ok {α β : Type} (a : α) (A : AH) (f : α → AH → R β) : (R.ok a A).bindN f = f a A := rfl
@[simp] theorem R.bindN_bad {α β : Type} (f : α → AH → R β) : (R.bad : R α).bindN f = .bad := rfl
def lcG (g : MG) (tt : MT) (te : ME) (it : IT) (s : Sl) : Nat → Nat → AH → R (List D)
  | 0, _, _ => .bad
  | f + 1, i, A => match itNext it i A with
    | none => .bad
    | some none => .ok [] A
    | some (some d) => match g d s with
      | none => .bad
      | some s1 => (tt s1 A).bindN fun k A1 => if k then (te s1 A1).bindN fun y A2 => (lcG g tt te it s f (i + 1) A2).bind fun ys A3 => .ok (y :: ys) A3
        else lcG g tt te it s f (i + 1) A1
def lcL (g : MG) (tt : MT) (te : ME) (s : Sl) : List D → AH → R (List D)
  | [], A => .ok [] A
  | d :: ds, A => match g d s with
    | none => .bad
    | some s1 => (tt s1 A).bindN fun k A1 => if k then (te s1 A1).bindN fun y A2 => (lcL g tt te s ds A2).bind fun ys A3 => .ok (y :: ys) A3
      else lcL g tt te s ds A1
def finF (ds : List D) (A : AH) : R D := .ok (.lst ds) A
def finN (ds : List D) (A : AH) : R D := .ok (.ref A.length) (A ++ [.lst ds])
def mLc (mi : Sl → AH → R IT) (g : MG) (tt : MT) (te : ME) (vs : List Nat) (fin : List D → AH → R D) : ME := fun s A => (mi s A).bind fun it A1 => if itLen it A1 < 16777216 then (lcG g tt te it (wpD s vs) (itLen it A1 + 1) 0 A1).bind fin else .bad
theorem lcG_data (g : MG) (tt : MT) (te : ME) (ds : List D) (s : Sl) : ∀ (f i : Nat) (A : AH), i + f = ds.length + 1 → lcG g tt te (.data ds) s f i A = if f = 0 then .bad else lcL g tt te s (ds.drop i) A
  | 0, i, A, h => rfl
  | f + 1, i, A, h => by
    rw [if_neg (Nat.succ_ne_zero f)]
    show (match some ds[i]? with
      | none => R.bad
      | some none => .ok [] A
      | some (some d) => _) = _
    cases hd : ds[i]? with
    | none =>
      rw [List.drop_eq_nil_of_le (List.getElem?_eq_none_iff.mp hd)]
      rfl
    | some d =>
      have hi := (List.getElem?_eq_some_iff.mp hd).1
      rw [List.drop_eq_getElem_cons hi, (List.getElem?_eq_some_iff.mp hd).2]
      have hf : f ≠ 0 := by omega
      show (match g d s with
        | none => R.bad
        | some s1 => _) = (match g d s with
        | none => R.bad
        | some s1 => _)
      cases g d s with
      | none => rfl
      | some s1 =>
        dsimp only
        cases tt s1 A with
        | ok k A1 =>
          simp only [R.bindN_ok]
          cases k with
          | true =>
            simp only [if_true]
            cases te s1 A1 with
            | ok y A2 =>
              simp only [R.bindN_ok]
              rw [lcG_data g tt te ds s f (i + 1) A2 (by omega), if_neg hf]
            | _ => rfl
          | false =>
            simp only [Bool.false_eq_true, if_false]
            rw [lcG_data g tt te ds s f (i + 1) A1 (by omega), if_neg hf]
        | _ => rfl
theorem mLc_data {mi : Sl → AH → R IT} {g : MG} {tt : MT} {te : ME} {vs : List Nat} {fin : List D → AH → R D} {s : Sl} {A A1 : AH} {ds : List D} (h : mi s A = .ok (.data ds) A1) (hl : ds.length < 16777216) : mLc mi g tt te vs fin s A = (lcL g tt te (wpD s vs) ds A1).bind fin := by
  unfold mLc
  rw [h]
  show (if ds.length < 16777216 then (lcG g tt te (.data ds) (wpD s vs) (ds.length + 1) 0 A1).bind fin else .bad) = _
  rw [if_pos hl, lcG_data g tt te ds _ _ _ _ (Nat.zero_add _), if_neg (Nat.succ_ne_zero _), List.drop_zero]
theorem wipe_none (σ : L2.St) {u : Nat} : ∀ {vs : List Nat}, u ∈ vs → (wipe σ vs).set u none = wipe σ vs
  | v :: vs, h => by
    show ((wipe σ vs).set v none).set u none = (wipe σ vs).set v none
    by_cases q : u = v
    · rw [q, List.set_set]
    · rcases List.mem_cons.mp h with z | z
      · exact absurd z q
      · rw [List.set_comm _ _ (Ne.symm q), wipe_none σ z]
theorem wipe_twice (σ : L2.St) {vs : List Nat} : ∀ {us : List Nat}, (∀ i ∈ us, i ∈ vs) → wipe (wipe σ vs) us = wipe σ vs
  | [], _ => rfl
  | u :: us, h => by
    show (wipe (wipe σ vs) us).set u none = wipe σ vs
    rw [wipe_twice σ fun i hi => h i (List.mem_cons_of_mem _ hi), wipe_none σ (h u (List.mem_cons_self ..))]
theorem upd_self {H : Hp} {p : Addr} {o : HO} (h : H p = some o) : upd (delH H p) p o = H := by
  funext b
  by_cases q : b = p
  · rw [q, upd_same, h]
  · rw [upd_ne q, delH_ne q]
theorem delH_upd {H : Hp} {p : Addr} {o : HO} : delH (upd H p o) p = delH H p := by
  funext b
  by_cases q : b = p
  · rw [q, delH_same, delH_same]
  · rw [delH_ne q, delH_ne q, upd_ne q]
/-- how the new list is told -/
def FinOk (K : PySem.W.Frag) (mg : Str → Option Value) (fin : List D → AH → R D) : Prop :=
  ∀ (W : Wd) (H : Hp) (W1 : Wd) (H1 : Hp) (A1 : AH) (p : Addr) (E : XK) (Q : VK) (ds : List D) (xs : List V), Ext W H W1 (delH H1 p) → Ok K mg W1 A1 (delH H1 p) → H1 p = some (.lst xs) → Reps K W1 ds xs → Post K mg (Rep K) W H E Q (fin ds A1) → Q (.ref p) H1
theorem fin_f {K : PySem.W.Frag} {mg : Str → Option Value} : FinOk K mg finF := fun W H W1 H1 A1 p E Q ds xs e k hp r h => by
  obtain ⟨k3, e3⟩ := k.frozen delH_same (.lst xs)
  rw [upd_self hp] at k3 e3
  refine h _ _ _ (e.trans e3) k3 ⟨p, xs, rfl, upd_same, r.le e3.le⟩
theorem fin_n {K : PySem.W.Frag} {mg : Str → Option Value} : FinOk K mg finN := fun W H W1 H1 A1 p E Q ds xs e k hp r h => by
  have l : Le W1 ⟨W1.F, W1.m ++ [p]⟩ := ⟨fun _ _ e => e, [p], rfl⟩
  obtain ⟨k3, e3⟩ := k.fresh delH_same (obl (r.le l))
  rw [upd_self hp] at k3 e3
  refine h _ _ _ (e.trans e3) k3 ⟨p, rfl, ?_⟩
  rw [← k.len]
  exact List.getElem?_concat_length
section
variable {X : Cx} {Wx : WX} {tg iter elt : Expr} {ifs : List Expr} {scope : Scope} {own : List (Str × Nat)} {wi : TI} {mi : Sl → AH → R IT} {g : TG} {mgt : MG} {is : List Nat} {tt : TT} {mt : MT} {te : TE} {me : ME} {pos spos : Pos} {fin : List D → AH → R D}
structure STs (X : Cx) (Wx : WX) (ifs : List Expr) (t : TT) (m : MT) : Prop where
  pts : PTs X ifs t
  sim : SimT X.K X.mg Wx t m
def mYes : MT := fun _ A => .ok true A
theorem stsnil : STs X Wx [] tYes mYes := ⟨pts_nil, fun W σ s A H Q k sr h => h.ok_at k rfl⟩
theorem stsone {c : Expr} (h : ST X Wx c tt mt) : STs X Wx [c] tt mt := ⟨pts_one h.pt, h.sim⟩
theorem sim_lc {K : PySem.W.Frag} {mg : Str → Option Value} {vs : List Nat} (hf : FinOk K mg fin) (hi : SimI K mg Wx wi mi)
    (hg : ∀ (W : Wd) (σ : L2.St) (s s1 : Sl) (A : AH) (H : Hp) (d : D) (x : V) (Q : L2.St → Hp → Prop), Ok K mg W A H → SlR K W s σ → Rep K W d x → mgt d s = some s1 → (∀ σ', SlR K W s1 σ' → (∀ vs, (∀ i ∈ is, i ∈ vs) → wipe σ' vs = wipe σ vs) → Q σ' H) → g x σ H Q)
    (hw : ∀ i ∈ is, i ∈ vs) (ht : SimT K mg WxF tt mt) (he : SimE K mg WxF te me) : SimE K mg Wx (tLc wi g tt te vs) (mLc mi mgt mt me vs fin) := fun W σ s A H Q k sr z => by
  refine hi W σ s A H _ k sr (z.bind fun it A1 J W1 H1 e1 k1 j1 h1 => ?_)
  intro Da hDa
  by_cases hl : itLen it A1 < 16777216
  · rw [if_pos hl] at h1
    have wsr := (sr.le e1.le).wipe vs
    refine ⟨fun i m H2 => ∃ W2 A2 acc accV, Ext W1 H1 W2 (delH H2 Da) ∧ Ok K mg W2 A2 (delH H2 Da) ∧ H2 Da = some (.lst accV) ∧ Reps K W2 acc accV ∧ acc.length ≤ i ∧ i + m = itLen it A1 + 1 ∧
      Post K mg (Rep K) W1 H1 (fun c d H' => Wx c d σ H') Q ((lcG mgt mt me it (wpD s vs) m i A2).bind fun ys A3 => fin (acc ++ ys) A3), ⟨itLen it A1 + 1, W1, A1, [], [], ?_, ?_, upd_same, rfl, Nat.le_refl _, Nat.zero_add _, h1⟩, ?_⟩
    · rw [delH_upd]
      have : delH H1 Da = H1 := by
        funext b
        by_cases q : b = Da
        · rw [q, delH_same, hDa]
        · rw [delH_ne q]
      rw [this]
      exact Ext.refl _ _
    · rw [delH_upd]
      have : delH H1 Da = H1 := by
        funext b
        by_cases q : b = Da
        · rw [q, delH_same, hDa]
        · rw [delH_ne q]
      rw [this]
      exact k1
    · rintro i m H2 ⟨W2, A2, acc, accV, e2, k2, hD2, r2, hal, him, h2⟩
      cases m with
      | zero => exact h2.elim
      | succ m =>
        obtain ⟨k2', e2'⟩ := k2.aside delH_same (.lst accV)
        rw [upd_self hD2] at k2' e2'
        have jj := j1 W2 A2 H2 i (e2.trans e2').le k2'
        unfold lcG at h2
        cases hn : itNext it i A2 with
        | none =>
          rw [hn] at h2
          exact h2.elim
        | some o =>
          rw [hn] at h2 jj
          cases o with
          | none =>
            refine .inl ⟨jj, ?_⟩
            have h2' : Post K mg (Rep K) W1 H1 (fun c d H' => Wx c d σ H') Q (fin (acc ++ []) A2) := h2
            rw [List.append_nil] at h2'
            exact hf W1 H1 W2 H2 A2 Da _ Q acc accV e2 k2 hD2 r2 h2'
          | some d =>
            refine .inr ⟨jj.1, fun H3 => ∃ W3 A3 acc accV, Ext W1 H1 W3 (delH H3 Da) ∧ Ok K mg W3 A3 (delH H3 Da) ∧ H3 Da = some (.lst accV) ∧ Reps K W3 acc accV ∧ acc.length ≤ i + 1 ∧ (i + 1) + m = itLen it A1 + 1 ∧
              Post K mg (Rep K) W1 H1 (fun c d H' => Wx c d σ H') Q ((lcG mgt mt me it (wpD s vs) m (i + 1) A3).bind fun ys A4 => fin (acc ++ ys) A4), fun H3 q => ⟨m, Nat.lt_succ_self m, q⟩, fun x H3 y => ?_⟩
            obtain ⟨W3, e3, k3, r3⟩ := jj.2 x H3 y
            dsimp only at h2
            cases hg1 : mgt d (wpD s vs) with
            | none =>
              rw [hg1] at h2
              exact h2.elim
            | some s3 =>
              rw [hg1] at h2
              dsimp only at h2
              refine hg W3 (wipe σ vs) (wpD s vs) s3 A2 H3 d x _ k3 (((wsr.le e2.le).le e2'.le).le e3.le) r3 hg1 fun σ4 sr4 w4 => ⟨(w4 vs hw).trans (wipe_twice σ fun _ h => h), ?_⟩
              cases hT : mt s3 A2 with
              | ok b A4 =>
                rw [hT] at h2
                simp only [R.bindN_ok] at h2
                refine ht W3 σ4 s3 A2 H3 _ k3 sr4 ?_
                rw [hT]
                intro W4 H4 b' e4 k4 rb
                cases rb
                cases b with
                | true =>
                  simp only [if_true] at h2 ⊢
                  cases hE : me s3 A4 with
                  | ok yd A5 =>
                    rw [hE] at h2
                    simp only [R.bindN_ok] at h2
                    refine he W4 σ4 s3 A4 H4 _ k4 (sr4.le e4.le) ?_
                    rw [hE]
                    intro W5 H5 yv e5 k5 ry
                    obtain ⟨q1, q2, q3, q4, q5⟩ := Ok.undo delH_same k2 (u := .lst accV) (by rw [upd_self hD2]; exact (e3.trans e4).trans e5) k5
                    refine ⟨accV, q5, ?_, W5, A5, acc ++ [yd], accV ++ [yv], ?_, ?_, upd_same, (r2.le (((e2'.trans e3).trans e4).trans e5).le).append (Reps.one ry), ?_, by omega, ?_⟩
                    · rw [sizeLine_eq, r2.length]
                      omega
                    · rw [delH_upd]
                      exact e2.trans q4
                    · rw [delH_upd]
                      exact q3
                    · rw [List.length_append]
                      simp
                      omega
                    · have e6 : ((lcG mgt mt me it (wpD s vs) m (i + 1) A5).bind fun ys A3 => R.ok (yd :: ys) A3).bind (fun ys A3 => fin (acc ++ ys) A3) = (lcG mgt mt me it (wpD s vs) m (i + 1) A5).bind fun ys A4 => fin (acc ++ [yd] ++ ys) A4 := by
                        cases lcG mgt mt me it (wpD s vs) m (i + 1) A5 with
                        | ok ys A6 =>
                          simp only [R.bind_ok, List.append_assoc, List.singleton_append]
                        | exc _ _ => rfl
                        | bad => rfl
                      rw [e6] at h2
                      exact h2
                  | exc _ _ =>
                    rw [hE] at h2
                    exact h2.elim
                  | bad =>
                    rw [hE] at h2
                    exact h2.elim
                | false =>
                  simp only [Bool.false_eq_true, if_false] at h2 ⊢
                  obtain ⟨q1, q2, q3, q4, q5⟩ := Ok.undo delH_same k2 (u := .lst accV) (by rw [upd_self hD2]; exact e3.trans e4) k4
                  exact ⟨W4, A4, acc, accV, e2.trans q4, q3, q5, r2.le ((e2'.trans e3).trans e4).le, by omega, by omega, h2⟩
              | exc _ _ =>
                rw [hT] at h2
                exact h2.elim
              | bad =>
                rw [hT] at h2
                exact h2.elim
  · rw [if_neg hl] at h1
    exact h1.elim
/-- [elt for tg in iter if ..] -/
theorem slc (hf : FinOk X.K X.mg fin) (hc : X.calm = true) (hN : X.N.Nodup) (hi : SI X Wx tg iter wi mi) (ok : BlkOk X.N X.env.scope scope own)
    (hg : ∀ (s : Shared) (H : Hp) (C : Addr) (cl : List (Str × Addr)) (fp : List Addr), SG (X.blk s H scope (compEnvC scope cl C X.env) fp) tg g mgt is)
    (ht : ∀ (s : Shared) (H : Hp) (C : Addr) (cl : List (Str × Addr)) (fp : List Addr), STs (X.blk s H scope (compEnvC scope cl C X.env) fp) WxF ifs tt mt)
    (he : ∀ (s : Shared) (H : Hp) (C : Addr) (cl : List (Str × Addr)) (fp : List Addr), SE (X.blk s H scope (compEnvC scope cl C X.env) fp) WxF elt te me)
    (hw : ∀ i ∈ is, i ∈ own.map (·.2)) (hs : ∀ x, foldedSetIterable iter X.env x = pure x := by intro _; rfl) :
    SE X Wx (.ListComp elt [⟨tg, iter, ifs, 0⟩] scope pos) (tLc wi g tt te (own.map (·.2))) (mLc mi mgt mt me (own.map (·.2)) fin) :=
  ⟨pe_lc hc hN hi.pi ok (fun s H C cl fp => (hg s H C cl fp).pg) (fun s H C cl fp => (ht s H C cl fp).pts) (fun s H C cl fp => (he s H C cl fp).pe) hs,
    sim_lc hf hi.sim (hg X.s_0 X.H_0 0 [] []).sim hw (ht X.s_0 X.H_0 0 [] []).sim (he X.s_0 X.H_0 0 [] []).sim⟩
/-- name = [..] on one line -/
theorem ssetLc (i : Nat) {y : Str} {py : Pos} (hf : FinOk X.K X.mg fin) (hc : X.calm = true) (hN : X.N.Nodup) (hi : SI X Wx tg iter wi mi) (ok : BlkOk X.N X.env.scope scope own)
    (hg : ∀ (s : Shared) (H : Hp) (C : Addr) (cl : List (Str × Addr)) (fp : List Addr), SG (X.blk s H scope (compEnvC scope cl C X.env) fp) tg g mgt is)
    (ht : ∀ (s : Shared) (H : Hp) (C : Addr) (cl : List (Str × Addr)) (fp : List Addr), STs (X.blk s H scope (compEnvC scope cl C X.env) fp) WxF ifs tt mt)
    (he : ∀ (s : Shared) (H : Hp) (C : Addr) (cl : List (Str × Addr)) (fp : List Addr), SE (X.blk s H scope (compEnvC scope cl C X.env) fp) WxF elt te me)
    (hw : ∀ i ∈ is, i ∈ own.map (·.2)) (hy : X.N[i]? = some y := by rfl) (hyl : X.env.scope.names.lookup y = some .local := by rfl)
    (hsw : swapsWith (.ListComp elt [⟨tg, iter, ifs, 0⟩] scope pos) (some (.Name y py)) spos.line X.env = pure true := by exact sw_true rfl rfl rfl (by decide +kernel)) (hs : ∀ x, foldedSetIterable iter X.env x = pure x := by intro _; rfl) :
    SS X Wx (.Assign [.Name y py] (.ListComp elt [⟨tg, iter, ifs, 0⟩] scope pos) spos) (tAsg (tLc wi g tt te (own.map (·.2))) (gName i)) (mAsg (mLc mi mgt mt me (own.map (·.2)) fin) (gmN i)) :=
  ⟨ps_setLc hc hN hy hyl hsw hi.pi ok (fun s H C cl fp => (hg s H C cl fp).pg) (fun s H C cl fp => (ht s H C cl fp).pts) (fun s H C cl fp => (he s H C cl fp).pe) hs,
    sim_asg (sim_lc hf hi.sim (hg X.s_0 X.H_0 0 [] []).sim hw (ht X.s_0 X.H_0 0 [] []).sim (he X.s_0 X.H_0 0 [] []).sim) fun W σ s s1 A H d x Q k sr r eq hq => by
      cases eq
      exact hq _ (sr.set i r)⟩
end
end Tg

set_option Elab.async false
set_option linter.all false
set_option maxRecDepth 100000
set_option maxHeartbeats 2000000
/-! TgFn: defs as plain functions; constants and written tables of the module. -/
namespace Tg
open PySem PySem.Spec PyProof.Rows L2

def startD (n : Nat) (ds : List D) : Sl := ds.map some ++ List.replicate (n - ds.length) none
def finS : RS → R D
  | .nx _ A => .ok .non A
  | .rt d A => .ok d A
  | .exc x _ A => .exc x A
  | _ => .bad
/-- a def of n parameters and m names whose body does as b -/
def mFun (n m : Nat) (b : MS) : List D → AH → R D := fun ds A => if ds.length = n then finS (b (startD m ds) A) else .bad
def mBad : List D → AH → R D := fun _ _ => .bad
section
variable {P : Program} {w : World} {K : PySem.W.Frag} {mg : Str → Option Value} {base : Heap} {x qual c : Str} {st : Stmt} {N ps : List Str} {k : Nat} {m : MS}
abbrev CxT (P : Program) (w : World) (K : PySem.W.Frag) (mg : Str → Option Value) (base : Heap) (N : List Str) (qual : Str) (st : Stmt) (f : Addr) (cd : Value) (A : Around) (outer : List Env) (s : Shared) (H : Hp) (E : XK) : Cx :=
  cxOf (L2.CX P w) P w K mg base N qual (defScope st) f cd A outer s H E
theorem tkF {f : Addr} {cd : Value} {A : Around} {outer : List Env} {s : Shared} {H : Hp} {E : XK} : Takes (CxT P w K mg base N qual st f cd A outer s H E) (fun c d _ H => E c d H) := takes_of rfl rfl rfl rfl
theorem psF {f : Addr} {cd : Value} {A : Around} {outer : List Env} {s : Shared} {H : Hp} {E : XK} : PassesOwn (model (CxT P w K mg base N qual st f cd A outer s H E).prog (CxT P w K mg base N qual st f cd A outer s H E).w) (CxT P w K mg base N qual st f cd A outer s H E).A (CxT P w K mg base N qual st f cd A outer s H E).env (CxT P w K mg base N qual st f cd A outer s H E).xe := passes_of rfl
/-- the body's term -/
def Body (P : Program) (w : World) (K : PySem.W.Frag) (mg : Str → Option Value) (base : Heap) (N : List Str) (qual : Str) (st : Stmt) (k : Nat) (m : MS) : Prop :=
  ∀ (f : Addr) (cd : Value) (A : Around) (outer : List Env) (s : Shared) (H : Hp) (E : XK), Room k (CxT P w K mg base N qual st f cd A outer s H E).A →
    ∃ t, SSs (CxT P w K mg base N qual st f cd A outer s H E) (fun c d _ H => E c d H) (defBody st) t m
theorem fnok_of {f : Addr} {fd : FuncData} (F : Fun K x qual st f fd) (S : FnScope N ps (defScope st)) (h : Body P w K mg base N qual st k m) : FnOk P w K mg base (L2.CX P w) (k + 1) f fd ps (spM K mg (mFun ps.length N.length m)) := by
  have hl : ∀ vs H Q E, spM K mg (mFun ps.length N.length m) vs H Q E → vs.length = ps.length := fun vs H Q E ⟨W, ds, A, k, r, z⟩ => by
    unfold mFun at z
    split at z
    · rename_i e
      rw [r.length, e]
    · exact z.elim
  refine F.okX S hl fun cdv A outer s H vs Q E hr hsp => ?_
  have hvl := hl _ _ _ _ hsp
  obtain ⟨W, ds, A', k, r, z⟩ := hsp
  obtain ⟨t, ss⟩ := h f cdv A outer s H E hr
  refine ⟨t, ss.ps, ?_⟩
  have hd : ds.length = ps.length := by rw [← r.length, hvl]
  unfold mFun at z
  rw [if_pos hd] at z
  have sr : SlR K W (startD N.length ds) (L2.start N vs) := by
    unfold startD L2.start
    rw [r.length]
    exact SlR.of r
  refine ss.sim W _ _ A' H _ k sr ?_
  generalize m (startD N.length ds) A' = q at z
  cases q with
  | nx s1 A1 => exact fun W' σ' H' e k' _ => z W' H' .non e k' rfl
  | rt d A1 => exact fun W' v H' e k' r' => z W' H' v e k' r'
  | exc y s1 A1 => exact fun W' σ' H' c d e k' _ x' => z W' H' c d e k' x'
  | bk _ _ => exact z.elim
  | ct _ _ => exact z.elim
  | bad => exact z.elim
theorem fnok_bad {f : Addr} {fd : FuncData} : FnOk P w K mg base (L2.CX P w) k f fd ps (spM K mg mBad) :=
  ⟨fun vs H Q E ⟨W, ds, A, k, r, z⟩ => z.elim, fun A outer s H args us vs Q E _ _ _ _ ⟨W, ds, A', k, r, z⟩ => z.elim⟩

/-- what stands behind the module's top: a def, a method, a class that can be made -/
def TF (K : PySem.W.Frag) (mg : Str → Option Value) (x qual : Str) (st : Stmt) (ps : List Str) : Prop := ∃ f fd, Fun K x qual st f fd ∧ mg x = some (.ref f) ∧ Binds K fd ps []
def TM (K : PySem.W.Frag) (mg : Str → Option Value) (c x qual : Str) (st : Stmt) (ps : List Str) : Prop := ∃ f fd, Fun K x qual st f fd ∧ Meth K (clA mg c) x f ∧ Binds K fd ps [] ∧ Cls K (clA mg c)
def TI (K : PySem.W.Frag) (mg : Str → Option Value) (c qual : Str) (st : Stmt) (ps : List Str) : Prop := ∃ C f fd, Fun K "__init__" qual st f fd ∧ mg c = some (.ref C) ∧ Mk K C f ∧ Binds K fd ps []
theorem dfn_of (T : TF K mg x qual st ps) (S : FnScope N ps (defScope st)) (h : Body P w K mg base N qual st k m) : Dfn P w K mg base x (k + 1) (mFun ps.length N.length m) := by
  obtain ⟨f, fd, F, hm, hb⟩ := T
  exact ⟨f, fd, ps, fnok_of F S h, hm, F.kp, hb⟩
theorem dfn_bad (T : TF K mg x qual st ps) : Dfn P w K mg base x k mBad := by
  obtain ⟨f, fd, F, hm, hb⟩ := T
  exact ⟨f, fd, ps, fnok_bad, hm, F.kp, hb⟩
theorem mtd_of (T : TM K mg c x qual st ps) (S : FnScope N ps (defScope st)) (h : Body P w K mg base N qual st k m) : Mtd P w K mg base c x (k + 1) (mFun ps.length N.length m) := by
  obtain ⟨f, fd, F, hm, hb, cl⟩ := T
  exact ⟨f, fd, ps, fnok_of F S h, hm, hb, cl⟩
theorem mtd_bad (T : TM K mg c x qual st ps) : Mtd P w K mg base c x k mBad := by
  obtain ⟨f, fd, F, hm, hb, cl⟩ := T
  exact ⟨f, fd, ps, fnok_bad, hm, hb, cl⟩
theorem mkr_of (T : TI K mg c qual st ps) (S : FnScope N ps (defScope st)) (h : Body P w K mg base N qual st k m) : Mkr P w K mg base c (k + 1) (mFun ps.length N.length m) := by
  obtain ⟨C, f, fd, F, hm, M, hb⟩ := T
  exact ⟨C, f, fd, ps, fnok_of F S h, hm, M, hb⟩
theorem Dfn.mono {g : List D → AH → R D} {j : Nat} (d : Dfn P w K mg base x k g) (h : k ≤ j) : Dfn P w K mg base x j g := by
  obtain ⟨f, fd, ps, F, a, b, c⟩ := d
  exact ⟨f, fd, ps, F.mono h, a, b, c⟩
end

/-! ### constants of the module -/
def GDat (K : PySem.W.Frag) (mg : Str → Option Value) (x : Str) (d : D) : Prop := ∃ u v, mg x = some u ∧ RelV v u ∧ ∀ W, Rep K W d v
noncomputable def gV {K : PySem.W.Frag} {mg : Str → Option Value} {x : Str} {d : D} (g : GDat K mg x d) : V := g.choose_spec.choose
theorem sglob {X : Cx} {Wx : WX} {x : Str} {d : D} {pos : Pos} (g : GDat X.K X.mg x d) (hg : Gl X x := by rfl) (hdb : (x == ("__debug__" : Str)) = false := by decide) : SE X Wx (.Name x pos) (tC (gV g)) (mc d) :=
  ⟨pe_glob hg g.choose_spec.choose_spec.1 g.choose_spec.choose_spec.2.1 hdb, fun W σ s A H Q k sr h => h.ok_at k (g.choose_spec.choose_spec.2.2 W)⟩
section
variable {K : PySem.W.Frag} {mg : Str → Option Value} {x : Str}
theorem gint {i : Int} {t : Tok} (h : mg x = some (.int i t)) : GDat K mg x (.int i) := ⟨_, .int i, h, ⟨t, rfl⟩, fun _ => rfl⟩
theorem gstr {i : Str} {t : Tok} (h : mg x = some (.str i t)) : GDat K mg x (.str i) := ⟨_, .str i, h, ⟨t, rfl⟩, fun _ => rfl⟩
/-- numbers and texts, as they are written -/
def fltOk : List D → List Value → Bool
  | [], [] => true
  | .int i :: ds, .int j _ :: us => decide (i = j) && fltOk ds us
  | .str i :: ds, .str j _ :: us => decide (i = j) && fltOk ds us
  | _, _ => false
theorem flt_at {W : Wd} : ∀ {ds : List D} {us : List Value}, fltOk ds us = true → ∃ vs, Reps K W ds vs ∧ Vals vs us
  | [], [], _ => ⟨[], rfl, .nil⟩
  | [], _ :: _, h => by cases h
  | .int i :: ds, [], h => by cases h
  | .int i :: ds, u :: us, h => by
    cases u with
    | int j t =>
      simp only [fltOk, Bool.and_eq_true, decide_eq_true_eq] at h
      obtain ⟨vs, r, v⟩ := flt_at h.2
      exact ⟨.int i :: vs, Reps.cons rfl r, .cons ⟨t, by rw [h.1]⟩ v⟩
    | _ => cases h
  | .str i :: ds, [], h => by cases h
  | .str i :: ds, u :: us, h => by
    cases u with
    | str j t =>
      simp only [fltOk, Bool.and_eq_true, decide_eq_true_eq] at h
      obtain ⟨vs, r, v⟩ := flt_at h.2
      exact ⟨.str i :: vs, Reps.cons rfl r, .cons ⟨t, by rw [h.1]⟩ v⟩
    | _ => cases h
  | .non :: ds, us, h => by cases us <;> cases h
  | .bl _ :: ds, us, h => by cases us <;> cases h
  | .tup _ :: ds, us, h => by cases us <;> cases h
  | .lst _ :: ds, us, h => by cases us <;> cases h
  | .dct _ _ :: ds, us, h => by cases us <;> cases h
  | .ref _ :: ds, us, h => by cases us <;> cases h
  | .scr _ :: ds, us, h => by cases us <;> cases h
/-- where a tuple of numbers and texts stands -/
def tupAt (K : PySem.W.Frag) (a : Addr) (ds : List D) : Bool := match K.lookup a with
  | some ⟨.type c, _, .seq its _, _⟩ => decide (c = "tuple") && (decide (its.size ≤ 1000) && fltOk ds its.toList)
  | _ => false
theorem gtupc {a : Addr} {ds : List D} (h : mg x = some (.ref a)) (h1 : tupAt K a ds = true) : GDat K mg x (.tup ds) := by
  unfold tupAt at h1
  split at h1
  · rename_i c od its n sl e
    simp only [Bool.and_eq_true, decide_eq_true_eq] at h1
    obtain ⟨rfl, h2, h3⟩ := h1
    refine ⟨_, .ref a, h, rfl, fun W => ?_⟩
    obtain ⟨vs, r, v⟩ := flt_at (K := K) (W := W) h3
    exact ⟨a, vs, rfl, .inr ⟨_, its, n, e, rfl, rfl, Nat.le_trans h2 (by decide), v⟩, r⟩
  · cases h1

/-- a written table of texts -/
structure KTab (K : PySem.W.Frag) (w : World) (d : Addr) (kvs : List (Str × Str)) : Prop where
  kd : ∃ es n, KDict K w d es n
  yes : ∀ z v, kvs.lookup z = some v → ∃ t, PySem.W.nsIn K d z = some (some (.str v t))
  no : ∀ z, kvs.lookup z = none → PySem.W.nsIn K d z = some none
def GTab (K : PySem.W.Frag) (w : World) (mg : Str → Option Value) (x : Str) (kvs : List (Str × Str)) : Prop := ∃ d, mg x = some (.ref d) ∧ KTab K w d kvs
def entOf (e : DictEntry) : Option (Str × Str) := match e.key, e.val with
  | .str x _, .str y _ => some (x, y)
  | _, _ => none
def dicT (K : PySem.W.Frag) (a : Addr) : List (Option (Str × Str)) := match K.lookup a with
  | some ⟨_, _, .dict es _, _⟩ => es.toList.map entOf
  | _ => []
theorem ents_at : ∀ {l : List DictEntry} {kvs : List (Str × Str)}, l.map entOf = kvs.map some → ∀ z, (match l.find? (·.key.isStr z) with
      | some e => some (some e.val)
      | none => if l.any (·.refKey) then none else some none) = (match kvs.lookup z with
      | some v => some (some ((l.find? (·.key.isStr z)).elim (.str v default) (·.val)))
      | none => some none) ∧ ∀ v, kvs.lookup z = some v → ∃ e t, l.find? (·.key.isStr z) = some e ∧ e.val = .str v t
  | [], [], _, z => ⟨rfl, fun v h => by cases h⟩
  | [], _ :: _, h, _ => by cases h
  | _ :: _, [], h, _ => by cases h
  | e :: l, (k, v) :: kvs, h, z => by
    simp only [List.map_cons, List.cons.injEq] at h
    obtain ⟨h1, h2⟩ := h
    obtain ⟨i1, i2⟩ := ents_at h2 z
    unfold entOf at h1
    split at h1
    · rename_i kx kt vx vt ek ev
      cases h1
      have hs : e.key.isStr z = (k == z) := by rw [ek]; rfl
      have hr : e.refKey = false := by
        unfold DictEntry.refKey
        rw [ek]
      simp only [List.find?, List.lookup, hs]
      cases q : k == z with
      | true =>
        have q' : (z == k) = true := by
          rw [beq_iff_eq] at q ⊢
          exact q.symm
        rw [q']
        exact ⟨rfl, fun v' h' => by cases h'; exact ⟨e, vt, rfl, ev⟩⟩
      | false =>
        have q' : (z == k) = false := by
          cases q2 : z == k with
          | false => rfl
          | true =>
            rw [beq_iff_eq] at q2
            rw [q2, beq_self_eq_true] at q
            cases q
        rw [q']
        refine ⟨?_, i2⟩
        rw [List.any_cons, hr, Bool.false_or]
        exact i1
    · cases h1
theorem ktab_of {w : World} {a : Addr} {ks : List Str} {kvs : List (Str × Str)} (h : He.dicW K a = some (He.keysIn w.params ks)) (h2 : dicT K a = kvs.map some) : KTab K w a kvs := by
  have kd := He.dicW_ok h
  obtain ⟨es, n, D⟩ := id kd
  unfold dicT at h2
  rw [D.at_] at h2
  have e0 : ∀ z, PySem.W.nsIn K a z = (match es.toList.find? (·.key.isStr z) with
      | some e => some (some e.val)
      | none => if es.toList.any (·.refKey) then none else some none) := fun z => by
    unfold PySem.W.nsIn
    rw [D.at_]
    rfl
  refine ⟨kd, fun z v e => ?_, fun z e => ?_⟩
  · obtain ⟨e', t, e1, e2⟩ := (ents_at h2 z).2 v e
    refine ⟨t, ?_⟩
    rw [e0, e1, ← e2]
  · rw [e0, (ents_at h2 z).1, e]
theorem gtab_of {w : World} {a : Addr} {ks : List Str} {kvs : List (Str × Str)} (hm : mg x = some (.ref a)) (h : He.dicW K a = some (He.keysIn w.params ks)) (h2 : dicT K a = kvs.map some) : GTab K w mg x kvs := ⟨a, hm, ktab_of h h2⟩
end
def kinD (kvs : List (Str × Str)) : D → AH → R D
  | .str z, A => .ok (.bl (kvs.lookup z).isSome) A
  | _, _ => .bad
def kninD (kvs : List (Str × Str)) : D → AH → R D
  | .str z, A => .ok (.bl (!(kvs.lookup z).isSome)) A
  | _, _ => .bad
def kixD (kvs : List (Str × Str)) : D → AH → R D
  | .str z, A => match kvs.lookup z with
    | some v => .ok (.str v) A
    | none => .bad
  | _, _ => .bad
section
variable {X : Cx} {Wx : WX} {a : Expr} {ta : TE} {ma : ME} {x : Str} {kvs : List (Str × Str)} {p pos : Pos}
def rKin (K : PySem.W.Frag) (w : World) (neg : Bool) : R2 := fun x y H Q => ∃ (d : Addr) (es : Array DictEntry) (n : Nat) (z : Str) (r : Option Value), KDict K w d es n ∧ x = .str z ∧ y = .ref d ∧ PySem.W.nsIn K d z = some r ∧ Q (.bl (if neg then !r.isSome else r.isSome)) H
theorem op_kin : OpR X (compareOp .In) (rKin X.K X.w false) := fun pins s σ H x y v u Q I rx ry ⟨d, es, n, z, r, D, h⟩ => op_in_kd D pins s σ H x y v u Q I rx ry ⟨z, r, h⟩
theorem op_knin : OpR X (compareOp .NotIn) (rKin X.K X.w true) := fun pins s σ H x y v u Q I rx ry ⟨d, es, n, z, r, D, h⟩ => op_notIn_kd D pins s σ H x y v u Q I rx ry ⟨z, r, h⟩
theorem sim_kin {neg : Bool} (T : GTab X.K X.w X.mg x kvs) (ha : SimE X.K X.mg Wx ta ma) : SimE X.K X.mg Wx (tOp (rKin X.K X.w neg) ta (tC (.ref (clA X.mg x)))) (mUn (if neg then kninD kvs else kinD kvs) ma) := by
  obtain ⟨d, hm, T⟩ := T
  obtain ⟨es, n, D⟩ := T.kd
  rw [clA_of hm]
  refine fun W σ s A H Q k sr h => ha W σ s A H _ k sr (h.bind fun x A1 v W1 H1 e1 k1 r1 h1 => ?_)
  cases x with
  | str z =>
    obtain rfl : v = V.str z := r1
    cases q : kvs.lookup z with
    | none =>
      refine ⟨d, es, n, z, none, D, rfl, rfl, T.no z q, ?_⟩
      cases neg with
      | true => exact h1.ok_at k1 (by rw [q]; rfl)
      | false => exact h1.ok_at k1 (by rw [q]; rfl)
    | some v =>
      obtain ⟨t, e⟩ := T.yes z v q
      refine ⟨d, es, n, z, _, D, rfl, rfl, e, ?_⟩
      cases neg with
      | true => exact h1.ok_at k1 (by rw [q]; rfl)
      | false => exact h1.ok_at k1 (by rw [q]; rfl)
  | _ => cases neg <;> exact h1.elim
theorem pe_tab (T : GTab X.K X.w X.mg x kvs) (hg : Gl X x := by rfl) (hdb : (x == ("__debug__" : Str)) = false := by decide) : PE X (.Name x p) (tC (.ref (clA X.mg x))) := by
  obtain ⟨d, hm, T⟩ := T
  rw [clA_of hm]
  exact pe_glob hg hm rfl hdb
theorem skin (T : GTab X.K X.w X.mg x kvs) (ha : SE X Wx a ta ma) (hg : Gl X x := by rfl) (hdb : (x == ("__debug__" : Str)) = false := by decide) (hm : behindInMarks .In (.Name x p) = false := by rfl) :
    SE X Wx (.Compare a [.In] [.Name x p] pos) (tOp (rKin X.K X.w false) ta (tC (.ref (clA X.mg x)))) (mUn (kinD kvs) ma) := ⟨pe_cmpR op_kin ha.pe (pe_tab T hg hdb) hm, sim_kin (neg := false) T ha.sim⟩
theorem sknin (T : GTab X.K X.w X.mg x kvs) (ha : SE X Wx a ta ma) (hg : Gl X x := by rfl) (hdb : (x == ("__debug__" : Str)) = false := by decide) (hm : behindInMarks .NotIn (.Name x p) = false := by rfl) :
    SE X Wx (.Compare a [.NotIn] [.Name x p] pos) (tOp (rKin X.K X.w true) ta (tC (.ref (clA X.mg x)))) (mUn (kninD kvs) ma) := ⟨pe_cmpR op_knin ha.pe (pe_tab T hg hdb) hm, sim_kin (neg := true) T ha.sim⟩
theorem tkin (T : GTab X.K X.w X.mg x kvs) (ha : SE X Wx a ta ma) (hg : Gl X x := by rfl) (hdb : (x == ("__debug__" : Str)) = false := by decide) (hm : behindInMarks .In (.Name x p) = false := by rfl) :
    ST X Wx (.Compare a [.In] [.Name x p] pos) (tTest (tOp (rKin X.K X.w false) ta (tC (.ref (clA X.mg x))))) (mTb (mUn (kinD kvs) ma)) := ⟨pt_cmpR op_kin ha.pe (pe_tab T hg hdb) hm, sim_test (sim_kin (neg := false) T ha.sim)⟩
theorem tknin (T : GTab X.K X.w X.mg x kvs) (ha : SE X Wx a ta ma) (hg : Gl X x := by rfl) (hdb : (x == ("__debug__" : Str)) = false := by decide) (hm : behindInMarks .NotIn (.Name x p) = false := by rfl) :
    ST X Wx (.Compare a [.NotIn] [.Name x p] pos) (tTest (tOp (rKin X.K X.w true) ta (tC (.ref (clA X.mg x))))) (mTb (mUn (kninD kvs) ma)) := ⟨pt_cmpR op_knin ha.pe (pe_tab T hg hdb) hm, sim_test (sim_kin (neg := true) T ha.sim)⟩
theorem skix (T : GTab X.K X.w X.mg x kvs) (ha : SE X Wx a ta ma) (hg : Gl X x := by rfl) (hdb : (x == ("__debug__" : Str)) = false := by decide) (hs : PlainIx a := by intro _ _; rfl) :
    SE X Wx (.Subscript (.Name x p) a pos) (tOp (rIxD X.K X.w) (tC (.ref (clA X.mg x))) ta) (mUn (kixD kvs) ma) := ⟨pe_ix ix_kdict (pe_tab T hg hdb) ha.pe hs, by
  obtain ⟨d, hm, T⟩ := T
  obtain ⟨es, n, D⟩ := T.kd
  rw [clA_of hm]
  refine fun W σ s A H Q k sr h => ha.sim W σ s A H _ k sr (h.bind fun x A1 v W1 H1 e1 k1 r1 h1 => ?_)
  cases x with
  | str z =>
    obtain rfl : v = V.str z := r1
    unfold kixD at h1
    dsimp only at h1
    cases q : kvs.lookup z with
    | none =>
      rw [q] at h1
      exact h1.elim
    | some v =>
      rw [q] at h1
      obtain ⟨t, e⟩ := T.yes z v q
      exact ⟨d, z, .str v, rfl, rfl, ⟨es, n, _, D.at_, D.lit, e, ⟨t, rfl⟩⟩, h1.ok_at k1 rfl⟩
  | _ => exact h1.elim⟩
end

/-! ### within a block: terms told by the names of the def's context -/
theorem se_fix {X : Cx} {Wx : WX} {e : Expr} {t t' : TE} {m : ME} (h : SE X Wx e t m) (ht : t = t') : SE X Wx e t' m := ht ▸ h
theorem sts_fix {X : Cx} {Wx : WX} {e : List Expr} {t t' : TT} {m : MT} (h : STs X Wx e t m) (ht : t = t') : STs X Wx e t' m := ht ▸ h
theorem sg_fix {X : Cx} {e : Expr} {t t' : TG} {m : MG} {is : List Nat} (h : SG X e t m is) (ht : t = t') : SG X e t' m is := ht ▸ h

/-! ### shorter rules -/
section
variable {X : Cx} {Wx : WX} {pos : Pos}
theorem spar2 {i j : Nat} {x y : Str} {a b : Expr} {ta : TA} {ma : MA} {px py pt pt2 : Pos} {kt k2 : Nat} (hc : X.calm = true) (hN : X.N.Nodup) (h : SA X Wx [a, b] ta ma) (hi : X.N[i]? = some x := by rfl) (hj : X.N[j]? = some y := by rfl) (hij : i ≠ j := by decide)
    (hx : X.env.scope.names.lookup x = some .local := by rfl) (hy : X.env.scope.names.lookup y = some .local := by rfl)
    (hw : swappedStores [.Tuple [.Name x px, .Name y py] kt pt] (.Tuple [a, b] k2 pt2) X.env = pure (some [x, y]) := by rfl)
    (hs : swapsWithSole [.Tuple [.Name x px, .Name y py] kt pt] (.Tuple [a, b] k2 pt2) pos.line X.env = pure false := by rfl) :
    SS X Wx (.Assign [.Tuple [.Name x px, .Name y py] kt pt] (.Tuple [a, b] k2 pt2) pos) (tPar i j ta) (mPar [i, j] ma) := spar hc hN h (ps_par hc hN hi hj hij hx hy h.pa hw hs)
theorem sparT {i j l : Nat} {x y z : Str} {a b c : Expr} {ta : TA} {ma : MA} {px py pz pt pt2 : Pos} {kt k2 : Nat} (hc : X.calm = true) (hN : X.N.Nodup) (h : SA X Wx [a, b, c] ta ma) (hi : X.N[i]? = some x := by rfl) (hj : X.N[j]? = some y := by rfl) (hl : X.N[l]? = some z := by rfl)
    (hij : i ≠ j := by decide) (hil : i ≠ l := by decide) (hjl : j ≠ l := by decide) (hx : X.env.scope.names.lookup x = some .local := by rfl) (hy : X.env.scope.names.lookup y = some .local := by rfl) (hz : X.env.scope.names.lookup z = some .local := by rfl)
    (hw : swappedStores [.Tuple [.Name x px, .Name y py, .Name z pz] kt pt] (.Tuple [a, b, c] k2 pt2) X.env = pure (some [x, y, z]) := by rfl)
    (hs : swapsWithSole [.Tuple [.Name x px, .Name y py, .Name z pz] kt pt] (.Tuple [a, b, c] k2 pt2) pos.line X.env = pure false := by rfl) :
    SS X Wx (.Assign [.Tuple [.Name x px, .Name y py, .Name z pz] kt pt] (.Tuple [a, b, c] k2 pt2) pos) (tPar3 i j l ta) (mPar [i, j, l] ma) := spar3 hc hN h (ps_par3 hc hN hi hj hl hij hil hjl hx hy hz h.pa hw hs)
end
end Tg

set_option Elab.async false
set_option linter.all false
set_option maxRecDepth 100000
set_option maxHeartbeats 2000000
/-! TgMore: d.update(pairs). -/
namespace Tg
open PySem PySem.Spec PyProof.Rows L2
theorem pairs_at {X : Cx} {pins : List (Addr × Obj)} {σ : L2.St} {H : Hp} {s : Shared} (I : Inv X pins σ H s) : ∀ {ps : List Addr} {kvs : List (Key × V)}, Paired (fun p kv => SqT X.K H p [kV kv.1, kv.2]) ps kvs →
    ∃ (prs : List (Key × Value)) (qs : List (Value × Value)), L2.KV kvs prs ∧ qs.length = ps.length ∧ prs.length = ps.length ∧ ∀ (j : Nat) (k v : Value), qs[j]? = some (k, v) → ∃ (b : Addr) (y : Key), ps[j]? = some b ∧ IsTup s.heap b #[k, v] ∧ prs[j]? = some (y, v) ∧ (mixKind X.prog X.w).is y k = true
  | _, _, .nil => ⟨[], [], .nil, rfl, rfl, fun j k v e => by simp at e⟩
  | _, _, .cons (a := p) (b := kv) h t => by
    obtain ⟨prs, qs, r, hl, hl2, hp⟩ := pairs_at I t
    obtain ⟨its, rv, ht, _⟩ := I.tuple h
    obtain ⟨u, y, ei, ru, ry⟩ := vals2 rv
    subst ei
    refine ⟨(kv.1, y) :: prs, (u, y) :: qs, .cons ⟨rfl, ry⟩ r, by rw [List.length_cons, List.length_cons, hl], by rw [List.length_cons, List.length_cons, hl2], fun j k v e => ?_⟩
    cases j with
    | zero =>
      have e' : (u, y) = (k, v) := Option.some.inj e
      cases e'
      exact ⟨p, kv.1, rfl, ht, rfl, kV_is (P := X.prog) (w := X.w) ru⟩
    | succ j =>
      obtain ⟨b, y', e1, e2, e3, e4⟩ := hp j k v (by simpa using e)
      exact ⟨b, y', by simpa using e1, e2, by simpa using e3, e4⟩
def rUpd (K : PySem.W.Frag) : V → List V → Hp → VK → Prop := fun x xs H Q => ∃ (d a : Addr) (ps : List Addr) (kvs acc : List (Key × V)), x = .ref d ∧ xs = [.ref a] ∧ H d = some (.dK acc) ∧ SqL K H a (ps.map V.ref) ∧ Paired (fun p kv => SqT K H p [kV kv.1, kv.2]) ps kvs ∧
    acc.length + kvs.length ≤ 16777216 ∧ Q .non (upd H d (.dK (mergeK acc kvs)))
theorem mt_upd {X : Cx} (hcalm : X.calm = true) : MtR X "dict.update" (rUpd X.K) := by
  intro pins s σ H x xs v us Q I rx r q
  obtain ⟨d, a, ps, kvs, acc, rfl, rfl, hd, hq, hp, hsz, q⟩ := q
  obtain ⟨u, rfl, ru⟩ := vals1 r
  cases rx
  cases ru
  obtain ⟨its, rv, pl, hz⟩ := I.list hq
  have ei := refs_at rv
  subst ei
  obtain ⟨prs, qs, rel, hl, hl2, hpr⟩ := pairs_at I hp
  obtain ⟨z, hdl, vs, rel2, dd⟩ := dk_of I.hok hd
  obtain ⟨o, n, ho, hc, hdd, hdat⟩ := pl
  have od := dd
  obtain ⟨obd, _, _, hod, ex, _⟩ := od
  have kl : kvs.length = prs.length := rel.length
  have tup_ne : ∀ b its, IsTup s.heap b its → d ≠ b := fun b its ⟨ob, e1, e2, _⟩ q => by
    rw [← q, hod] at e1
    cases e1
    rw [ex.1] at e2
    exact absurd (Value.type.inj e2) (by decide)
  refine call_update_pairs (knd := mixKind X.prog X.w) (acc := vs) (kvs := prs) (PairArg.list (prog := X.prog) (w := X.w) a (ps.map Value.ref).toArray (fun j => ps.getD j 0) qs) (I.ok.hd hcalm) ⟨⟨o, n, ho, hc, hdd, hdat⟩, ⟨by simp [hl], fun j k v e => ?_⟩⟩ (fun hm => ?_) ⟨by rw [hl2, hl], fun j k v e => ?_⟩ dd ?_ fun h' tk hd' kk => ?_
  · obtain ⟨b, y, e1, e2, e3, e4⟩ := hpr j k v e
    refine ⟨by simp [e1], .inl ?_⟩
    show s.heap.IsTuple (ps.getD j 0) #[k, v]
    rw [List.getD_eq_getElem?_getD, e1]
    exact e2
  · rcases List.mem_cons.mp hm with hm | hm
    · rw [hm, ho] at hod
      cases hod
      rw [ex.1] at hc
      exact absurd (Value.type.inj hc) (by decide)
    · obtain ⟨j, hj, e⟩ := List.mem_map.mp hm
      have hj2 := List.mem_range.mp hj
      obtain ⟨b, y, e1, e2, e3, e4⟩ := hpr j qs[j].1 qs[j].2 (List.getElem?_eq_getElem hj2)
      rw [List.getD_eq_getElem?_getD, e1] at e
      exact tup_ne b _ e2 e.symm
  · obtain ⟨b, y, e1, e2, e3, e4⟩ := hpr j k v e
    exact ⟨y, e3, e4⟩
  · rw [sizeLine_eq, ← rel2.length, hl, ← hl2, ← kl]
    exact hsz
  · have he : ∃ q, h'.get? d = some q := let ⟨q, _, _, hq, _⟩ := hd'; ⟨q, hq⟩
    have hlen : (mergeK acc kvs).length ≤ sizeLine := Nat.le_trans (length_mergeK kvs acc) (by rw [sizeLine_eq]; exact hsz)
    exact ⟨.non, _, I.write (x := d) (e := d) (t' := tk) (by rw [hd]; exact True.intro) (.inl rfl) (fun b q hb z => kk b q hb (fun z => nomatch z) z) he (dk_new hlen hdl (KV.merge rel rel2) hd'), rfl, q⟩

/-- the pairs of a list -/
def pairsD : List D → Option (List (Key × D))
  | [] => some []
  | .tup [k, v] :: ds => match keyD k, pairsD ds with
    | some k, some kvs => some ((k, v) :: kvs)
    | _, _ => none
  | _ => none
def updD : D → List D → AH → R D := fun x ds A => match x, ds with
  | .ref n, [.lst ps] => match A[n]?, pairsD ps with
    | some (.dct acc), some kvs => if acc.length + kvs.length ≤ 16777216 then .ok .non (A.set n (.dct (mergeD acc kvs))) else .bad
    | _, _ => .bad
  | _, _ => .bad
section
variable {K : PySem.W.Frag} {mg : Str → Option Value} {W : Wd}
theorem pairsD_at {A : AH} {H : Hp} (k : Ok K mg W A H) : ∀ {ds : List D} {xs : List V} {more : List (Key × D)}, Reps K W ds xs → pairsD ds = some more →
    ∃ (ps : List Addr) (kvs : List (Key × V)), xs = ps.map V.ref ∧ Paired (fun p kv => SqT K H p [kV kv.1, kv.2]) ps kvs ∧ KVR K W more kvs
  | [], xs, more, r, e => by
    cases (show some [] = some more from e)
    cases (show xs = [] from r)
    exact ⟨[], [], rfl, .nil, rfl, rfl⟩
  | d :: ds, xs, more, r, e => by
    obtain ⟨v, r', rfl, h1, h2⟩ := r
    unfold pairsD at e
    split at e
    · cases ‹_ = []›
    · rename_i kd vd ds' q
      simp only [List.cons.injEq] at q
      obtain ⟨rfl, rfl⟩ := q
      split at e
      · rename_i kx kvs' e1 e2
        cases e
        obtain ⟨ps, kvs, rfl, e4, e5⟩ := pairsD_at k h2 e2
        obtain ⟨a, ys, rfl, q1, q2⟩ := h1
        obtain ⟨y1, y2, rfl, q3, q4⟩ := reps2 q2
        refine ⟨a :: ps, (kx, y2) :: kvs, rfl, .cons ?_ e4, KVR.mk_cons q4 e5⟩
        rw [← keyD_at q3 e1]
        exact k.sqT q1
      · cases e
    · cases e
theorem oUpdS : MtS K mg (rUpd K) updD := fun W A H E Q d x ds xs k rx r h => by
  unfold updD at h
  split at h
  · rename_i n ps
    obtain ⟨a, rfl, ha⟩ := rx
    obtain ⟨v, rfl, h1⟩ := reps1 r
    split at h
    · rename_i acc kvs q1 q2
      split at h
      · rename_i z
        obtain ⟨vs, hx, hk, rr⟩ := k.obj n a _ ha q1
        have kr : KVR K W acc vs := ⟨hk, rr⟩
        obtain ⟨b, ys, rfl, h3, h4⟩ := h1
        obtain ⟨qs, kvs', rfl, e1, e2⟩ := pairsD_at k h4 q2
        refine ⟨a, b, qs, kvs', vs, rfl, rfl, hx, .of (k.frz _ _ h3), e1, by rw [kr.len, e2.len]; exact z, post_write (d := .non) k ha (obd (KVR.merge e2 kr)) rfl h⟩
      · exact h.elim
    · exact h.elim
  · exact h.elim
end
end Tg

set_option Elab.async false
set_option linter.all false
set_option maxRecDepth 100000
set_option maxHeartbeats 2000000
/-! TgEnd: what the head's facts give; the law's own end. -/
namespace Tg
open PySem PySem.Spec PyProof.Rows L2
section
variable {K : PySem.W.Frag} {h : Heap} {mg : Str → Option Value} {x qual c : Str} {st : Stmt} {ps : List Str} {f C : Addr} {oc kV doc pm cdv ct : Value} {od an : Option Addr} {osl : Array (Option Value)}
abbrev HB (x qual : Str) (st : Stmt) (ps : List Str) : Prop := ∀ (kV doc pm : Value) (an : Option Addr) (cdv ct : Value) (us : List Value), us.length = ps.length → bindArgs (PySem.W.fnOf x qual (defArgs st) (defBody st) (defScope st) .none kV doc pm an cdv ct) ⟨us, []⟩ = pure (ps.zip us)
theorem tf_of (X : K.In h) (G : h.Ns mainGlobals mg) (a : PySem.W.nsIn K mainGlobals x = some (some (.ref f))) (l : K.lookup f = some ⟨oc, od, .func (PySem.W.fnOf x qual (defArgs st) (defBody st) (defScope st) .none kV doc pm an cdv ct), osl⟩)
    (cc : PySem.W.codeIn K cdv qual = true) (k : PySem.W.keepIn K (.ref f) = true) (b : HB x qual st ps) : TF K mg x qual st ps :=
  ⟨f, _, fun_mk l cc k, PySem.W.mg_of X G a, (fun_mk l cc k).binds b⟩
def TL (K : PySem.W.Frag) (mg : Str → Option Value) (x : Str) (st : Stmt) (p : Str) : Prop := ∃ f fd, Fun K x x st f fd ∧ mg x = some (.ref f) ∧ ∀ (s : Shared) (v : Value), BindsTo s fd ⟨[v], []⟩ [(p, v)]
theorem tl_of {p : Str} (X : K.In h) (G : h.Ns mainGlobals mg) (a : PySem.W.nsIn K mainGlobals x = some (some (.ref f))) (l : K.lookup f = some ⟨oc, od, .func (PySem.W.fnOf x x (defArgs st) (defBody st) (defScope st) .none kV doc pm an cdv ct), osl⟩)
    (cc : PySem.W.codeIn K cdv x = true) (k : PySem.W.keepIn K (.ref f) = true) (b : HB x x st [p]) : TL K mg x st p :=
  ⟨f, _, fun_mk l cc k, PySem.W.mg_of X G a, fun s v => .of_eq (b kV doc pm an cdv ct [v] rfl)⟩
theorem tm_of (X : K.In h) (G : h.Ns mainGlobals mg) (a : PySem.W.nsIn K mainGlobals c = some (some (.ref C))) (m : PySem.W.findIn K (.ref C) x = some (some (.ref f))) (i : PySem.W.isFn K (.ref f) = true)
    (l : K.lookup f = some ⟨oc, od, .func (PySem.W.fnOf x qual (defArgs st) (defBody st) (defScope st) .none kV doc pm an cdv ct), osl⟩) (cc : PySem.W.codeIn K cdv qual = true) (k : PySem.W.keepIn K (.ref f) = true) (b : HB x qual st ps)
    (pg : PySem.W.plainGet K C Str.empty = true) (hd : PySem.W.hasDictIn K C = true) (po : PySem.W.plainOver K C = true) (sa : PySem.W.findIn K (.ref C) "__setattr__" = some (some (.builtin "object.__setattr__"))) : TM K mg c x qual st ps := by
  have e : clA mg c = C := clA_of (PySem.W.mg_of X G a)
  exact ⟨f, _, fun_mk l cc k, by rw [e]; exact ⟨m, i, k⟩, (fun_mk l cc k).binds b, by rw [e]; exact ⟨pg, hd, po, sa⟩⟩
theorem ti_of (X : K.In h) (G : h.Ns mainGlobals mg) (a : PySem.W.nsIn K mainGlobals c = some (some (.ref C))) (m : PySem.W.findIn K (.ref C) "__init__" = some (some (.ref f))) (i : PySem.W.isFn K (.ref f) = true)
    (l : K.lookup f = some ⟨oc, od, .func (PySem.W.fnOf "__init__" qual (defArgs st) (defBody st) (defScope st) .none kV doc pm an cdv ct), osl⟩) (cc : PySem.W.codeIn K cdv qual = true) (k : PySem.W.keepIn K (.ref f) = true) (b : HB "__init__" qual st ps)
    (mk : PySem.W.makesIn K C = true) (kc : PySem.W.keepIn K (.ref C) = true) : TI K mg c qual st ps :=
  ⟨C, f, _, fun_mk l cc k, PySem.W.mg_of X G a, ⟨mk, m, i, kc⟩, (fun_mk l cc k).binds b⟩
theorem fds_nil {f : Str} : Fds K mg [] f := fun _ h => nomatch h
theorem fds_cons {f : Str} {cs : List Str} (X : K.In h) (G : h.Ns mainGlobals mg) (a : PySem.W.nsIn K mainGlobals c = some (some (.ref C)))
    (pg : PySem.W.plainGet K C Str.empty = true) (hd : PySem.W.hasDictIn K C = true) (po : PySem.W.plainOver K C = true) (sa : PySem.W.findIn K (.ref C) "__setattr__" = some (some (.builtin "object.__setattr__")))
    (nf : PySem.W.findIn K (.ref C) f = some none) (r : Fds K mg cs f) : Fds K mg (c :: cs) f := fun y hy => by
  rcases List.mem_cons.mp hy with rfl | hy
  · have e : clA mg y = C := clA_of (PySem.W.mg_of X G a)
    rw [e]
    exact ⟨⟨pg, hd, po, sa⟩, nf⟩
  · exact r y hy
end
/-- constants, by what stands there -/
theorem gtup_at {x : Str} {K : PySem.W.Frag} {mg : Str → Option Value} {a : Addr} {ds : List D} {od : Option Addr} {its : Array Value} {n : Nat} {sl : Array (Option Value)} (h : mg x = some (.ref a)) (l : K.lookup a = some ⟨.type "tuple", od, .seq its n, sl⟩)
    (h2 : (decide (its.size ≤ 1000) && fltOk ds its.toList) = true) : GDat K mg x (.tup ds) := gtupc h (by
  unfold tupAt
  rw [l]
  simp only [decide_true, Bool.true_and]
  exact h2)
theorem gtab_at {x : Str} {K : PySem.W.Frag} {mg : Str → Option Value} {w : World} {a : Addr} {kvs : List (Str × Str)} {es : Array DictEntry} {n : Nat} (hm : mg x = some (.ref a)) (l : K.lookup a = some ⟨.type "dict", none, .dict es n, #[]⟩) (k : PySem.W.KeysLit w.params es.toList)
    (o : (a == sysModules) = false) (h2 : es.toList.map entOf = kvs.map some) : GTab K w mg x kvs := by
  refine ⟨a, hm, ?_⟩
  have e0 : ∀ z, PySem.W.nsIn K a z = (match es.toList.find? (·.key.isStr z) with
      | some e => some (some e.val)
      | none => if es.toList.any (·.refKey) then none else some none) := fun z => by
    unfold PySem.W.nsIn
    rw [l]
    rfl
  refine ⟨⟨es, n, l, k, o⟩, fun z v e => ?_, fun z e => ?_⟩
  · obtain ⟨e', t, e1, e2⟩ := (ents_at h2 z).2 v e
    refine ⟨t, ?_⟩
    rw [e0, e1, ← e2]
  · exact ((e0 z).trans (ents_at h2 z).1).trans (by rw [e])
def spLaw (K : PySem.W.Frag) : Sp := fun vs H Q _ => ∃ (a : Addr) (ns : List Int), vs = [.ref a] ∧ SqL K H a (ns.map V.int) ∧ ns.length ≤ 63 ∧ ∀ H', Q (.bl true) H'
theorem cx_none {P : Program} {w : World} {H : Hp} {s s' : Shared} {e : Value} (z : L2.CX P w [] H s (fun _ _ _ => False) e s') : False := by
  obtain ⟨_, _, _, _, _, _, _, _, _, _, _, _, q⟩ := z
  exact q
theorem lawEnd {l : PySem.W.OpenLaw} {w : World} {K : PySem.W.Frag} {mg : Str → Option Value} {fa : Addr} {N : List Str} {st : Stmt} {p : Str} {k : Nat} {m : MS} (hfa : mg "law" = some (.ref fa)) (T : TL K mg "law" st p) (S : FnScope N [p] (defScope st))
    (h : ∀ base : Heap, Body l.prog w K mg base N "law" st k m) (hl : ∀ ns : List Int, ns.length ≤ 63 → ∃ A, mFun 1 N.length m [.scr ns] [] = .ok (.bl true) A) :
    ∃ fd : FuncData, (∀ (s : Shared) (v : Value), BindsTo s fd ⟨[v], []⟩ [(p, v)]) ∧ ∀ base : Heap, K.In base → base.Ns mainGlobals mg → FnOk l.prog w K mg base (L2.CX l.prog w) (k + 1) fa fd [p] (spLaw K) := by
  obtain ⟨f, fd, F, hm, hb⟩ := T
  rw [hfa] at hm
  cases hm
  refine ⟨fd, hb, fun base _ _ => (fnok_of F S (h base)).imp fun vs H Q E ⟨a, ns, e, hq, hn, q⟩ => ?_⟩
  obtain ⟨A, eA⟩ := hl ns hn
  subst e
  refine ⟨⟨H, []⟩, [.scr ns], [], ⟨fun _ _ h => h, fun _ h => (nomatch h), .nil, rfl, fun n a o h => by simp at h⟩, Reps.one ⟨a, rfl, hq⟩, ?_⟩
  show Post K mg (Rep K) _ H E Q (mFun 1 N.length m [.scr ns] [])
  rw [eA]
  exact fun W' H' b _ _ r => by
    rw [show b = V.bl true from r]
    exact q H'
end Tg

set_option Elab.async false
set_option linter.all false
set_option maxRecDepth 100000
set_option maxHeartbeats 2000000
/-! TgEval: simp rules that run mirrors. -/
namespace Tg
open PySem L2
theorem ofString_inj {a b : String} : Str.ofString a = Str.ofString b ↔ a = b := by
  constructor
  · intro h
    rw [Str.ofString_eq_toList, Str.ofString_eq_toList] at h
    have h2 : (a.toList.map Char.toNat) = (b.toList.map Char.toNat) := by
      have := congrArg (fun s => s.cps.toList) h
      simpa using this
    have h3 : a.toList = b.toList := List.map_inj_right (fun x y e => Char.ext (UInt32.toNat_inj.mp e)) |>.mp h2
    exact String.toList_inj.mp h3
  · intro h
    rw [h]

def RS.nxt (r : RS) (n : MS) : RS := match r with
  | .nx s1 A1 => n s1 A1
  | r => r
@[simp] theorem RS.nxt_nx (s : Sl) (A : AH) (n : MS) : (RS.nx s A).nxt n = n s A := rfl
@[simp] theorem RS.nxt_rt (d : D) (A : AH) (n : MS) : (RS.rt d A).nxt n = .rt d A := rfl
@[simp] theorem RS.nxt_exc (x : XV) (s : Sl) (A : AH) (n : MS) : (RS.exc x s A).nxt n = .exc x s A := rfl
@[simp] theorem RS.nxt_bk (s : Sl) (A : AH) (n : MS) : (RS.bk s A).nxt n = .bk s A := rfl
@[simp] theorem RS.nxt_ct (s : Sl) (A : AH) (n : MS) : (RS.ct s A).nxt n = .ct s A := rfl
@[simp] theorem RS.nxt_bad (n : MS) : RS.bad.nxt n = .bad := rfl
theorem RS.nxt_ite (c : Prop) [Decidable c] (a b : RS) (n : MS) : (if c then a else b).nxt n = if c then a.nxt n else b.nxt n := by split <;> rfl
def kB2 (f : D → D → AH → R D) (x : D) (r : R D) : R D := r.bind fun y A => f x y A
@[simp] theorem kB2_0 (f : D → D → AH → R D) (x : D) (y : D) (A : AH) : kB2 f x (.ok y A) = f x y A := rfl
def kB1 (f : D → D → AH → R D) (b : ME) (s : Sl) (r : R D) : R D := r.bind fun x A => kB2 f x (b s A)
@[simp] theorem kB1_0 (f : D → D → AH → R D) (b : ME) (s : Sl) (x : D) (A : AH) : kB1 f b s (.ok x A) = kB2 f x (b s A) := rfl
@[simp] theorem e_bin {f : D → D → AH → R D} {a b : ME} {s : Sl} {A : AH} : mBin f a b s A = kB1 f b s (a s A) := rfl
def kU (f : D → AH → R D) (r : R D) : R D := r.bind fun x A => f x A
@[simp] theorem kU_0 (f : D → AH → R D) (x : D) (A : AH) : kU f (.ok x A) = f x A := rfl
@[simp] theorem e_un {f : D → AH → R D} {a : ME} {s : Sl} {A : AH} : mUn f a s A = kU f (a s A) := rfl
def kC2 (x : D) (r : R (List D)) : R (List D) := r.bind fun xs A => .ok (x :: xs) A
@[simp] theorem kC2_0 (x : D) (xs : List D) (A : AH) : kC2 x (.ok xs A) = .ok (x :: xs) A := rfl
def kC1 (ma : MA) (s : Sl) (r : R D) : R (List D) := r.bind fun x A => kC2 x (ma s A)
@[simp] theorem kC1_0 (ma : MA) (s : Sl) (x : D) (A : AH) : kC1 ma s (.ok x A) = kC2 x (ma s A) := rfl
@[simp] theorem e_nil  {s : Sl} {A : AH} : mNil s A = .ok [] A := rfl
@[simp] theorem e_cons {a : ME} {ma : MA} {s : Sl} {A : AH} : mCons a ma s A = kC1 ma s (a s A) := rfl
def kT  (r : R D) : R Bool := r.bind toB
@[simp] theorem kT_0  (b : Bool) (A : AH) : kT (.ok (.bl b) A) = .ok b A := rfl
@[simp] theorem e_tb {a : ME} {s : Sl} {A : AH} : mTb a s A = kT (a s A) := rfl
def kI (a b : ME) (s : Sl) (r : R Bool) : R D := r.bind fun k A => if k then a s A else b s A
@[simp] theorem kI_0 (a b : ME) (s : Sl) (A : AH) : kI a b s (.ok true A) = a s A := rfl
@[simp] theorem kI_1 (a b : ME) (s : Sl) (A : AH) : kI a b s (.ok false A) = b s A := rfl
@[simp] theorem e_if {t : MT} {a b : ME} {s : Sl} {A : AH} : mIf t a b s A = kI a b s (t s A) := rfl
def kAnd (u : MT) (s : Sl) (r : R Bool) : R Bool := r.bind fun k A => if k then u s A else .ok false A
@[simp] theorem kAnd_0 (u : MT) (s : Sl) (A : AH) : kAnd u s (.ok true A) = u s A := rfl
@[simp] theorem kAnd_1 (u : MT) (s : Sl) (A : AH) : kAnd u s (.ok false A) = .ok false A := rfl
@[simp] theorem e_and {t u : MT} {s : Sl} {A : AH} : mAnd t u s A = kAnd u s (t s A) := rfl
def kOr (u : MT) (s : Sl) (r : R Bool) : R Bool := r.bind fun k A => if k then .ok true A else u s A
@[simp] theorem kOr_0 (u : MT) (s : Sl) (A : AH) : kOr u s (.ok true A) = .ok true A := rfl
@[simp] theorem kOr_1 (u : MT) (s : Sl) (A : AH) : kOr u s (.ok false A) = u s A := rfl
@[simp] theorem e_or {t u : MT} {s : Sl} {A : AH} : mOr t u s A = kOr u s (t s A) := rfl
def kN  (r : R Bool) : R Bool := r.bind fun k A => .ok (!k) A
@[simp] theorem kN_0  (b : Bool) (A : AH) : kN (.ok b A) = .ok (!b) A := rfl
@[simp] theorem e_not {t : MT} {s : Sl} {A : AH} : mNot t s A = kN (t s A) := rfl
def kCh3 (g : D → D → AH → R D) (y : D) (c : ME) (s : Sl) (r : R D) : R D := r.bind fun z A => (toB z A).bind fun k A4 => if k then (c s A4).bind fun w A5 => g y w A5 else .ok (.bl false) A4
@[simp] theorem kCh3_0 (g : D → D → AH → R D) (y : D) (c : ME) (s : Sl) (A : AH) : kCh3 g y c s (.ok (.bl true) A) = kB2 g y (c s A) := rfl
@[simp] theorem kCh3_1 (g : D → D → AH → R D) (y : D) (c : ME) (s : Sl) (A : AH) : kCh3 g y c s (.ok (.bl false) A) = .ok (.bl false) A := rfl
def kCh2 (f g : D → D → AH → R D) (x : D) (c : ME) (s : Sl) (r : R D) : R D := r.bind fun y A => kCh3 g y c s (f x y A)
@[simp] theorem kCh2_0 (f g : D → D → AH → R D) (x : D) (c : ME) (s : Sl) (y : D) (A : AH) : kCh2 f g x c s (.ok y A) = kCh3 g y c s (f x y A) := rfl
def kCh1 (f g : D → D → AH → R D) (b c : ME) (s : Sl) (r : R D) : R D := r.bind fun x A => kCh2 f g x c s (b s A)
@[simp] theorem kCh1_0 (f g : D → D → AH → R D) (b c : ME) (s : Sl) (x : D) (A : AH) : kCh1 f g b c s (.ok x A) = kCh2 f g x c s (b s A) := rfl
@[simp] theorem e_chain {f g : D → D → AH → R D} {a b c : ME} {s : Sl} {A : AH} : mChain f g a b c s A = kCh1 f g b c s (a s A) := rfl
def kAV (b : ME) (s : Sl) (r : R D) : R D := r.bind fun x A => (toB x A).bind fun k A2 => if k then b s A2 else .ok (.bl false) A2
@[simp] theorem kAV_0 (b : ME) (s : Sl) (A : AH) : kAV b s (.ok (.bl true) A) = b s A := rfl
@[simp] theorem kAV_1 (b : ME) (s : Sl) (A : AH) : kAV b s (.ok (.bl false) A) = .ok (.bl false) A := rfl
@[simp] theorem e_andV {a b : ME} {s : Sl} {A : AH} : mAndV a b s A = kAV b s (a s A) := rfl
def kOV (b : ME) (s : Sl) (r : R D) : R D := r.bind fun x A => (toB x A).bind fun k A2 => if k then .ok (.bl true) A2 else b s A2
@[simp] theorem kOV_0 (b : ME) (s : Sl) (A : AH) : kOV b s (.ok (.bl true) A) = .ok (.bl true) A := rfl
@[simp] theorem kOV_1 (b : ME) (s : Sl) (A : AH) : kOV b s (.ok (.bl false) A) = b s A := rfl
@[simp] theorem e_orV {a b : ME} {s : Sl} {A : AH} : mOrV a b s A = kOV b s (a s A) := rfl
def kNV  (r : R D) : R D := r.bind fun x A => (toB x A).bind fun k A2 => .ok (.bl (!k)) A2
@[simp] theorem kNV_0  (b : Bool) (A : AH) : kNV (.ok (.bl b) A) = .ok (.bl (!b)) A := rfl
@[simp] theorem e_notV {a : ME} {s : Sl} {A : AH} : mNotV a s A = kNV (a s A) := rfl
def kTup  (r : R (List D)) : R D := r.bind fun ds A1 => if ds.length ≤ 16777216 then .ok (.tup ds) A1 else .bad
@[simp] theorem kTup_0  (ds : List D) (A : AH) : kTup (.ok ds A) = if ds.length ≤ 16777216 then .ok (.tup ds) A else .bad := rfl
@[simp] theorem e_tup {ma : MA} {s : Sl} {A : AH} : mTup ma s A = kTup (ma s A) := rfl
def kLst  (r : R (List D)) : R D := r.bind fun ds A1 => if ds.length ≤ 16777216 then .ok (.lst ds) A1 else .bad
@[simp] theorem kLst_0  (ds : List D) (A : AH) : kLst (.ok ds A) = if ds.length ≤ 16777216 then .ok (.lst ds) A else .bad := rfl
@[simp] theorem e_lst {ma : MA} {s : Sl} {A : AH} : mLst ma s A = kLst (ma s A) := rfl
def kLstN  (r : R (List D)) : R D := r.bind fun ds A1 => if ds.length ≤ 16777216 then .ok (.ref A1.length) (A1 ++ [.lst ds]) else .bad
@[simp] theorem kLstN_0  (ds : List D) (A : AH) : kLstN (.ok ds A) = if ds.length ≤ 16777216 then .ok (.ref A.length) (A ++ [.lst ds]) else .bad := rfl
@[simp] theorem e_lstN {ma : MA} {s : Sl} {A : AH} : mLstN ma s A = kLstN (ma s A) := rfl
def kP  (r : R D) : R (Option Int) := r.bind fun x A1 => match x with
  | .int i => .ok (some i) A1
  | _ => .bad
@[simp] theorem kP_0  (i : Int) (A : AH) : kP (.ok (.int i) A) = .ok (some i) A := rfl
@[simp] theorem e_part {a : ME} {s : Sl} {A : AH} : mPart a s A = kP (a s A) := rfl
@[simp] theorem e_nopart  {s : Sl} {A : AH} : mNoPart s A = .ok none A := rfl
def kS3 (x : D) (l : Option Int) (r : R (Option Int)) : R D := r.bind fun u A => slD x l u A
@[simp] theorem kS3_0 (x : D) (l : Option Int) (u : Option Int) (A : AH) : kS3 x l (.ok u A) = slD x l u A := rfl
def kS2 (x : D) (hi : Sl → AH → R (Option Int)) (s : Sl) (r : R (Option Int)) : R D := r.bind fun l A => kS3 x l (hi s A)
@[simp] theorem kS2_0 (x : D) (hi : Sl → AH → R (Option Int)) (s : Sl) (l : Option Int) (A : AH) : kS2 x hi s (.ok l A) = kS3 x l (hi s A) := rfl
def kS1 (lo hi : Sl → AH → R (Option Int)) (s : Sl) (r : R D) : R D := r.bind fun x A => kS2 x hi s (lo s A)
@[simp] theorem kS1_0 (lo hi : Sl → AH → R (Option Int)) (s : Sl) (x : D) (A : AH) : kS1 lo hi s (.ok x A) = kS2 x hi s (lo s A) := rfl
@[simp] theorem e_sl {a : ME} {lo hi : Sl → AH → R (Option Int)} {s : Sl} {A : AH} : mSl a lo hi s A = kS1 lo hi s (a s A) := rfl
def kF (cs : List Str) (f : Str) (r : R D) : R D := r.bind fun x A => fldD cs f x A
@[simp] theorem kF_0 (cs : List Str) (f : Str) (x : D) (A : AH) : kF cs f (.ok x A) = fldD cs f x A := rfl
@[simp] theorem e_fld {cs : List Str} {f : Str} {a : ME} {s : Sl} {A : AH} : mFld cs f a s A = kF cs f (a s A) := rfl
def kCall (g : List D → AH → R D) (r : R (List D)) : R D := r.bind fun ds A => g ds A
@[simp] theorem kCall_0 (g : List D → AH → R D) (ds : List D) (A : AH) : kCall g (.ok ds A) = g ds A := rfl
@[simp] theorem e_call {g : List D → AH → R D} {ma : MA} {s : Sl} {A : AH} : mCall g ma s A = kCall g (ma s A) := rfl
def kM2 (f : D → List D → AH → R D) (x : D) (r : R (List D)) : R D := r.bind fun ds A => f x ds A
@[simp] theorem kM2_0 (f : D → List D → AH → R D) (x : D) (ds : List D) (A : AH) : kM2 f x (.ok ds A) = f x ds A := rfl
def kM1 (T : String) (f : D → List D → AH → R D) (ma : MA) (s : Sl) (r : R D) : R D := r.bind fun x A1 => if tyMD A1 T x then kM2 f x (ma s A1) else .bad
@[simp] theorem kM1_0 (T : String) (f : D → List D → AH → R D) (ma : MA) (s : Sl) (x : D) (A : AH) : kM1 T f ma s (.ok x A) = if tyMD A T x then kM2 f x (ma s A) else .bad := rfl
@[simp] theorem e_mt {T : String} {f : D → List D → AH → R D} {a : ME} {ma : MA} {s : Sl} {A : AH} : mMt T f a ma s A = kM1 T f ma s (a s A) := rfl
def kMe3 (g : List D → AH → R D) (n : Nat) (r : R (List D)) : R D := r.bind fun ds A => g (.ref n :: ds) A
@[simp] theorem kMe3_0 (g : List D → AH → R D) (n : Nat) (ds : List D) (A : AH) : kMe3 g n (.ok ds A) = g (.ref n :: ds) A := rfl
def kMe2 (c m : Str) (g : List D → AH → R D) (ma : MA) (s : Sl) (n : Nat) (A : AH) (o : Option AO) : R D := match o with
  | some (.ins c' fs) => if c' = c ∧ fs.lookup m = none then kMe3 g n (ma s A) else .bad
  | _ => .bad
@[simp] theorem kMe2_0 (c m : Str) (g : List D → AH → R D) (ma : MA) (s : Sl) (n : Nat) (A : AH) (c' : Str) (fs : List (Str × D)) : kMe2 c m g ma s n A (some (.ins c' fs)) = if c' = c ∧ fs.lookup m = none then kMe3 g n (ma s A) else .bad := rfl
def kMe1 (c m : Str) (g : List D → AH → R D) (ma : MA) (s : Sl) (r : R D) : R D := r.bind fun x A => match x with
  | .ref n => kMe2 c m g ma s n A A[n]?
  | _ => .bad
@[simp] theorem kMe1_0 (c m : Str) (g : List D → AH → R D) (ma : MA) (s : Sl) (n : Nat) (A : AH) : kMe1 c m g ma s (.ok (.ref n) A) = kMe2 c m g ma s n A A[n]? := rfl
@[simp] theorem e_meth {c m : Str} {g : List D → AH → R D} {mo : ME} {ma : MA} {s : Sl} {A : AH} : mMeth c m g mo ma s A = kMe1 c m g ma s (mo s A) := rfl
def kMk2 (n : Nat) (r : R D) : R D := r.bind fun r A2 => match r with
  | .non => .ok (.ref n) A2
  | _ => .bad
@[simp] theorem kMk2_0 (n : Nat) (A : AH) : kMk2 n (.ok .non A) = .ok (.ref n) A := rfl
def kMk1 (c : Str) (g : List D → AH → R D) (r : R (List D)) : R D := r.bind fun ds A1 => kMk2 A1.length (g (.ref A1.length :: ds) (A1 ++ [.ins c []]))
@[simp] theorem kMk1_0 (c : Str) (g : List D → AH → R D) (ds : List D) (A : AH) : kMk1 c g (.ok ds A) = kMk2 A.length (g (.ref A.length :: ds) (A ++ [.ins c []])) := rfl
@[simp] theorem e_make {c : Str} {g : List D → AH → R D} {ma : MA} {s : Sl} {A : AH} : mMake c g ma s A = kMk1 c g (ma s A) := rfl
def kPC3 (x y : D) (r : R (List (D × D))) : R (List (D × D)) := r.bind fun ps A => .ok ((x, y) :: ps) A
@[simp] theorem kPC3_0 (x y : D) (ps : List (D × D)) (A : AH) : kPC3 x y (.ok ps A) = .ok ((x, y) :: ps) A := rfl
def kPC2 (x : D) (p : MP) (s : Sl) (r : R D) : R (List (D × D)) := r.bind fun y A => kPC3 x y (p s A)
@[simp] theorem kPC2_0 (x : D) (p : MP) (s : Sl) (y : D) (A : AH) : kPC2 x p s (.ok y A) = kPC3 x y (p s A) := rfl
def kPC1 (b : ME) (p : MP) (s : Sl) (r : R D) : R (List (D × D)) := r.bind fun x A => kPC2 x p s (b s A)
@[simp] theorem kPC1_0 (b : ME) (p : MP) (s : Sl) (x : D) (A : AH) : kPC1 b p s (.ok x A) = kPC2 x p s (b s A) := rfl
@[simp] theorem e_pnil  {s : Sl} {A : AH} : mPNil s A = .ok [] A := rfl
@[simp] theorem e_pcons {a b : ME} {p : MP} {s : Sl} {A : AH} : mPCons a b p s A = kPC1 b p s (a s A) := rfl
def kD  (r : R (List (D × D))) : R D := r.bind fun ps A1 => match keysD ps with
  | some kvs => if kvs.length ≤ 15 then .ok (.dct ((mergeD [] kvs).map (·.1)) ((mergeD [] kvs).map (·.2))) A1 else .bad
  | none => .bad
@[simp] theorem kD_0  (ps : List (D × D)) (A : AH) : kD (.ok ps A) = match keysD ps with
  | some kvs => if kvs.length ≤ 15 then .ok (.dct ((mergeD [] kvs).map (·.1)) ((mergeD [] kvs).map (·.2))) A else .bad
  | none => .bad := rfl
def kDN  (r : R (List (D × D))) : R D := r.bind fun ps A1 => match keysD ps with
  | some kvs => if kvs.length ≤ 15 then .ok (.ref A1.length) (A1 ++ [.dct (mergeD [] kvs)]) else .bad
  | none => .bad
@[simp] theorem kDN_0  (ps : List (D × D)) (A : AH) : kDN (.ok ps A) = match keysD ps with
  | some kvs => if kvs.length ≤ 15 then .ok (.ref A.length) (A ++ [.dct (mergeD [] kvs)]) else .bad
  | none => .bad := rfl
@[simp] theorem e_dct {p : MP} {s : Sl} {A : AH} : mDct p s A = kD (p s A) := rfl
@[simp] theorem e_dctN {p : MP} {s : Sl} {A : AH} : mDctN p s A = kDN (p s A) := rfl
def kG12 (x : D) (r : R D) : R D := r.bind fun d A => getD1 x d A
@[simp] theorem kG12_0 (x : D) (d : D) (A : AH) : kG12 x (.ok d A) = getD1 x d A := rfl
def kG11 (y : ME) (s : Sl) (r : R D) : R D := r.bind fun x A => if (dctD A x).isSome then kG12 x (y s A) else .bad
@[simp] theorem kG11_0 (y : ME) (s : Sl) (x : D) (A : AH) : kG11 y s (.ok x A) = if (dctD A x).isSome then kG12 x (y s A) else .bad := rfl
@[simp] theorem e_get1 {o y : ME} {s : Sl} {A : AH} : mGet1 o y s A = kG11 y s (o s A) := rfl
def kG23 (x d : D) (r : R D) : R D := r.bind fun e A => getD2 x d e A
@[simp] theorem kG23_0 (x d : D) (e : D) (A : AH) : kG23 x d (.ok e A) = getD2 x d e A := rfl
def kG22 (x : D) (z : ME) (s : Sl) (r : R D) : R D := r.bind fun d A => kG23 x d (z s A)
@[simp] theorem kG22_0 (x : D) (z : ME) (s : Sl) (d : D) (A : AH) : kG22 x z s (.ok d A) = kG23 x d (z s A) := rfl
def kG21 (y z : ME) (s : Sl) (r : R D) : R D := r.bind fun x A => if (dctD A x).isSome then kG22 x z s (y s A) else .bad
@[simp] theorem kG21_0 (y z : ME) (s : Sl) (x : D) (A : AH) : kG21 y z s (.ok x A) = if (dctD A x).isSome then kG22 x z s (y s A) else .bad := rfl
@[simp] theorem e_get2 {o y z : ME} {s : Sl} {A : AH} : mGet2 o y z s A = kG21 y z s (o s A) := rfl
@[simp] theorem e_nx  {s : Sl} {A : AH} : mNx s A = .nx s A := rfl
@[simp] theorem e_seq {m n : MS} {s : Sl} {A : AH} : mSeq m n s A = (m s A).nxt n := rfl
def kDrop (s : Sl) (r : R D) : RS := r.thenS s fun _ A1 => .nx s A1
@[simp] theorem kDrop_0 (s : Sl) (x : D) (A : AH) : kDrop s (.ok x A) = .nx s A := rfl
@[simp] theorem e_drop {a : ME} {s : Sl} {A : AH} : mDrop a s A = kDrop s (a s A) := rfl
def kRet (s : Sl) (r : R D) : RS := r.thenS s fun d A1 => .rt d A1
@[simp] theorem kRet_0 (s : Sl) (x : D) (A : AH) : kRet s (.ok x A) = .rt x A := rfl
@[simp] theorem e_ret {a : ME} {s : Sl} {A : AH} : mRet a s A = kRet s (a s A) := rfl
@[simp] theorem e_retN  {s : Sl} {A : AH} : mRetN s A = .rt .non A := rfl
def kIf (m n : MS) (s : Sl) (r : R Bool) : RS := r.thenS s fun k A1 => if k then m s A1 else n s A1
@[simp] theorem kIf_0 (m n : MS) (s : Sl) (A : AH) : kIf m n s (.ok true A) = m s A := rfl
@[simp] theorem kIf_1 (m n : MS) (s : Sl) (A : AH) : kIf m n s (.ok false A) = n s A := rfl
@[simp] theorem e_ifS {t : MT} {m n : MS} {s : Sl} {A : AH} : mIfS t m n s A = kIf m n s (t s A) := rfl
def kAsg (i : Nat) (s : Sl) (r : R D) : RS := r.thenS s fun d A1 => .nx (s.set i (some d)) A1
@[simp] theorem kAsg_0 (i : Nat) (s : Sl) (x : D) (A : AH) : kAsg i s (.ok x A) = .nx (s.set i (some x)) A := rfl
@[simp] theorem e_asgN {a : ME} {i : Nat} {s : Sl} {A : AH} : mAsg a (gmN i) s A = kAsg i s (a s A) := rfl
def kPar (is : List Nat) (s : Sl) (r : R (List D)) : RS := r.thenS s fun ds A1 => match is, ds with
  | [i, j], [d, e] => .nx ((s.set i (some d)).set j (some e)) A1
  | [i, j, l], [d, e, f] => .nx (((s.set i (some d)).set j (some e)).set l (some f)) A1
  | _, _ => .bad
@[simp] theorem kPar_2 (i j : Nat) (s : Sl) (d e : D) (A : AH) : kPar [i, j] s (.ok [d, e] A) = .nx ((s.set i (some d)).set j (some e)) A := rfl
@[simp] theorem kPar_3 (i j l : Nat) (s : Sl) (d e f : D) (A : AH) : kPar [i, j, l] s (.ok [d, e, f] A) = .nx (((s.set i (some d)).set j (some e)).set l (some f)) A := rfl
@[simp] theorem e_par {is : List Nat} {ma : MA} {s : Sl} {A : AH} : mPar is ma s A = kPar is s (ma s A) := rfl
def kSub4 (s : Sl) (o : Option AH) : RS := match o with
  | some A => .nx s A
  | none => .bad
@[simp] theorem kSub4_0 (s : Sl) (A : AH) : kSub4 s (some A) = .nx s A := rfl
def kSub3 (x d : D) (s : Sl) (r : R D) : RS := r.thenS s fun y A => kSub4 s (stSub x y d A)
@[simp] theorem kSub3_0 (x d : D) (s : Sl) (y : D) (A : AH) : kSub3 x d s (.ok y A) = kSub4 s (stSub x y d A) := rfl
def kSub2 (b : ME) (d : D) (s : Sl) (r : R D) : RS := r.thenS s fun x A => kSub3 x d s (b s A)
@[simp] theorem kSub2_0 (b : ME) (d : D) (s : Sl) (x : D) (A : AH) : kSub2 b d s (.ok x A) = kSub3 x d s (b s A) := rfl
def kSub1 (a b : ME) (s : Sl) (r : R D) : RS := r.thenS s fun d A => kSub2 b d s (a s A)
@[simp] theorem kSub1_0 (a b : ME) (s : Sl) (d : D) (A : AH) : kSub1 a b s (.ok d A) = kSub2 b d s (a s A) := rfl
@[simp] theorem e_sub {a b c : ME} {s : Sl} {A : AH} : mSubS a b c s A = kSub1 a b s (c s A) := rfl
def kFS2 (cs : List Str) (f : Str) (d : D) (s : Sl) (r : R D) : RS := r.thenS s fun x A => kSub4 s (stFld cs f x d A)
@[simp] theorem kFS2_0 (cs : List Str) (f : Str) (d : D) (s : Sl) (x : D) (A : AH) : kFS2 cs f d s (.ok x A) = kSub4 s (stFld cs f x d A) := rfl
def kFS1 (cs : List Str) (f : Str) (a : ME) (s : Sl) (r : R D) : RS := r.thenS s fun d A => kFS2 cs f d s (a s A)
@[simp] theorem kFS1_0 (cs : List Str) (f : Str) (a : ME) (s : Sl) (d : D) (A : AH) : kFS1 cs f a s (.ok d A) = kFS2 cs f d s (a s A) := rfl
@[simp] theorem e_fldS {cs : List Str} {f : Str} {a b : ME} {s : Sl} {A : AH} : mFldS cs f a b s A = kFS1 cs f a s (b s A) := rfl
@[simp] theorem e_ct  {s : Sl} {A : AH} : mCt s A = .ct s A := rfl
@[simp] theorem e_bk  {s : Sl} {A : AH} : mBk s A = .bk s A := rfl
section
variable {s : Sl} {A A1 : AH} {d x y : D} {ds : List D} {i : Nat}
theorem e_mv (h : s[i]? = some (some d)) : mv i s A = .ok d A := by unfold mv; rw [h]
@[simp] theorem e_mv0 {r : Sl} : mv 0 (some d :: r) A = .ok d A := rfl
@[simp] theorem e_mvS {o : Option D} {r : Sl} : mv (i + 1) (o :: r) A = mv i r A := rfl
@[simp] theorem e_mc : mc d s A = .ok d A := rfl
@[simp] theorem e_yes : mYes s A = .ok true A := rfl
@[simp] theorem e_toB {b : Bool} : toB (.bl b) A = .ok b A := rfl
theorem e_fun {n m : Nat} {b : MS} (h : ds.length = n) : mFun n m b ds A = finS (b (startD m ds) A) := if_pos h
@[simp] theorem finS_rt : finS (.rt d A) = .ok d A := rfl
@[simp] theorem finS_nx : finS (.nx s A) = .ok .non A := rfl
/-! operations -/
@[simp] theorem o_add {i j : Int} : addD (.int i) (.int j) A = .ok (.int (i + j)) A := rfl
@[simp] theorem o_sub {i j : Int} : subD (.int i) (.int j) A = .ok (.int (i - j)) A := rfl
@[simp] theorem o_neg {i : Int} : negD (.int i) A = .ok (.int (-i)) A := rfl
@[simp] theorem o_lt {i j : Int} : ltD (.int i) (.int j) A = .ok (.bl (decide (i < j))) A := rfl
@[simp] theorem o_le {i j : Int} : leD (.int i) (.int j) A = .ok (.bl (decide (i ≤ j))) A := rfl
@[simp] theorem o_gt {i j : Int} : gtD (.int i) (.int j) A = .ok (.bl (decide (j < i))) A := rfl
@[simp] theorem o_ge {i j : Int} : geD (.int i) (.int j) A = .ok (.bl (decide (j ≤ i))) A := rfl
theorem o_mod {i j : Int} (h : 0 < j) : modD (.int i) (.int j) A = .ok (.int (i % j)) A := if_pos h
theorem o_fdiv {i j : Int} (h : 0 < j) (h2 : j < 1073741824) : fdivD (.int i) (.int j) A = .ok (.int (i / j)) A := if_pos ⟨h, h2⟩
theorem o_mulR {i j : Int} (h : -(2 ^ 64) < j) (h2 : j < 2 ^ 64) : mulD (.int i) (.int j) A = .ok (.int (i * j)) A := if_pos (.inr ⟨h, h2⟩)
@[simp] theorem o_eqI {i j : Int} : eqD (.int i) (.int j) A = .ok (.bl (i == j)) A := rfl
@[simp] theorem o_eqS {i j : Str} : eqD (.str i) (.str j) A = .ok (.bl (i == j)) A := rfl
@[simp] theorem o_neI {i j : Int} : neD (.int i) (.int j) A = .ok (.bl (!(i == j))) A := rfl
@[simp] theorem o_neS {i j : Str} : neD (.str i) (.str j) A = .ok (.bl (!(i == j))) A := rfl
@[simp] theorem o_is : isD d .non A = .ok (.bl (isNon d)) A := rfl
@[simp] theorem o_isnt : isntD d .non A = .ok (.bl (!isNon d)) A := rfl
/-- subscripts by kind -/
theorem ix_tup {i : Int} (h : atI ds i = some d) : ixD (.tup ds) (.int i) A = .ok d A := by
  unfold ixD
  simp only [dctD, itemsD, h]
theorem ix_lst {i : Int} (h : atI ds i = some d) : ixD (.lst ds) (.int i) A = .ok d A := by
  unfold ixD
  simp only [dctD, itemsD, seqL, h]
theorem ix_scr {ns : List Int} {i : Int} (h : atI (ns.map .int) i = some d) : ixD (.scr ns) (.int i) A = .ok d A := by
  unfold ixD
  simp only [dctD, itemsD, seqL, h]
theorem ix_ref {n : Nat} {i : Int} (hA : A[n]? = some (.lst ds)) (h : atI ds i = some d) : ixD (.ref n) (.int i) A = .ok d A := by
  unfold ixD
  simp only [dctD, itemsD, seqL, hA, h]
theorem ix_dctS {n : Nat} {z : Str} {kvs : List (Key × D)} (hA : A[n]? = some (.dct kvs)) (h : lkK kvs (.inr z) = some d) : ixD (.ref n) (.str z) A = .ok d A := by
  unfold ixD
  simp only [dctD, hA, keyD, Option.bind, h]
theorem atI_ok {α : Type} {xs : List α} {i : Nat} {v : α} (h : xs[i]? = some v) : atI xs (i : Int) = some v := by
  have hi := (List.getElem?_eq_some_iff.mp h).1
  unfold atI ixN
  rw [if_pos (by omega), if_pos (by omega)]
  simpa using h
theorem len_lst {n : Nat} (hA : A[n]? = some (.lst ds)) : lenD [.ref n] A = .ok (.int ds.length) A := by
  simp only [lenD, dctD, itemsD, seqL, hA]
@[simp] theorem len_scr {ns : List Int} : lenD [.scr ns] A = .ok (.int ns.length) A := by
  simp only [lenD, dctD, itemsD, seqL, List.length_map]
@[simp] theorem len_tup : lenD [.tup ds] A = .ok (.int ds.length) A := rfl
@[simp] theorem len_frz : lenD [.lst ds] A = .ok (.int ds.length) A := rfl
theorem st_lst {n : Nat} {i j : Nat} (hA : A[n]? = some (.lst ds)) (h : i < ds.length) : stSub (.ref n) (.int i) d A = some (A.set n (.lst (ds.set i d))) := by
  unfold stSub
  simp only [hA]
  have : ixN ds.length (i : Int) = some i := by
    unfold ixN
    rw [if_pos (by omega), if_pos (by omega)]
    simp
  rw [this]
theorem st_dct {n : Nat} {z : Str} {kvs : List (Key × D)} (hA : A[n]? = some (.dct kvs)) (h : kvs.length < 16777216) : stSub (.ref n) (.str z) d A = some (A.set n (.dct (ptK kvs (.inr z) d))) := by
  unfold stSub
  simp only [hA, keyD, if_pos h]
end
end Tg

set_option Elab.async false
set_option linter.all false
set_option maxRecDepth 100000
set_option maxHeartbeats 2000000
/-! TgTaken: the laws' own drawing. -/
namespace Tg
open PySem L2
section
variable {A : AH} {n : Nat} {d x : D} {i : Int} {ds : List D} {α : Type} {xs : List α} {p q r s : α}
theorem ix_int : ixD (.ref n) (.int i) A = match A[n]? with
  | some (.lst ds) => (match atI ds i with
    | some d => .ok d A
    | none => .bad)
  | some (.dct kvs) => (match lkK kvs (.inl i) with
    | some d => .ok d A
    | none => .bad)
  | _ => .bad := by
  unfold ixD
  simp only [dctD, itemsD, seqL, keyD, Option.bind]
  cases A[n]? with
  | none => rfl
  | some o => cases o <;> rfl
theorem ix_strU {z : Str} : ixD (.ref n) (.str z) A = match A[n]? with
  | some (.dct kvs) => (match lkK kvs (.inr z) with
    | some d => .ok d A
    | none => .bad)
  | _ => .bad := by
  unfold ixD
  simp only [dctD, itemsD, seqL, keyD, Option.bind]
  cases A[n]? with
  | none => rfl
  | some o => cases o <;> rfl
@[simp] theorem ix_frz : ixD (.lst ds) (.int i) A = match atI ds i with
  | some d => .ok d A
  | none => .bad := rfl
@[simp] theorem ix_tupU : ixD (.tup ds) (.int i) A = match atI ds i with
  | some d => .ok d A
  | none => .bad := rfl
@[simp] theorem ix_scrU {ns : List Int} : ixD (.scr ns) (.int i) A = match atI (ns.map D.int) i with
  | some d => .ok d A
  | none => .bad := rfl
theorem st_int : stSub (.ref n) (.int i) d A = match A[n]? with
  | some (.lst ds) => (match ixN ds.length i with
    | some j => some (A.set n (.lst (ds.set j d)))
    | none => none)
  | some (.dct kvs) => if kvs.length < 16777216 then some (A.set n (.dct (ptK kvs (.inl i) d))) else none
  | _ => none := by
  unfold stSub
  dsimp only [keyD]
  all_goals
    generalize A[n]? = w
    cases w with
    | none => rfl
    | some o => cases o <;> rfl
theorem st_str {z : Str} : stSub (.ref n) (.str z) d A = match A[n]? with
  | some (.dct kvs) => if kvs.length < 16777216 then some (A.set n (.dct (ptK kvs (.inr z) d))) else none
  | _ => none := by
  unfold stSub
  dsimp only [keyD]
  all_goals
    generalize A[n]? = w
    cases w with
    | none => rfl
    | some o => cases o <;> rfl
theorem len_ref : lenD [.ref n] A = match A[n]? with
  | some (.lst ds) => .ok (.int ds.length) A
  | some (.dct kvs) => .ok (.int kvs.length) A
  | _ => .bad := by
  simp only [lenD, dctD, itemsD, seqL]
  cases A[n]? with
  | none => rfl
  | some o => cases o <;> rfl
@[simp] theorem at0 : atI (p :: xs) 0 = some p := by
  unfold atI ixN
  simp
theorem atI_nat (j : Nat) : atI xs (j : Int) = xs[j]? := by
  unfold atI ixN
  rw [if_pos (by omega)]
  by_cases h : j < xs.length
  · rw [if_pos (by omega)]
    simp
  · rw [if_neg (by omega), List.getElem?_eq_none_iff.mpr (by omega)]
    rfl
@[simp] theorem at1 : atI (p :: q :: xs) 1 = some q := atI_nat 1
@[simp] theorem at2 : atI (p :: q :: r :: xs) 2 = some r := atI_nat 2
@[simp] theorem at3 : atI (p :: q :: r :: s :: xs) 3 = some s := atI_nat 3
theorem atI_pos (h : 0 ≤ i) : atI xs i = xs[i.toNat]? := by
  have := atI_nat (xs := xs) i.toNat
  rwa [Int.toNat_of_nonneg h] at this
end
def b_taken : MS :=
  (mSeq (mIfS (mTb (mBin gtD (mBin ixD (mv 0) (mc (.int (3)))) (mc (.int (0))))) (mSeq (mAsg (mBin modD (mBin ixD (mv 0) (mc (.int (3)))) (mv 1)) (gmN 2))
  (mSeq (mSubS (mv 0) (mc (.int (3))) (mBin fdivD (mBin ixD (mv 0) (mc (.int (3)))) (mv 1)))
  (mRet (mv 2)))) mNx)
  (mSeq (mSubS (mv 0) (mc (.int (1))) (mBin addD (mBin ixD (mv 0) (mc (.int (1)))) (mc (.int (1)))))
  (mSeq (mIfS (mTb (mBin gtD (mBin ixD (mv 0) (mc (.int (1)))) (mCall lenD (mCons (mBin ixD (mv 0) (mc (.int (0)))) mNil)))) (mSeq (mSubS (mv 0) (mc (.int (2))) (mBin modD (mBin addD (mBin mulD (mBin ixD (mv 0) (mc (.int (2)))) (mc (.int (48271)))) (mc (.int (11)))) (mc (.int (2147483647)))))
  (mRet (mBin modD (mBin fdivD (mBin ixD (mv 0) (mc (.int (2)))) (mc (.int (7)))) (mv 1)))) mNx)
  (mSeq (mAsg (mBin ixD (mBin ixD (mv 0) (mc (.int (0)))) (mBin subD (mBin ixD (mv 0) (mc (.int (1)))) (mc (.int (1))))) (gmN 3))
  (mSeq (mSubS (mv 0) (mc (.int (2))) (mBin modD (mBin addD (mBin addD (mBin mulD (mBin ixD (mv 0) (mc (.int (2)))) (mc (.int (48271)))) (mv 3)) (mc (.int (11)))) (mc (.int (2147483647)))))
  (mSeq (mIfS (mTb (mBin geD (mv 3) (mBin powD (mc (.int (10))) (mc (.int (18)))))) (mSubS (mv 0) (mc (.int (3))) (mBin fdivD (mv 3) (mv 1))) mNx)
  (mRet (mBin modD (mv 3) (mv 1)))))))))
def m_taken : List D → AH → R D := mFun 2 4 b_taken
def rowO (ns : List Int) (a b c : Int) : AO := .lst [.scr ns, .int a, .int b, .int c]
theorem taken_ok {A : AH} {r : Nat} {ns : List Int} {a b c many : Int} (hA : A[r]? = some (rowO ns a b c)) (ha : 0 ≤ a) (hm : 0 < many) (hm2 : many < 1073741824) :
    ∃ v a' b' c', m_taken [.ref r, .int many] A = .ok (.int v) (A.set r (rowO ns a' b' c')) ∧ 0 ≤ v ∧ v < many ∧ 0 ≤ a' := by
  have hr : r < A.length := (List.getElem?_eq_some_iff.mp hA).1
  have hA' : A[r]? = some (.lst [.scr ns, .int a, .int b, .int c]) := hA
  have vm : ∀ z : Int, 0 ≤ z % many ∧ z % many < many := fun z => ⟨Int.emod_nonneg _ (by omega), Int.emod_lt_of_pos _ hm⟩
  have p18 : powD (.int 10) (.int 18) = fun A => .ok (.int 1000000000000000000) A := by
    funext A
    unfold powD
    simp
  have e0 : m_taken [.ref r, .int many] A = finS (b_taken [some (.ref r), some (.int many), none, none] A) := rfl
  rw [e0]
  have hs : ∀ x, (A.set r x)[r]? = some x := fun x => List.getElem?_set_self hr
  by_cases h3 : 0 < c
  · refine ⟨c % many, a, b, c / many, ?_, (vm c).1, (vm c).2, ha⟩
    simp [b_taken, len_ref, ix_int, st_int, hA', h3, o_mod hm, o_fdiv hm hm2, ixN, rowO]
  · by_cases h1 : (ns.length : Int) < a + 1
    · refine ⟨(b * 48271 + 11) % 2147483647 / 7 % many, a + 1, (b * 48271 + 11) % 2147483647, c, ?_, (vm _).1, (vm _).2, by omega⟩
      simp [b_taken, len_ref, ix_int, st_int, hA', h3, o_mod hm, o_fdiv, o_mod, o_mulR, ixN, rowO, hs, h1]
    · have hx : ∃ z, ns[a.toNat]? = some z := ⟨_, List.getElem?_eq_getElem (by omega)⟩
      obtain ⟨z, hz⟩ := hx
      have hz2 : atI (ns.map D.int) a = some (.int z) := by
        rw [atI_pos ha, List.getElem?_map, hz]
        rfl
      by_cases h18 : 1000000000000000000 ≤ z
      · refine ⟨z % many, a + 1, (b * 48271 + z + 11) % 2147483647, z / many, ?_, (vm _).1, (vm _).2, by omega⟩
        simp [b_taken, len_ref, ix_int, st_int, hA', h3, o_mod hm, o_fdiv hm hm2, o_mod, o_mulR, ixN, rowO, hs, h1, hz2, p18, h18]
      · refine ⟨z % many, a + 1, (b * 48271 + z + 11) % 2147483647, c, ?_, (vm _).1, (vm _).2, by omega⟩
        simp [b_taken, len_ref, ix_int, st_int, hA', h3, o_mod hm, o_fdiv hm hm2, o_mod, o_mulR, ixN, rowO, hs, h1, hz2, p18, h18]
end Tg

set_option Elab.async false
set_option linter.all false
set_option maxRecDepth 100000
set_option maxHeartbeats 2000000
/-! TgRun: more simp rules that run mirrors: heaps told at their end, fields, methods, texts. -/
namespace Tg
open PySem L2
theorem ofS_ne {a b : String} (h : a ≠ b) : Str.ofString a ≠ Str.ofString b := fun e => h (ofString_inj.mp e)
@[simp] theorem ofS_eq {a b : String} : (Str.ofString a = Str.ofString b) = (a = b) := propext ofString_inj
@[simp] theorem ofS_beq {a b : String} : (Str.ofString a == Str.ofString b) = decide (a = b) := by
  by_cases h : a = b
  · subst h
    simp
  · rw [decide_eq_false h]
    exact beq_eq_false_iff_ne.mpr (ofS_ne h)
section
variable {A0 A l : AH} {k n : Nat} {x d : D} {o : AO} {ds es : List D} {s : Sl} {ma : MA} {a : ME} {c m f : Str} {g : List D → AH → R D}
@[simp] theorem h_get : (A0 ++ l)[A0.length + k]? = l[k]? := by
  rw [List.getElem?_append_right (Nat.le_add_right _ _), Nat.add_sub_cancel_left]
@[simp] theorem h_get0 : (A0 ++ l)[A0.length]? = l[0]? := by
  rw [List.getElem?_append_right (Nat.le_refl _), Nat.sub_self]
@[simp] theorem h_set : (A0 ++ l).set (A0.length + k) o = A0 ++ l.set k o := by
  rw [List.set_append_right _ _ (Nat.le_add_right _ _), Nat.add_sub_cancel_left]
@[simp] theorem h_set0 : (A0 ++ l).set A0.length o = A0 ++ l.set 0 o := by
  rw [List.set_append_right _ _ (Nat.le_refl _), Nat.sub_self]
theorem fld_ref {cs : List Str} : fldD cs f (.ref n) A = match A[n]? with
  | some (.ins c fs) => (if c ∈ cs then (match fs.lookup f with
    | some d => .ok d A
    | none => .bad) else .bad)
  | _ => .bad := rfl
theorem sfld_ref {cs : List Str} : stFld cs f (.ref n) d A = match A[n]? with
  | some (.ins c fs) => if c ∈ cs ∧ fs.length < 1000 then some (A.set n (.ins c (putFD f d fs))) else none
  | _ => none := rfl
theorem app_ref : appD (.ref n) [d] A = match A[n]? with
  | some (.lst es) => if es.length < 16777216 then .ok .non (A.set n (.lst (es ++ [d]))) else .bad
  | _ => .bad := rfl
@[simp] theorem ty_list : tyMD A "list" d = (seqL A d).isSome := rfl
@[simp] theorem ty_dict : tyMD A "dict" d = (dctD A d).isSome := rfl
theorem seq_ref : seqL A (.ref n) = match A[n]? with
  | some (.lst ds) => some ds
  | _ => none := rfl
theorem dct_ref : dctD A (.ref n) = match A[n]? with
  | some (.dct kvs) => some kvs
  | _ => none := rfl
theorem in_flat {z : D} (h1 : flatD z = true) (h2 : ds.all flatD = true) : inD z (.tup ds) A = .ok (.bl (ds.any fun y => feq y z)) A := by
  have : inB z (.tup ds) A = some (ds.any fun y => feq y z) := by
    cases z <;> first
      | (cases (show false = true from h1))
      | (simp only [inB, dctD, itemsD, h2, flatD, Bool.and_true, if_true])
  unfold inD
  rw [this]
theorem nin_flat {z : D} (h1 : flatD z = true) (h2 : ds.all flatD = true) : ninD z (.tup ds) A = .ok (.bl (!(ds.any fun y => feq y z))) A := by
  have : inB z (.tup ds) A = some (ds.any fun y => feq y z) := by
    cases z <;> first
      | (cases (show false = true from h1))
      | (simp only [inB, dctD, itemsD, h2, flatD, Bool.and_true, if_true])
  unfold ninD
  rw [this]
@[simp] theorem flat_str {z : Str} : flatD (.str z) = true := rfl
@[simp] theorem flat_int {i : Int} : flatD (.int i) = true := rfl
@[simp] theorem feq_str {y z : Str} : feq (.str y) (.str z) = (y == z) := rfl
@[simp] theorem feq_int {y z : Int} : feq (.int y) (.int z) = (y == z) := rfl
theorem in_str {z : Str} (h2 : ds.all flatD = true) : inD (.str z) (.tup ds) A = .ok (.bl (ds.any fun y => feq y (.str z))) A := in_flat rfl h2
theorem nin_str {z : Str} (h2 : ds.all flatD = true) : ninD (.str z) (.tup ds) A = .ok (.bl (!(ds.any fun y => feq y (.str z)))) A := nin_flat rfl h2
end
/-! ### loops -/
section
variable {c : MT} {b : MS} {g : MG} {tt : MT} {te : ME} {mi : Sl → AH → R IT} {vs : List Nat} {f : Nat} {s s2 : Sl} {A A1 A2 : AH} {ds : List D}
theorem wh_true (h : c s A = .ok true A1) (h2 : b s A1 = .nx s2 A2) : whG c b (f + 1) s A = whG c b f s2 A2 := by
  conv => lhs; unfold whG
  rw [h]
  simp only [R.thenS_ok, if_true, h2]
theorem wh_false (h : c s A = .ok false A1) : whG c b (f + 1) s A = .nx s A1 := by
  conv => lhs; unfold whG
  rw [h]
  simp
theorem mLc_of {fin : List D → AH → R D} {it : List D} (h0 : mi s A = .ok (.data it) A1) (hl : it.length < 16777216) : mLc mi g tt te vs fin s A = (lcL g tt te (wpD s vs) it A1).bind fin := by
  unfold mLc
  rw [h0]
  show (if it.length < 16777216 then (lcG g tt te (.data it) (wpD s vs) (it.length + 1) 0 A1).bind fin else .bad) = _
  rw [if_pos hl, lcG_data g tt te it (wpD s vs) _ _ _ (Nat.zero_add _), if_neg (Nat.succ_ne_zero _), List.drop_zero]
theorem lcL_pure {w : Sl} (p : D → Bool) (q : D → D) : ∀ {ds : List D}, (∀ d ∈ ds, ∃ s1, g d w = some s1 ∧ tt s1 A = .ok (p d) A ∧ (p d = true → te s1 A = .ok (q d) A)) → lcL g tt te w ds A = .ok ((ds.filter p).map q) A
  | [], _ => rfl
  | d :: ds, h => by
    obtain ⟨s1, h1, h2, h3⟩ := h d List.mem_cons_self
    have ih := lcL_pure (ds := ds) p q fun e he => h e (List.mem_cons_of_mem _ he)
    unfold lcL
    simp only [h1, h2, R.bindN_ok]
    cases hp : p d with
    | true =>
      simp only [if_true, h3 hp, R.bindN_ok, ih, R.bind_ok, List.filter_cons, hp, List.map_cons]
    | false =>
      simp [ih, List.filter_cons, hp]
theorem lc_pure (p : D → Bool) (q : D → D) (h0 : mi s A = .ok (.data ds) A) (hl : ds.length < 16777216) (h : ∀ d ∈ ds, ∃ s1, g d (wpD s vs) = some s1 ∧ tt s1 A = .ok (p d) A ∧ (p d = true → te s1 A = .ok (q d) A)) :
    mLc mi g tt te vs finF s A = .ok (.lst ((ds.filter p).map q)) A := by
  rw [mLc_of h0 hl, lcL_pure p q h]
  rfl
theorem lcL_gen {w : Sl} (I : AH → Prop) (P : D → Prop) : ∀ {ds : List D} {A : AH}, I A → (∀ d ∈ ds, ∀ A, I A → ∃ s1 v A2, g d w = some s1 ∧ tt s1 A = .ok true A ∧ te s1 A = .ok v A2 ∧ I A2 ∧ P v) →
    ∃ ys A', lcL g tt te w ds A = .ok ys A' ∧ I A' ∧ ys.length = ds.length ∧ ∀ y ∈ ys, P y
  | [], A, hI, _ => ⟨[], A, rfl, hI, rfl, fun _ h => nomatch h⟩
  | d :: ds, A, hI, h => by
    obtain ⟨s1, v, A2, h1, h2, h3, h4, h5⟩ := h d List.mem_cons_self A hI
    obtain ⟨ys, A', e1, e2, e3, e4⟩ := lcL_gen (ds := ds) I P h4 fun e he => h e (List.mem_cons_of_mem _ he)
    refine ⟨v :: ys, A', ?_, e2, by rw [List.length_cons, List.length_cons, e3], fun y hy => ?_⟩
    · unfold lcL
      simp only [h1, h2, R.bindN_ok, if_true, h3, e1, R.bind_ok]
    · rcases List.mem_cons.mp hy with rfl | hy
      · exact h5
      · exact e4 y hy
theorem lc_gen (I : AH → Prop) (P : D → Prop) (h0 : mi s A = .ok (.data ds) A1) (hl : ds.length < 16777216) (hI : I A1) (h : ∀ d ∈ ds, ∀ A, I A → ∃ s1 v A2, g d (wpD s vs) = some s1 ∧ tt s1 A = .ok true A ∧ te s1 A = .ok v A2 ∧ I A2 ∧ P v) :
    ∃ ys A', mLc mi g tt te vs finF s A = .ok (.lst ys) A' ∧ I A' ∧ ys.length = ds.length ∧ ∀ y ∈ ys, P y := by
  obtain ⟨ys, A', e1, e2⟩ := lcL_gen (w := wpD s vs) I P hI h
  refine ⟨ys, A', ?_, e2⟩
  rw [mLc_of h0 hl, e1]
  rfl
theorem forL_inv (I : Sl → AH → Prop) : ∀ {ds : List D} {s : Sl} {A : AH}, I s A → (∀ d ∈ ds, ∀ s A, I s A → ∃ s1 s2 A2, g d s = some s1 ∧ b s1 A = .nx s2 A2 ∧ I s2 A2) → ∃ s' A', forL g b ds s A = .nx s' A' ∧ I s' A'
  | [], s, A, hI, _ => ⟨s, A, rfl, hI⟩
  | d :: ds, s, A, hI, h => by
    obtain ⟨s1, s2, A2, h1, h2, h3⟩ := h d List.mem_cons_self s A hI
    obtain ⟨s', A', e1, e2⟩ := forL_inv (ds := ds) I h3 fun e he => h e (List.mem_cons_of_mem _ he)
    refine ⟨s', A', ?_, e2⟩
    unfold forL
    simp only [h1, h2, e1]
end
theorem rngX {ma : MA} {j : Int} {s : Sl} {A A1 : AH} (h : ma s A = .ok [.int j] A1) (h1 : -(2 ^ 62) ≤ j ∧ j < 2 ^ 62) : mRng1 ma s A = .ok (.data (rngL 0 1 j.toNat)) A1 := by
  unfold mRng1
  rw [h]
  simp only [R.bind_ok]
  rw [if_pos h1]
theorem rngY {j : Nat} : rngL 0 1 (j : Int).toNat = (List.range j).map fun i : Nat => D.int (i : Int) := by
  unfold rngL
  rw [Int.toNat_natCast]
  simp only [Int.mul_one, Int.zero_add]
theorem rngZ {j : Nat} (h : j < 16777216) : -(2 ^ 62) ≤ (j : Int) ∧ (j : Int) < 2 ^ 62 := ⟨by omega, by omega⟩
theorem rng1 {ma : MA} {j : Nat} {s : Sl} {A A1 : AH} (h : ma s A = .ok [.int (j : Int)] A1) (hj : j < 16777216) : mRng1 ma s A = .ok (.data ((List.range j).map fun i : Nat => D.int (i : Int))) A1 := by
  rw [← rngY]
  exact rngX h (rngZ hj)
/-! ### comprehensions by frames -/
def kFin (fin : List D → AH → R D) (r : R (List D)) : R D := r.bind fin
@[simp] theorem kFin_0 (fin : List D → AH → R D) (ds : List D) (A : AH) : kFin fin (.ok ds A) = fin ds A := rfl
def kL3 (y : D) (r : R (List D)) : R (List D) := r.bind fun ys A3 => .ok (y :: ys) A3
@[simp] theorem kL3_0 (y : D) (ys : List D) (A : AH) : kL3 y (.ok ys A) = .ok (y :: ys) A := rfl
def kL2 (g : MG) (tt : MT) (te : ME) (w : Sl) (ds : List D) (r : R D) : R (List D) := r.bindN fun y A2 => kL3 y (lcL g tt te w ds A2)
@[simp] theorem kL2_0 (g : MG) (tt : MT) (te : ME) (w : Sl) (ds : List D) (y : D) (A : AH) : kL2 g tt te w ds (.ok y A) = kL3 y (lcL g tt te w ds A) := rfl
def kL1 (g : MG) (tt : MT) (te : ME) (w : Sl) (ds : List D) (s1 : Sl) (r : R Bool) : R (List D) := r.bindN fun k A1 => if k then kL2 g tt te w ds (te s1 A1) else lcL g tt te w ds A1
@[simp] theorem kL1_0 (g : MG) (tt : MT) (te : ME) (w : Sl) (ds : List D) (s1 : Sl) (A : AH) : kL1 g tt te w ds s1 (.ok true A) = kL2 g tt te w ds (te s1 A) := rfl
@[simp] theorem kL1_1 (g : MG) (tt : MT) (te : ME) (w : Sl) (ds : List D) (s1 : Sl) (A : AH) : kL1 g tt te w ds s1 (.ok false A) = lcL g tt te w ds A := rfl
@[simp] theorem lcL_nil (g : MG) (tt : MT) (te : ME) (w : Sl) (A : AH) : lcL g tt te w [] A = .ok [] A := rfl
@[simp] theorem lcL_cons (i : Nat) (tt : MT) (te : ME) (w : Sl) (d : D) (ds : List D) (A : AH) : lcL (gmN i) tt te w (d :: ds) A = kL1 (gmN i) tt te w ds (w.set i (some d)) (tt (w.set i (some d)) A) := rfl
def kLc (g : MG) (tt : MT) (te : ME) (vs : List Nat) (fin : List D → AH → R D) (s : Sl) (r : R IT) : R D := r.bind fun it A1 => if itLen it A1 < 16777216 then (lcG g tt te it (wpD s vs) (itLen it A1 + 1) 0 A1).bind fin else .bad
@[simp] theorem e_lc {mi : Sl → AH → R IT} {g : MG} {tt : MT} {te : ME} {vs : List Nat} {fin : List D → AH → R D} {s : Sl} {A : AH} : mLc mi g tt te vs fin s A = kLc g tt te vs fin s (mi s A) := rfl
@[simp] theorem kLc_0 (g : MG) (tt : MT) (te : ME) (vs : List Nat) (fin : List D → AH → R D) (s : Sl) (it : List D) (A : AH) : kLc g tt te vs fin s (.ok (.data it) A) = if it.length < 16777216 then kFin fin (lcL g tt te (wpD s vs) it A) else .bad := by
  show (if it.length < 16777216 then (lcG g tt te (.data it) (wpD s vs) (it.length + 1) 0 A).bind fin else .bad) = _
  rw [lcG_data g tt te it (wpD s vs) _ _ _ (Nat.zero_add _), if_neg (Nat.succ_ne_zero _), List.drop_zero]
  rfl
@[simp] theorem finF_0 (ds : List D) (A : AH) : finF ds A = .ok (.lst ds) A := rfl
@[simp] theorem wp_nil (s : Sl) : wpD s [] = s := rfl
@[simp] theorem wp_cons (s : Sl) (v : Nat) (vs : List Nat) : wpD s (v :: vs) = (wpD s vs).set v none := rfl
def kR1 (r : R (List D)) : R IT := r.bind fun ds A1 => match ds with
  | [.int j] => if -(2 ^ 62) ≤ j ∧ j < 2 ^ 62 then .ok (.data (rngL 0 1 j.toNat)) A1 else .bad
  | _ => .bad
@[simp] theorem e_rng1 {ma : MA} {s : Sl} {A : AH} : mRng1 ma s A = kR1 (ma s A) := rfl
theorem kR1_nat (j : Nat) (A : AH) (h : j < 16777216) : kR1 (.ok [.int (j : Int)] A) = .ok (.data ((List.range j).map fun i : Nat => D.int (i : Int))) A := by
  have := rng1 (ma := fun _ A => .ok [.int (j : Int)] A) (s := []) (A := A) (A1 := A) rfl h
  exact this
theorem kR1_0 (A : AH) : kR1 (.ok [.int 0] A) = .ok (.data []) A := kR1_nat 0 A (by decide)
theorem kR1_1 (A : AH) : kR1 (.ok [.int 1] A) = .ok (.data [.int 0]) A := kR1_nat 1 A (by decide)
theorem kR1_2 (A : AH) : kR1 (.ok [.int 2] A) = .ok (.data [.int 0, .int 1]) A := kR1_nat 2 A (by decide)
theorem kR1_3 (A : AH) : kR1 (.ok [.int 3] A) = .ok (.data [.int 0, .int 1, .int 2]) A := kR1_nat 3 A (by decide)
def kIt (r : R D) : R IT := r.bind itOf
@[simp] theorem e_any {m : ME} {s : Sl} {A : AH} : miAny m s A = kIt (m s A) := rfl
@[simp] theorem kIt_tup (ds : List D) (A : AH) : kIt (.ok (.tup ds) A) = .ok (.data ds) A := rfl
@[simp] theorem kIt_lst (ds : List D) (A : AH) : kIt (.ok (.lst ds) A) = .ok (.data ds) A := rfl
theorem ix_ofS {z : Str} {i : Int} {c : Nat} {A : AH} (h : z.length ≤ 16777216) (h2 : atI z.cps.toList i = some c) : ixD (.str z) (.int i) A = .ok (.str ⟨#[c]⟩) A := by
  show (match (if z.length ≤ 16777216 then atI z.cps.toList i else none) with
    | some c => R.ok (D.str ⟨#[c]⟩) A
    | none => .bad) = _
  rw [if_pos h, h2]
/-! ### == of flat tuples and lists -/
def okF : D → Bool
  | .int _ => true
  | .str z => PyData.strOk z
  | _ => false
def pyF : D → PyData
  | .int i => .int i
  | .str z => .str z
  | _ => .none
def feqs : List D → List D → Bool
  | [], [] => true
  | x :: xs, y :: ys => feq x y && feqs xs ys
  | _, _ => false
theorem pys_flat {n : Nat} {A : AH} : ∀ {ds : List D}, ds.all okF = true → pysOf (pyOf (n + 1) A) ds = some (ds.map pyF) ∧ PyData.canLayAll0 (ds.map pyF) = true ∧ PyData.depthAll (ds.map pyF) = 0
  | [], _ => ⟨rfl, by simp [PyData.canLayAll0], by simp [PyData.depthAll]⟩
  | d :: ds, h => by
    simp only [List.all_cons, Bool.and_eq_true] at h
    obtain ⟨i1, i2, i3⟩ := pys_flat (n := n) (A := A) h.2
    unfold pysOf
    cases d with
    | int i => exact ⟨by rw [i1]; rfl, by simp [PyData.canLayAll0, PyData.canLay0, pyF, i2], by simp [PyData.depthAll, PyData.depth, pyF, i3]⟩
    | str z =>
      have hz : PyData.strOk z = true := h.1
      exact ⟨by rw [i1]; rfl, by simp [PyData.canLayAll0, PyData.canLay0, pyF, i2, hz], by simp [PyData.depthAll, PyData.depth, pyF, i3]⟩
    | _ => cases (show false = true from h.1)
theorem eqv_flat : ∀ {ds es : List D}, ds.all okF = true → es.all okF = true → PyData.eqvAll (ds.map pyF) (es.map pyF) = feqs ds es
  | [], [], _, _ => by simp [PyData.eqvAll, feqs]
  | [], _ :: _, _, _ => by simp [PyData.eqvAll, feqs]
  | _ :: _, [], _, _ => by simp [PyData.eqvAll, feqs]
  | d :: ds, e :: es, h1, h2 => by
    simp only [List.all_cons, Bool.and_eq_true] at h1 h2
    have ih := eqv_flat h1.2 h2.2
    simp only [List.map_cons, PyData.eqvAll, feqs, ih]
    cases d <;> first
      | (cases (show false = true from h1.1))
      | (cases e <;> first
          | (cases (show false = true from h2.1))
          | (simp [PyData.eqv, pyF, feq]))
theorem shaped_tup {ds : List D} (h : PyData.canLayAll0 (ds.map pyF) = true) (h2 : PyData.depthAll (ds.map pyF) = 0) : SeqAt.shaped (.tuple (ds.map pyF)) = true := by
  simp [SeqAt.shaped, PyData.canLay0, PyData.depth, h, h2]
theorem shaped_lst {ds : List D} (h : PyData.canLayAll0 (ds.map pyF) = true) (h2 : PyData.depthAll (ds.map pyF) = 0) : SeqAt.shaped (.list (ds.map pyF)) = true := by
  simp [SeqAt.shaped, PyData.canLay0, PyData.depth, h, h2]
theorem eq_tupF {ds es : List D} {A : AH} (h : (ds.all okF && es.all okF) = true) : eqD (.tup ds) (.tup es) A = .ok (.bl (feqs ds es)) A := by
  obtain ⟨h1, h2⟩ := Bool.and_eq_true_iff.mp h
  obtain ⟨a1, a2, a3⟩ := pys_flat (n := 10) (A := A) h1
  obtain ⟨b1, b2, b3⟩ := pys_flat (n := 10) (A := A) h2
  have e1 : pyOf 12 A (.tup ds) = some (.tuple (ds.map pyF)) := by
    show (pysOf (pyOf 11 A) ds).map PyData.tuple = _
    rw [a1]
    rfl
  have e2 : pyOf 12 A (.tup es) = some (.tuple (es.map pyF)) := by
    show (pysOf (pyOf 11 A) es).map PyData.tuple = _
    rw [b1]
    rfl
  unfold eqD
  rw [e1, e2, show scEq (.tup ds) (.tup es) = none from rfl]
  simp only [shaped_tup a2 a3, shaped_tup b2 b3, Bool.and_self, if_true, PyData.eqv, eqv_flat h1 h2]
theorem eq_lstF {ds es : List D} {A : AH} (h : (ds.all okF && es.all okF) = true) : eqD (.lst ds) (.lst es) A = .ok (.bl (feqs ds es)) A := by
  obtain ⟨h1, h2⟩ := Bool.and_eq_true_iff.mp h
  obtain ⟨a1, a2, a3⟩ := pys_flat (n := 10) (A := A) h1
  obtain ⟨b1, b2, b3⟩ := pys_flat (n := 10) (A := A) h2
  have e1 : pyOf 12 A (.lst ds) = some (.list (ds.map pyF)) := by
    show (pysOf (pyOf 11 A) ds).map PyData.list = _
    rw [a1]
    rfl
  have e2 : pyOf 12 A (.lst es) = some (.list (es.map pyF)) := by
    show (pysOf (pyOf 11 A) es).map PyData.list = _
    rw [b1]
    rfl
  unfold eqD
  rw [e1, e2, show scEq (.lst ds) (.lst es) = none from rfl]
  simp only [shaped_lst a2 a3, shaped_lst b2 b3, Bool.and_self, if_true, PyData.eqv, eqv_flat h1 h2]
theorem ne_lstF {ds es : List D} {A : AH} (h : (ds.all okF && es.all okF) = true) : neD (.lst ds) (.lst es) A = .ok (.bl (!(feqs ds es))) A := by
  obtain ⟨h1, h2⟩ := Bool.and_eq_true_iff.mp h
  obtain ⟨a1, a2, a3⟩ := pys_flat (n := 10) (A := A) h1
  obtain ⟨b1, b2, b3⟩ := pys_flat (n := 10) (A := A) h2
  have e1 : pyOf 12 A (.lst ds) = some (.list (ds.map pyF)) := by
    show (pysOf (pyOf 11 A) ds).map PyData.list = _
    rw [a1]
    rfl
  have e2 : pyOf 12 A (.lst es) = some (.list (es.map pyF)) := by
    show (pysOf (pyOf 11 A) es).map PyData.list = _
    rw [b1]
    rfl
  unfold neD
  rw [e1, e2, show scEq (.lst ds) (.lst es) = none from rfl]
  simp only [shaped_lst a2 a3, shaped_lst b2 b3, Bool.and_self, if_true, PyData.eqv, eqv_flat h1 h2]
theorem feqs_ints (ns : List Int) : feqs (ns.map .int) (ns.map .int) = true := by
  induction ns with
  | nil => rfl
  | cons n ns ih => simp [feqs, ih]
theorem ok_ints (ns : List Int) : (ns.map D.int).all okF = true := by
  induction ns with
  | nil => rfl
  | cons n ns ih => simp [okF] at ih ⊢
theorem pys_tups {A : AH} : ∀ {dss : List (List D)}, (∀ ds ∈ dss, ds.all okF = true) → ∃ ps, pysOf (pyOf 11 A) (dss.map D.tup) = some ps ∧ PyData.canLayAll0 ps = true ∧ PyData.depthAll ps ≤ 1 ∧ ps.length = dss.length
  | [], _ => ⟨[], rfl, by simp [PyData.canLayAll0], by simp [PyData.depthAll], rfl⟩
  | ds :: dss, h => by
    obtain ⟨a1, a2, a3⟩ := pys_flat (n := 9) (A := A) (h ds List.mem_cons_self)
    obtain ⟨ps, b1, b2, b3, b4⟩ := pys_tups (A := A) (dss := dss) fun e he => h e (List.mem_cons_of_mem _ he)
    have e : pyOf 11 A (.tup ds) = some (.tuple (ds.map pyF)) := by
      show (pysOf (pyOf 10 A) ds).map PyData.tuple = _
      rw [a1]
      rfl
    refine ⟨.tuple (ds.map pyF) :: ps, ?_, by simp [PyData.canLayAll0, PyData.canLay0, a2, b2], ?_, by simp [b4]⟩
    · rw [List.map_cons]
      unfold pysOf
      rw [e, b1]
    · simp only [PyData.depthAll, PyData.depth, a3]
      omega
theorem eq_tups_nil {A : AH} {dss : List (List D)} (h : ∀ ds ∈ dss, ds.all okF = true) (h0 : dss ≠ []) : eqD (.tup (dss.map D.tup)) (.tup []) A = .ok (.bl false) A := by
  obtain ⟨ps, b1, b2, b3, b4⟩ := pys_tups (A := A) h
  have e1 : pyOf 12 A (.tup (dss.map D.tup)) = some (.tuple ps) := by
    show (pysOf (pyOf 11 A) (dss.map D.tup)).map PyData.tuple = _
    rw [b1]
    rfl
  have e2 : pyOf 12 A (.tup []) = some (.tuple []) := rfl
  unfold eqD
  rw [e1, e2, show scEq (.tup (dss.map D.tup)) (.tup []) = none from rfl]
  have s1 : SeqAt.shaped (.tuple ps) = true := by
    have hd : PyData.depth (.tuple ps) ≤ 64 := by
      simp only [PyData.depth]
      omega
    unfold SeqAt.shaped
    rw [decide_eq_true hd]
    simp [PyData.canLay0, b2]
  have s2 : SeqAt.shaped (.tuple []) = true := by simp [SeqAt.shaped, PyData.canLay0, PyData.depth, PyData.canLayAll0, PyData.depthAll]
  have s3 : PyData.eqv (.tuple ps) (.tuple []) = false := by
    cases ps with
    | nil =>
      cases dss with
      | nil => exact absurd rfl h0
      | cons _ _ => cases b4
    | cons p ps => simp [PyData.eqv, PyData.eqvAll]
  simp only [s1, s2, s3, Bool.and_self, if_true]
end Tg

set_option Elab.async false
set_option linter.all false
set_option maxRecDepth 100000
set_option maxHeartbeats 2000000
/-! TgLaw: what the laws share: drawing, likeness. -/
namespace Tg
open PySem L2
@[simp] theorem isi_int {T : String} {i : Int} {A : AH} : isiD T (.int i) A = .ok (.bl (subTy "int" T)) A := rfl
@[simp] theorem isi_str {T : String} {i : Str} {A : AH} : isiD T (.str i) A = .ok (.bl (subTy "str" T)) A := rfl
@[simp] theorem isi_tup {T : String} {i : List D} {A : AH} : isiD T (.tup i) A = .ok (.bl (subTy "tuple" T)) A := rfl
@[simp] theorem isi_lst {T : String} {i : List D} {A : AH} : isiD T (.lst i) A = .ok (.bl (subTy "list" T)) A := rfl
@[simp] theorem isi_non {T : String} {A : AH} : isiD T .non A = .ok (.bl (subTy "NoneType" T)) A := rfl
@[simp] theorem isi_bl {T : String} {b : Bool} {A : AH} : isiD T (.bl b) A = .ok (.bl (subTy "bool" T)) A := rfl
@[simp] theorem o_neB {a b : Bool} {A : AH} : neD (.bl a) (.bl b) A = .ok (.bl (!(a == b))) A := by cases a <;> cases b <;> rfl
@[simp] theorem o_eqB {a b : Bool} {A : AH} : eqD (.bl a) (.bl b) A = .ok (.bl (a == b)) A := by cases a <;> cases b <;> rfl
@[simp] theorem int_bl {b : Bool} {A : AH} : intD [.bl b] A = .ok (.int (if b then 1 else 0)) A := rfl
def RowAt (r : Nat) (ns : List Int) (A : AH) : Prop := ∃ a b c, A[r]? = some (rowO ns a b c) ∧ 0 ≤ a
theorem takenR {r : Nat} {ns : List Int} {A : AH} (many : Int) (h : RowAt r ns A) (hm : 0 < many ∧ many < 1073741824) : ∃ v A', m_taken [.ref r, .int many] A = .ok (.int v) A' ∧ RowAt r ns A' ∧ 0 ≤ v ∧ v < many := by
  obtain ⟨a, b, c, hA, ha⟩ := h
  obtain ⟨v, a', b', c', e, h1, h2, h3⟩ := taken_ok hA ha hm.1 hm.2
  have hr := (List.getElem?_eq_some_iff.mp hA).1
  exact ⟨v, _, e, ⟨a', b', c', List.getElem?_set_self hr, h3⟩, h1, h2⟩
/-- .. with things laid behind -/
theorem takenApp {r : Nat} {ns : List Int} {A : AH} (many : Int) (l : AH) (h : RowAt r ns A) (hm : 0 < many ∧ many < 1073741824) : ∃ (v : Nat) (A' : AH), m_taken [.ref r, .int many] (A ++ l) = .ok (.int (v : Int)) (A' ++ l) ∧ RowAt r ns A' ∧ A'.length = A.length ∧ (v : Int) < many := by
  obtain ⟨a, b, c, hA, ha⟩ := h
  have hr := (List.getElem?_eq_some_iff.mp hA).1
  obtain ⟨v, a', b', c', e, h1, h2, h3⟩ := taken_ok (A := A ++ l) (by rw [List.getElem?_append_left hr]; exact hA) ha hm.1 hm.2
  rw [List.set_append_left _ _ hr] at e
  obtain ⟨n, rfl⟩ := Int.eq_ofNat_of_zero_le h1
  exact ⟨n, _, e, ⟨a', b', c', List.getElem?_set_self hr, h3⟩, List.length_set, h2⟩
theorem RowAt.app {r : Nat} {ns : List Int} {A : AH} (h : RowAt r ns A) (l : AH) : RowAt r ns (A ++ l) := by
  obtain ⟨a, b, c, hA, ha⟩ := h
  exact ⟨a, b, c, by rw [List.getElem?_append_left (List.getElem?_eq_some_iff.mp hA).1]; exact hA, ha⟩
theorem RowAt.set {r n : Nat} {ns : List Int} {A : AH} {o : AO} (h : RowAt r ns A) (hn : n ≠ r) : RowAt r ns (A.set n o) := by
  obtain ⟨a, b, c, hA, ha⟩ := h
  exact ⟨a, b, c, by rw [List.getElem?_set_ne hn]; exact hA, ha⟩
theorem RowAt.lt {r : Nat} {ns : List Int} {A : AH} (h : RowAt r ns A) : r < A.length := by
  obtain ⟨a, b, c, hA, ha⟩ := h
  exact (List.getElem?_eq_some_iff.mp hA).1
theorem ints_of {P : Int → Prop} : ∀ {ys : List D}, (∀ y ∈ ys, ∃ v, y = .int v ∧ P v) → ∃ vs : List Int, ys = vs.map .int ∧ ∀ v ∈ vs, P v
  | [], _ => ⟨[], rfl, fun _ h => nomatch h⟩
  | y :: ys, h => by
    obtain ⟨v, rfl, hv⟩ := h y List.mem_cons_self
    obtain ⟨vs, rfl, h2⟩ := ints_of (ys := ys) fun z hz => h z (List.mem_cons_of_mem _ hz)
    refine ⟨v :: vs, rfl, fun z hz => ?_⟩
    rcases List.mem_cons.mp hz with rfl | hz
    · exact hv
    · exact h2 z hz
theorem maps_of {α : Type} {f : α → D} {P : α → Prop} : ∀ {ys : List D}, (∀ y ∈ ys, ∃ v, y = f v ∧ P v) → ∃ vs : List α, ys = vs.map f ∧ ∀ v ∈ vs, P v
  | [], _ => ⟨[], rfl, fun _ h => nomatch h⟩
  | y :: ys, h => by
    obtain ⟨v, rfl, hv⟩ := h y List.mem_cons_self
    obtain ⟨vs, rfl, h2⟩ := maps_of (ys := ys) fun z hz => h z (List.mem_cons_of_mem _ hz)
    refine ⟨v :: vs, rfl, fun z hz => ?_⟩
    rcases List.mem_cons.mp hz with rfl | hz
    · exact hv
    · exact h2 z hz
/-! ### alike -/
def aC : MT := mOr (mTb (mUn (isiD "tuple") (mv 1))) (mTb (mUn (isiD "list") (mv 1)))
def a1 : MS := mIfS (mOr (mTb (mBin neD (mUn (isiD "tuple") (mv 0)) (mUn (isiD "tuple") (mv 1)))) (mNot (mTb (mUn (isiD2 "tuple" "list") (mv 0))))) (mRet (mc (.bl false))) mNx
def a2 : MS := mIfS (mTb (mBin neD (mCall lenD (mCons (mv 0) mNil)) (mCall lenD (mCons (mv 1) mNil)))) (mRet (mc (.bl false))) mNx
def aL (g : List D → AH → R D) : ME := mLc (mRng1 (mCons (mCall lenD (mCons (mv 1) mNil)) mNil)) (gmN 2) (mNot (mTb (mCall g (mCons (mBin ixD (mv 0) (mv 2)) (mCons (mBin ixD (mv 1) (mv 2)) mNil))))) (mv 2) [2] finF
def a3 : MS := mIfS (mOr (mTb (mBin isD (mv 1) (mc .non))) (mTb (mBin isD (mv 0) (mc .non)))) (mRet (mAndV (mBin isD (mv 1) (mc .non)) (mBin isD (mv 0) (mc .non)))) mNx
def a4 : MS := mIfS (mOr (mTb (mUn (isiD "bool") (mv 1))) (mTb (mUn (isiD "bool") (mv 0)))) (mRet (mAndV (mUn (isiD "bool") (mv 1)) (mAndV (mUn (isiD "bool") (mv 0)) (mBin eqD (mv 0) (mv 1))))) mNx
def a5 : MS := mIfS (mTb (mUn (isiD "str") (mv 1))) (mRet (mAndV (mUn (isiD "str") (mv 0)) (mBin eqD (mv 0) (mv 1)))) mNx
def a6 : MS := mRet (mAndV (mUn (isiD "int") (mv 0)) (mBin eqD (mv 0) (mv 1)))
def b_alike (g : List D → AH → R D) : MS := mSeq (mIfS aC (mSeq a1 (mSeq a2 (mRet (mBin eqD (aL g) (mLst mNil))))) mNx) (mSeq a3 (mSeq a4 (mSeq a5 a6)))
def m_alike : Nat → List D → AH → R D
  | 0 => mBad
  | n + 1 => mFun 2 3 (b_alike (m_alike n))
section
variable {n : Nat} {A : AH} {x y : D} {ds es : List D} {T : String}
theorem alike_int {i : Int} : m_alike (n + 1) [.int i, .int i] A = .ok (.bl true) A := by
  have e0 : m_alike (n + 1) [.int i, .int i] A = finS (b_alike (m_alike n) [some (.int i), some (.int i), none] A) := rfl
  rw [e0]
  simp [b_alike, aC, a3, a4, a5, a6, subTy, Tg.isNon]
theorem alike_str {i : Str} : m_alike (n + 1) [.str i, .str i] A = .ok (.bl true) A := by
  have e0 : m_alike (n + 1) [.str i, .str i] A = finS (b_alike (m_alike n) [some (.str i), some (.str i), none] A) := rfl
  rw [e0]
  simp [b_alike, aC, a3, a4, a5, a6, subTy, Tg.isNon]
theorem alike_non : m_alike (n + 1) [.non, .non] A = .ok (.bl true) A := by
  have e0 : m_alike (n + 1) [.non, .non] A = finS (b_alike (m_alike n) [some .non, some .non, none] A) := rfl
  rw [e0]
  simp [b_alike, aC, a3, a4, a5, a6, subTy, Tg.isNon]
theorem alike_bl {b : Bool} : m_alike (n + 1) [.bl b, .bl b] A = .ok (.bl true) A := by
  have e0 : m_alike (n + 1) [.bl b, .bl b] A = finS (b_alike (m_alike n) [some (.bl b), some (.bl b), none] A) := rfl
  rw [e0]
  simp [b_alike, aC, a3, a4, a5, a6, subTy, Tg.isNon]
theorem alike_seq (hx : tyD A x = some T) (hy : tyD A y = some T) (hT : T = "tuple" ∨ T = "list") {k : Nat} (lx : lenD [x] A = .ok (.int k) A) (ly : lenD [y] A = .ok (.int k) A) (hk : k < 16777216)
    (hi : ∀ i : Nat, i < k → ∃ d e, ixD x (.int i) A = .ok d A ∧ ixD y (.int i) A = .ok e A ∧ m_alike n [d, e] A = .ok (.bl true) A) : m_alike (n + 1) [x, y] A = .ok (.bl true) A := by
  have e0 : m_alike (n + 1) [x, y] A = finS (b_alike (m_alike n) [some x, some y, none] A) := rfl
  have c0 : aC [some x, some y, none] A = .ok true A := by
    rcases hT with rfl | rfl <;> simp [aC, isiD, hy, subTy]
  have c1 : a1 [some x, some y, none] A = .nx [some x, some y, none] A := by
    rcases hT with rfl | rfl <;> simp [a1, isiD, isiD2, hx, hy, subTy]
  have c2 : a2 [some x, some y, none] A = .nx [some x, some y, none] A := by
    simp [a2, lx, ly]
  have c3 : aL (m_alike n) [some x, some y, none] A = .ok (.lst []) A := by
    have e : (mCons (mCall lenD (mCons (mv 1) mNil)) mNil) [some x, some y, none] A = .ok [.int (k : Int)] A := by simp [ly]
    have := lc_pure (g := gmN 2) (tt := mNot (mTb (mCall (m_alike n) (mCons (mBin ixD (mv 0) (mv 2)) (mCons (mBin ixD (mv 1) (mv 2)) mNil))))) (te := mv 2) (vs := [2]) (fun _ => false) (fun d => d) (rng1 e hk) (by rw [List.length_map, List.length_range]; exact hk) (fun d hd => by
      obtain ⟨i, hi', rfl⟩ := List.mem_map.mp hd
      obtain ⟨d, e, h1, h2, h3⟩ := hi i (List.mem_range.mp hi')
      exact ⟨_, rfl, by simp [wpD, h1, h2, h3], fun q => nomatch q⟩)
    rw [show ∀ l : List D, l.filter (fun _ => false) = [] from fun l => by simp] at this
    exact this
  have c4 : eqD (.lst []) (.lst []) A = .ok (.bl true) A := eq_lstF rfl
  have c5 : (mRet (mBin eqD (aL (m_alike n)) (mLst mNil))) [some x, some y, none] A = .rt (.bl true) A := by
    rw [e_ret, e_bin, c3, kB1_0, e_lst, e_nil]
    simp [c4]
  rw [e0]
  unfold b_alike
  rw [e_seq, e_ifS, c0, kIf_0, e_seq, c1, RS.nxt_nx, e_seq, c2, RS.nxt_nx, c5, RS.nxt_rt, finS_rt]
theorem alike_tup (hl : es.length = ds.length) (hk : ds.length < 16777216) (hi : ∀ (i : Nat) (h : i < ds.length), m_alike n [ds[i], es[i]] A = .ok (.bl true) A) : m_alike (n + 1) [.tup ds, .tup es] A = .ok (.bl true) A :=
  alike_seq (T := "tuple") rfl rfl (.inl rfl) (k := ds.length) rfl (by rw [← hl]; rfl) hk fun i h => ⟨ds[i], es[i], ix_tup (atI_ok (List.getElem?_eq_getElem h)), ix_tup (atI_ok (List.getElem?_eq_getElem (by omega))), hi i h⟩
theorem alike_ints {p q : Nat} {vs : List Int} (hp : A[p]? = some (.lst (vs.map .int))) (hq : A[q]? = some (.lst (vs.map .int))) (hk : vs.length < 16777216) : m_alike (n + 2) [.ref p, .ref q] A = .ok (.bl true) A := by
  refine alike_seq (T := "list") (by simp [tyD, hp]) (by simp [tyD, hq]) (.inr rfl) (k := vs.length) (by simp [len_ref, hp]) (by simp [len_ref, hq]) hk fun i h => ?_
  have e : (vs.map D.int)[i]? = some (.int vs[i]) := by rw [List.getElem?_map, List.getElem?_eq_getElem h]; rfl
  exact ⟨.int vs[i], .int vs[i], ix_ref hp (atI_ok e), ix_ref hq (atI_ok e), alike_int⟩
end
end Tg

set_option Elab.async false
set_option linter.all false
set_option maxRecDepth 100000
set_option maxHeartbeats 2000000
/-! TgZip: zip of a list and a text; get of a written dict. -/
namespace Tg
open PySem PySem.Spec PyProof.Rows L2
/-- a list and a text, walked side by side, the pairs new -/
def ItzS (K : PySem.W.Frag) (a : Addr) (z : Str) : It :=
  ⟨fun i H => ∃ (xs : List V) (x : V), SqL K H a xs ∧ xs[i]? = some x ∧ i < z.cps.size,
    fun i H v H' => ∃ T x c, v = .ref T ∧ H T = none ∧ H' = upd H T (.tup [x, .str ⟨#[c]⟩]) ∧ (∀ xs, SqL K H a xs → xs[i]? = some x) ∧ z.cps[i]? = some c,
    fun i H => ∃ xs : List V, SqL K H a xs ∧ (xs.length ≤ i ∨ z.cps.size ≤ i)⟩
/-- what a list's iterator draws, seen from its i-th turn on -/
theorem drawsL {P : Program} {w : World} {A : Around} (hh : A.handled = none) (it l : Addr) (hne : l ≠ it) (items : Array Value) (i : Nat) :
    ∃ (n : Nat) (Pn : Nat → Value → Prop) (St : Nat → Heap → Prop), Draws P w A it [it, l] n Pn St ∧ i ≤ n ∧ (items.size ≤ i → n = i) ∧ ∀ h : Heap, h.IsListIter it l i → h.IsList l items → St i h := by
  by_cases hi : i ≤ items.size
  · exact ⟨items.size, _, _, Draws.list hh it l hne items, hi, fun q => Nat.le_antisymm q hi, fun h a b => ⟨a, b⟩⟩
  · refine ⟨i, fun _ _ => True, fun j h => j = i ∧ h.IsListIter it l i ∧ h.IsList l items, ⟨fun j h st => ?_, fun j h h' st hk => ?_, fun j s Q E hj st _ => ?_, fun s Q E st hE => ?_⟩, Nat.le_refl _, fun _ => rfl, fun h a b => ⟨rfl, a, b⟩⟩
    · obtain ⟨_, ⟨o, ho, _⟩, _⟩ := st
      exact ⟨o, ho⟩
    · exact ⟨st.1, st.2.1.at fun o e => hk it (by simp) o e, st.2.2.at fun o e => hk l (by simp) o e⟩
    · exact absurd st.1 (Nat.ne_of_lt hj)
    · exact wpAny_nextOf_list_end hh st.2.1 st.2.2 (by simp; omega) hE
theorem drawsS {P : Program} {w : World} {A : Around} (hh : A.handled = none) (it : Addr) (z : Str) (t : Tok) (i : Nat) :
    ∃ (n : Nat) (Pn : Nat → Value → Prop) (St : Nat → Heap → Prop), Draws P w A it [it] n Pn St ∧ i ≤ n ∧ (z.cps.size ≤ i → n = i) ∧ ∀ h : Heap, h.IsStrIter it (strIterType z) z t i → St i h := by
  by_cases hi : i ≤ z.cps.size
  · exact ⟨z.cps.size, _, _, Draws.text hh it z t, hi, fun q => Nat.le_antisymm q hi, fun h a => a⟩
  · have hx : z.cps[i]? = none := Array.getElem?_eq_none (by omega)
    refine ⟨i, fun _ _ => True, fun j h => j = i ∧ h.IsStrIter it (strIterType z) z t i, ⟨fun j h st => ?_, fun j h h' st hk => ?_, fun j s Q E hj st _ => ?_, fun s Q E st hE => ?_⟩, Nat.le_refl _, fun _ => rfl, fun h a => ⟨rfl, a⟩⟩
    · obtain ⟨_, o, ho, _⟩ := st
      exact ⟨o, ho⟩
    · obtain ⟨e, o, ho, r⟩ := st
      exact ⟨e, o, hk it (by simp) o ho, r⟩
    · exact absurd st.1 (Nat.ne_of_lt hj)
    · have st2 := st.2
      unfold strIterType at st2
      split at st2
      · exact wpAny_nextOf_ascii_end hh st2 hx hE
      · exact wpAny_nextOf_wide_end hh st2 hx hE
theorem zs_five {z TI TO i1 i2 b : Addr} (h : b ∈ [z, TI, TO, i1, i2]) : b = z ∨ b = TI ∨ b = TO ∨ b = i1 ∨ b = i2 := by simpa using h
/-- the state of such a walk -/
def ZsAt (z TI TO i1 i2 a : Addr) (x : Str) (t : Tok) (i : Nat) (h : Heap) : Prop :=
  IsZip h z TI TO .none ∧ IsTupOf2 h TI (.ref i1) (.ref i2) ∧ (∃ u v, IsTupOf2 h TO u v) ∧ h.IsListIter i1 a i ∧ h.IsStrIter i2 (strIterType x) x t i
theorem zs_there {z TI TO i1 i2 a b : Addr} {x : Str} {t : Tok} {i : Nat} {h : Heap} (st : ZsAt z TI TO i1 i2 a x t i h) (hb : b ∈ [z, TI, TO, i1, i2]) : ∃ o, h.get? b = some o ∧ ∀ v, o.data ≠ .cell v := by
  obtain ⟨hz, hI, ⟨u, v, hO⟩, ⟨o1, e1, _, d1⟩, ⟨o2, e2, _, d2⟩⟩ := st
  rcases zs_five hb with rfl | rfl | rfl | rfl | rfl
  · exact ⟨_, hz, fun v q => (nomatch q)⟩
  · exact ⟨_, hI, fun v q => (nomatch q)⟩
  · exact ⟨_, hO, fun v q => (nomatch q)⟩
  · exact ⟨o1, e1, fun v q => by rw [d1] at q; cases q⟩
  · exact ⟨o2, e2, fun v q => by rw [d2] at q; cases q⟩
theorem zs_keep {z TI TO i1 i2 a : Addr} {x : Str} {t : Tok} {i : Nat} {h h' : Heap} (st : ZsAt z TI TO i1 i2 a x t i h) (k : ∀ b ∈ [z, TI, TO, i1, i2], ∀ o, h.get? b = some o → h'.get? b = some o) : ZsAt z TI TO i1 i2 a x t i h' := by
  obtain ⟨hz, hI, ⟨u, v, hO⟩, h1, ⟨o2, e2, r2⟩⟩ := st
  exact ⟨k z (by simp) _ hz, k TI (by simp) _ hI, ⟨u, v, k TO (by simp) _ hO⟩, h1.at fun o q => k i1 (by simp) o q, ⟨o2, k i2 (by simp) o2 e2, r2⟩⟩
theorem turn_zs {P : Program} {w : World} {K : PySem.W.Frag} {elts : List Expr} {kk : Nat} {tpos : Pos} {a z TI TO i1 i2 : Addr} {x : Str} {t : Tok} (S : ZipSep2 z TI TO i1 i2 [i1, a] [i2]) :
    Turn P w K (.Tuple elts kk tpos) (ItzS K a x) [z, TI, TO, i1, i2] z (ZsAt z TI TO i1 i2 a x t) where
  mem := by simp
  obj := fun i h st b hb => zs_there st hb
  keep := fun i h h' st k => zs_keep st k
  self := fun A i s Q E st h => wpAny_pyIter_zip st.1 h
  item := by
    intro X hP hw hK hc i pins s σ H E I hf st hg
    subst hP hw hK
    have hai : a ≠ i1 := fun q => by
      obtain ⟨xs, y, hq, _⟩ := hg
      obtain ⟨its, rv, p, _⟩ := I.list hq
      obtain ⟨o1, e1, c1, d1⟩ := st.2.2.2.1
      obtain ⟨o2, e2, c2, _⟩ := p.isList
      rw [q, e1] at e2
      cases e2
      rw [c1] at c2
      exact absurd c2 (by simp)
    have hz := st
    obtain ⟨hz1, hz2, hz3, hz4, hz5⟩ := hz
    obtain ⟨xs, y, hq, hy, hi⟩ := hg
    obtain ⟨its, rv, p, _⟩ := I.list hq
    obtain ⟨u, hu, ru⟩ := rv.get hy
    have hu' : its.toArray[i]? = some u := by simpa using hu
    have W := WalksT.zipD2 (prog := X.prog) (w := X.w) (A := X.A) S (Draws.list (show X.A.in1.handled = none from I.ok.hd hc) i1 a hai its.toArray) (Draws.text (show X.A.in1.handled = none from I.ok.hd hc) i2 x t)
    have hlt : i < min its.toArray.size x.cps.size := by
      have := (Array.getElem?_eq_some_iff.mp hu').1
      omega
    refine W.item i s _ _ hlt ⟨hz1, hz2, hz3, ⟨hz4, p.isList⟩, hz5⟩ fun T vals h1 tk hv hT hTup hMid hk1 => ?_
    have hTw := W.apart i T h1 hMid
    refine ⟨_, rfl, W.go elts kk tpos i T { s with heap := h1, toks := tk } _ _ hMid fun h2 st2 hk2 => ?_⟩
    obtain ⟨v1, v2, p1, ⟨c, u2, hc2, rfl⟩, rfl⟩ := hv
    have ev : v1 = u := by
      have p1' : its.toArray[i]? = some v1 := p1
      rw [hu'] at p1'
      cases p1'
      rfl
    subst ev
    have hTup2 : h2.IsTuple T #[v1, .str ⟨#[c]⟩ u2] := hTup.at fun o e => hk2 T o hTw e
    have new : ObjOk X.prog X.w (upd H T (.tup [y, .str ⟨#[c]⟩])) h2 T (.tup [y, .str ⟨#[c]⟩]) :=
      ⟨by show 2 ≤ sizeLine; decide, [v1, .str ⟨#[c]⟩ u2], .cons ru (.cons ⟨u2, rfl⟩ .nil), hTup2⟩
    have I1 : Inv X pins σ (upd H T (.tup [y, .str ⟨#[c]⟩])) { s with heap := h2, toks := tk } :=
      I.turnedNew (t' := tk) (ch := [z, TI, TO, i1, i2]) (fun b o hb q => by
        have hb' : b ∉ [z, TO, i1, i2] := fun q' => hb (by
          simp only [List.mem_cons, List.not_mem_nil, or_false] at q' ⊢
          rcases q' with q' | q' | q' | q'
          · exact .inl q'
          · exact .inr (.inr (.inl q'))
          · exact .inr (.inr (.inr (.inl q')))
          · exact .inr (.inr (.inr (.inr q'))))
        exact hk2 b o hb' (hk1 b o hb' q)) hf hT new
    refine ⟨.ref T, _, I1, rfl, ⟨T, y, c, rfl, I.hok.fresh hT, rfl, fun l hl => by rw [I.list_inj hl hq]; exact hy, hc2⟩, ⟨st2.1, st2.2.1, st2.2.2.1, st2.2.2.2.1.1, st2.2.2.2.2⟩, fun b hb => ?_⟩
    have hlt2 : b < s.heap.objs.size := by
      obtain ⟨o, ho, _⟩ := zs_there st hb
      exact Heap.lt_size ho
    rw [upd_ne (Nat.ne_of_lt (Nat.lt_of_lt_of_le hlt2 hT))]
    exact (hf b hb).1
  done := by
    intro X hP hw hK hc i pins s σ H E I hf st hg
    subst hP hw hK
    obtain ⟨xs, hq, hend⟩ := hg
    obtain ⟨its, rv, p, _⟩ := I.list hq
    have hlen := rv.length
    have hai : a ≠ i1 := fun q => by
      obtain ⟨o1, e1, c1, d1⟩ := st.2.2.2.1
      obtain ⟨o2, e2, c2, _⟩ := p.isList
      rw [q, e1] at e2
      cases e2
      rw [c1] at c2
      exact absurd c2 (by simp)
    obtain ⟨hz1, hz2, hz3, hz4, hz5⟩ := st
    obtain ⟨n1, P1, S1, D1, l1, m1, s1⟩ := drawsL (P := X.prog) (w := X.w) (A := X.A.in1) (I.ok.hd hc) i1 a hai its.toArray i
    obtain ⟨n2, P2, S2, D2, l2, m2, s2⟩ := drawsS (P := X.prog) (w := X.w) (A := X.A.in1) (I.ok.hd hc) i2 x t i
    have hm : min n1 n2 = i := by
      rcases hend with q | q
      · rw [m1 (by simp; omega)]
        omega
      · rw [m2 q]
        omega
    have W := WalksT.zipD2 (prog := X.prog) (w := X.w) (A := X.A) S D1 D2
    rw [hm] at W
    refine W.done s _ _ ⟨hz1, hz2, hz3, s1 _ hz4 p.isList, s2 _ hz5⟩ fun h' tk hk => ⟨rfl, I.turnedL (t' := tk) (ch := [z, TI, TO, i1, i2]) (fun b o hb q => hk b o (fun q' => hb (by
      simp only [List.mem_cons, List.not_mem_nil, or_false] at q' ⊢
      rcases q' with q' | q' | q' | q'
      · exact .inl q'
      · exact .inr (.inr (.inl q'))
      · exact .inr (.inr (.inr (.inl q')))
      · exact .inr (.inr (.inr (.inr q'))))) q) hf⟩
def iZs (K : PySem.W.Frag) (ta : TA) : L2.TI := fun σ H Rr => ta σ H fun vs H1 => ∃ (a : Addr) (z : Str) (xs : List V), vs = [.ref a, .str z] ∧ SqL K H1 a xs ∧ Rr (ItzS K a z) H1
theorem pi_zs {X : Cx} {e e2 : Expr} {ta : TA} {p pos tpos : Pos} {elts : List Expr} {kk : Nat} (hg : Gl X "zip") (hm : X.mg "zip" = none) (ha : PA X [e, e2] ta)
    (hs : starEach [e, e2] X.env = (false, eval e X.env) :: starEach [e2] X.env := by rfl) (hpl : (backTo pos (starEach [e2] X.env)).any (·.1) = false := by rfl) :
    PI X (.Tuple elts kk tpos) (.Call (.Name "zip" p) [e, e2] [] pos) (iZs X.K ta) := ⟨fun pins s σ H Rr I h => by
  refine Call_ (ld_blt I hg hm PyProof.Rows.boot_zip (PyProof.Rows.callWith_type1 (thn (ha.run pos pins s σ H _ I h) fun us s1 q0 => ?_) hs hpl))
  obtain ⟨vs, H1, I1, r1, a, z, xs, ex, hq, q⟩ := q0
  subst ex
  cases r1 with
  | cons ra rr =>
    cases rr with
    | cons rz rr2 =>
      cases rr2
      cases ra
      obtain ⟨t, rfl⟩ := rz
      obtain ⟨its, rv, p1, _⟩ := I1.list hq
      have hal : a < s1.heap.objs.size := p1.lt
      refine zip_begins2 (begins_list a its.toArray) (begins_text z t) p1.isList trivial fun h' hz hTI hTO g1 g2 hsz hk => wpAny_pyIter_zip hz ?_
      refine ⟨s1.heap.objs.size + 4, [s1.heap.objs.size + 4, s1.heap.objs.size + 2, s1.heap.objs.size + 3, s1.heap.objs.size, s1.heap.objs.size + 1], ZsAt _ _ _ _ _ a z t, _, H1, rfl, I1.kept (t' := s1.toks) hk,
        turn_zs (zip_sep2 (fp1 := [a]) (fp2 := []) (fun b hb => by rw [List.mem_singleton.mp hb]; exact hal) (fun b hb => nomatch hb)), ⟨hz, hTI, ⟨_, _, hTO⟩, ⟨_, g1, rfl, rfl⟩, ⟨_, g2, rfl, rfl⟩⟩, fun b hb => ?_, q⟩
      have hle : s1.heap.objs.size ≤ b := by
        rcases zs_five hb with rfl | rfl | rfl | rfl | rfl
        · exact Nat.le_add_right _ _
        · exact Nat.le_add_right _ _
        · exact Nat.le_add_right _ _
        · exact Nat.le_refl _
        · exact Nat.le_add_right _ _
      exact I1.fpOk hle (I1.hok.fresh hle)⟩
/-- the pairs -/
def zipD (ds : List D) (z : Str) : List D := (ds.zip z.cps.toList).map fun p => .tup [p.1, .str ⟨#[p.2]⟩]
def miZs (m : MA) : Sl → AH → R IT := fun s A => (m s A).bind fun ds A1 => match ds with
  | [.lst es, .str z] => .ok (.data (zipD es z)) A1
  | _ => .bad
theorem jr_zs {K : PySem.W.Frag} {mg : Str → Option Value} {W : Wd} {a : Addr} {xs : List V} {ds : List D} {z : Str} (h : W.F a = some (.lst xs)) (r : Reps K W ds xs) : JR K mg W (.data (zipD ds z)) (ItzS K a z) := fun W' A' H' i l k => by
  have q : SqL K H' a xs := .inl (.inl (k.frz _ _ (l.f _ _ h)))
  have r' := r.le l
  have hl := r'.length
  show match some (zipD ds z)[i]? with
    | some (some d) => _
    | some none => _
    | none => True
  unfold zipD
  rw [List.getElem?_map]
  cases hd : (ds.zip z.cps.toList)[i]? with
  | none =>
    refine ⟨xs, q, ?_⟩
    have := List.getElem?_eq_none_iff.mp hd
    rw [List.length_zip] at this
    have h2 : z.cps.toList.length = z.cps.size := by simp
    omega
  | some p =>
    obtain ⟨d, c⟩ := p
    obtain ⟨e1, e2⟩ := List.getElem?_zip_eq_some.mp hd
    obtain ⟨v, h1, h2⟩ := r'.get e1
    have e3 : z.cps[i]? = some c := by simpa using e2
    refine ⟨⟨xs, v, q, h1, (Array.getElem?_eq_some_iff.mp e3).1⟩, fun x H2 y => ?_⟩
    obtain ⟨T, x', c', rfl, hT, rfl, f1, f2⟩ := y
    have ex := f1 xs q
    rw [h1] at ex
    cases ex
    rw [e3] at f2
    cases f2
    obtain ⟨k2, x2⟩ := k.frozen hT (.tup [v, .str ⟨#[c]⟩])
    exact ⟨_, x2, k2, T, _, rfl, .inl (.inl upd_same), ⟨v, _, rfl, h2.le x2.le, _, _, rfl, rfl, rfl⟩⟩
section
variable {X : Cx} {Wx : WX} {e e2 : Expr} {ta : TA} {ma : MA} {te : TE} {me : ME} {p pos tpos apos cpos : Pos} {elts : List Expr} {kk : Nat} {x : Str} {kvs : List (Str × Str)}
theorem izs (hm : X.mg "zip" = none) (ha : SA X Wx [e, e2] ta ma) (hg : Gl X "zip" := by rfl) (hs : starEach [e, e2] X.env = (false, eval e X.env) :: starEach [e2] X.env := by rfl) (hpl : (backTo pos (starEach [e2] X.env)).any (·.1) = false := by rfl) :
    SI X Wx (.Tuple elts kk tpos) (.Call (.Name "zip" p) [e, e2] [] pos) (iZs X.K ta) (miZs ma) :=
  ⟨pi_zs hg hm ha.pa hs hpl, fun W σ s A H Rr k sr z => ha.sim W σ s A H _ k sr (z.bind fun ds A1 vs W1 H1 e1 k1 r1 h1 => by
    split at h1
    · obtain ⟨v, u, rfl, q, q'⟩ := reps2 r1
      obtain ⟨a, xs, rfl, q1, q2⟩ := q
      obtain rfl : u = _ := q'
      exact ⟨a, _, xs, rfl, .inl (.inl (k1.frz _ _ q1)), h1.ok_at k1 (jr_zs q1 q2)⟩
    · exact h1.elim)⟩
/-- .get of a written table of texts -/
def tKGet (K : PySem.W.Frag) (w : World) (d : Addr) (ty : TE) : TE := fun σ H Q => ty σ H fun y H1 => ∃ (z : Str) (r : Option Value) (v : V), y = .str z ∧ PySem.W.nsIn K d z = some r ∧ RelV v (r.getD .none) ∧ Q v H1
def kgetD (kvs : List (Str × Str)) : D → AH → R D
  | .str z, A => .ok (match kvs.lookup z with
    | some v => .str v
    | none => .non) A
  | _, _ => .bad
theorem pe_kget (T : GTab X.K X.w X.mg x kvs) (he : PE X e te) (m : M1 X (.Name x p) "get" apos e cpos) (hg : Gl X x) (hdb : (x == ("__debug__" : Str)) = false) :
    PE X (.Call (.Attribute (.Name x p) "get" apos) [e] [] cpos) (tKGet X.K X.w (clA X.mg x) te) := by
  have ho := pe_tab (p := p) T hg hdb
  obtain ⟨d, hm, T⟩ := T
  obtain ⟨es, n, D⟩ := T.kd
  rw [clA_of hm] at ho ⊢
  refine ⟨fun pins s σ H Q I h => ?_⟩
  refine wpAny_Call_method m.base m.few m.line PySem.F.plainAttrs_dict PySem.F.slot_dict_get PySem.F.type_dict_get (thn (ho.run pins s σ H (fun v H1 => v = .ref d ∧ H1 = H) I ⟨rfl, rfl⟩) fun u s1 q0 => ?_)
  obtain ⟨v, H1, I1, rx, rfl, rfl⟩ := q0
  obtain rfl : u = Value.ref d := rx
  refine ⟨kd_type D I1, fun b q => ?_, ?_⟩
  · cases q
    exact ⟨_, I1.kIn _ _ D.at_, rfl⟩
  · rw [m.trees]
    refine wpAny_dict_get1 (knd := PySem.strKind X.prog X.w) D.low (thn (he.run pins s1 σ _ _ I1 h) fun key s2 q1 => ?_)
    obtain ⟨y, H2, I2, ry, z, r, v, rfl, hr, rv, q2⟩ := q1
    obtain ⟨t, rfl⟩ := ry
    refine ⟨z, _, PySem.strKind_is X.prog X.w z t, PySem.W.mapOf_K (prog := X.prog) I2.kIn D.at_ D.lit, ?_⟩
    rw [PySem.W.find_K D.at_ hr]
    exact ⟨v, H2, I2.tok _, rv, q2⟩
theorem skget (T : GTab X.K X.w X.mg x kvs) (he : SE X Wx e te me) (m : M1 X (.Name x p) "get" apos e cpos := by exact ⟨by rfl, by rfl, by rfl, by rfl⟩) (hg : Gl X x := by rfl) (hdb : (x == ("__debug__" : Str)) = false := by decide) :
    SE X Wx (.Call (.Attribute (.Name x p) "get" apos) [e] [] cpos) (tKGet X.K X.w (clA X.mg x) te) (mUn (kgetD kvs) me) := ⟨pe_kget T he.pe m hg hdb, by
  obtain ⟨d, hm, T⟩ := T
  rw [clA_of hm]
  refine fun W σ s A H Q k sr h => he.sim W σ s A H _ k sr (h.bind fun y A1 v W1 H1 e1 k1 r1 h1 => ?_)
  cases y with
  | str z =>
    obtain rfl : v = V.str z := r1
    unfold kgetD at h1
    dsimp only at h1
    cases q : kvs.lookup z with
    | none =>
      rw [q] at h1
      exact ⟨z, none, .non, rfl, T.no z q, rfl, h1.ok_at k1 rfl⟩
    | some y =>
      rw [q] at h1
      obtain ⟨t, e⟩ := T.yes z y q
      exact ⟨z, _, .str y, rfl, e, ⟨t, rfl⟩, h1.ok_at k1 rfl⟩
  | _ => exact h1.elim⟩
end
end Tg

set_option Elab.async false
set_option linter.all false
set_option maxRecDepth 100000
set_option maxHeartbeats 2000000
/-! TgTxt: texts by their signs; walks over lists, told item by item. -/
namespace Tg
open PySem L2
open SX (S)
section
variable {A : AH} {l : List Nat} {c : Nat} {d : D} {ds : List D}
theorem cut_to1 : cutS (S l) none (some 1) = S (l.take 1) := by
  cases l with
  | nil => rfl
  | cons c l => simp [cutS, HT.sIx, Str.length]
theorem cut_from1 : cutS (S l) (some 1) none = S (l.drop 1) := by
  cases l with
  | nil => rfl
  | cons c l => simp [cutS, HT.sIx, Str.length]
theorem cutD1 : cutD (d :: ds) (some 1) none = ds := by
  simp [cutD, HT.sIx]
theorem inB_S : inB (.str ⟨#[c]⟩) (.str (S l)) A = some (decide (c ∈ l)) := congrArg some (SX.in_one l c)
theorem in_S : inD (.str ⟨#[c]⟩) (.str (S l)) A = .ok (.bl (decide (c ∈ l))) A := by
  unfold inD
  rw [inB_S]
theorem nin_S : ninD (.str ⟨#[c]⟩) (.str (S l)) A = .ok (.bl (!(decide (c ∈ l)))) A := by
  unfold ninD
  rw [inB_S]
theorem len_S (h : l.length ≤ 16777216) : lenD [.str (S l)] A = .ok (.int l.length) A := by
  show (if (S l).length ≤ 16777216 then R.ok (D.int (S l).length) A else .bad) = _
  rw [SX.S_len, if_pos h]
/-- a number's signs -/
def numC (i : Int) : List Nat := if 0 ≤ i then TL.numL i.toNat else 45 :: TL.numL (-i).toNat
theorem str_num (i : Int) : Str.ofString (toString i) = S (numC i) := by
  cases i with
  | ofNat n =>
    have e : numC (Int.ofNat n) = TL.numL n := if_pos (Int.natCast_nonneg n)
    rw [e]
    exact SX.num_S n
  | negSucc m =>
    have e : numC (Int.negSucc m) = 45 :: TL.numL (m + 1) := by
      have h : ¬ (0 : Int) ≤ Int.negSucc m := by omega
      unfold numC
      rw [if_neg h]
      rfl
    rw [e]
    refine TL.ext_tl ?_
    rw [TL.tl_ofString]
    show (("-" ++ Nat.repr (m + 1) : String)).toList.map Char.toNat = _
    rw [String.toList_append, List.map_append]
    show _ = [45] ++ TL.numL (m + 1)
    unfold TL.numL
    rw [Nat.toList_repr]
    rfl
theorem numC_len {i : Int} (h0 : -100000 < i) (h1 : i < 100000) : (numC i).length ≤ 6 := by
  unfold numC
  split
  · have := TL.numL_len (n := i.toNat) (k := 5) (by decide) (by show i.toNat < 100000; omega)
    omega
  · have := TL.numL_len (n := (-i).toNat) (k := 5) (by decide) (by show (-i).toNat < 100000; omega)
    simp only [List.length_cons]
    omega
theorem numC_ne (i : Int) : numC i ≠ [] := by
  unfold numC
  split
  · exact TL.numL_ne _
  · simp
theorem numC_free {i : Int} {s : Nat} (h : s < 48 ∨ 57 < s) (h2 : s ≠ 45) : s ∉ numC i := by
  unfold numC
  split
  · exact TL.numL_free h
  · intro q
    rcases List.mem_cons.mp q with q | q
    · exact h2 q
    · exact TL.numL_free h q
theorem int_S {i : Int} (h0 : -100000 < i) (h1 : i < 100000) : intD [.str (S (numC i))] A = .ok (.int i) A := by
  have hl := numC_len h0 h1
  have e : PySem.intText? (S (numC i)) = some i := by
    unfold numC at hl ⊢
    split
    · rename_i q
      rw [if_pos q] at hl
      rw [PySem.intText_digits (x := S (TL.numL i.toNat)) (TL.numL_digits _) (TL.numL_ne _) (by rw [SX.S_len]; omega)]
      show some ((PySem.NumText.digitsVal (TL.numL i.toNat) : Nat) : Int) = _
      rw [TL.numL_val]
      congr 1
      omega
    · rename_i q
      rw [if_neg q] at hl
      rw [PySem.intText_neg (x := S (45 :: TL.numL (-i).toNat)) (cs := TL.numL (-i).toNat) rfl (TL.numL_digits _) (TL.numL_ne _) (by rw [SX.S_len]; omega)]
      rw [TL.numL_val]
      congr 1
      omega
  show (match PySem.intText? (S (numC i)) with
    | some n => if (S (numC i)).length ≤ 640 then R.ok (D.int n) A else .bad
    | none => .bad) = _
  rw [e]
  show (if (S (numC i)).length ≤ 640 then _ else _) = _
  rw [SX.S_len, if_pos (by omega)]
theorem str_int {i : Int} (h0 : -100000 < i) (h1 : i < 100000) : strD [.int i] A = .ok (.str (S (numC i))) A := by
  have h : i.natAbs.log2 < 1920 := by
    by_cases h : i.natAbs = 0
    · rw [h]
      decide
    · exact Nat.lt_trans ((Nat.log2_lt h).mpr (show i.natAbs < 2 ^ 17 by omega)) (by decide)
  show (if i.natAbs.log2 < 1920 then R.ok (D.str (Str.ofString (toString i))) A else .bad) = _
  rw [if_pos h, str_num]
end
/-! ### joined and split -/
section
variable {A : AH} {s : List Nat} {ls : List (List Nat)} {k : Nat} {c : Nat}
theorem joinL_len : ∀ {ls : List (List Nat)}, (∀ l ∈ ls, l.length + s.length ≤ k) → (TL.joinL s ls).length ≤ ls.length * k
  | [], _ => Nat.zero_le _
  | [p], h => by
    have := h p List.mem_cons_self
    show p.length ≤ 1 * k
    omega
  | p :: q :: r, h => by
    have h1 := h p List.mem_cons_self
    have h2 := joinL_len (ls := q :: r) fun l hl => h l (List.mem_cons_of_mem _ hl)
    show (p ++ (s ++ TL.joinL s (q :: r))).length ≤ (q :: r).length.succ * k
    rw [List.length_append, List.length_append, Nat.succ_mul]
    omega
theorem sum_len : ∀ {ls : List (List Nat)}, (∀ l ∈ ls, l.length + s.length ≤ k) → (ls.map List.length).sum + ls.length * s.length ≤ ls.length * k
  | [], _ => by simp
  | p :: r, h => by
    have h1 := h p List.mem_cons_self
    have h2 := sum_len (ls := r) fun l hl => h l (List.mem_cons_of_mem _ hl)
    simp only [List.map_cons, List.sum_cons, List.length_cons, Nat.succ_mul]
    omega
theorem joinL_snoc {x : List Nat} : ∀ {ls : List (List Nat)}, ls ≠ [] → TL.joinL s (ls ++ [x]) = TL.joinL s ls ++ (s ++ x)
  | [], h => absurd rfl h
  | [p], _ => rfl
  | p :: q :: r, _ => by
    show p ++ (s ++ TL.joinL s ((q :: r) ++ [x])) = (p ++ (s ++ TL.joinL s (q :: r))) ++ (s ++ x)
    rw [joinL_snoc (ls := q :: r) (by simp)]
    simp only [List.append_assoc]
theorem joinL_mem : ∀ {ls : List (List Nat)}, c ∈ TL.joinL s ls → c ∈ s ∨ ∃ l ∈ ls, c ∈ l
  | [], h => nomatch h
  | [p], h => .inr ⟨p, List.mem_cons_self, h⟩
  | p :: q :: r, h => by
    rcases List.mem_append.mp (show c ∈ p ++ (s ++ TL.joinL s (q :: r)) from h) with h | h
    · exact .inr ⟨p, List.mem_cons_self, h⟩
    · rcases List.mem_append.mp h with h | h
      · exact .inl h
      · rcases joinL_mem (ls := q :: r) h with h | ⟨l, hl, h⟩
        · exact .inl h
        · exact .inr ⟨l, List.mem_cons_of_mem _ hl, h⟩
theorem strs_S : ∀ {ls : List (List Nat)}, strsD (ls.map fun l => .str (S l)) = some (ls.map S)
  | [] => rfl
  | l :: ls => by
    show (strsD (ls.map fun l => .str (S l))).map (S l :: ·) = _
    rw [strs_S]
    rfl
theorem join_S (h : ∀ l ∈ ls, l.length + s.length ≤ k) (hk : ls.length * k ≤ 16777216) : joinD (.str (S s)) [.lst (ls.map fun l => .str (S l))] A = .ok (.str (S (TL.joinL s ls))) A := by
  have e : (itemsD A (.lst (ls.map fun l => .str (S l)))).bind strsD = some (ls.map S) := strs_S
  show (match (itemsD A (.lst (ls.map fun l => .str (S l)))).bind strsD with
    | some ys => if (ys.map (fun y : Str => y.length)).sum + ys.length * (S s).length ≤ 16777216 then R.ok (D.str (Txt.join (S s) ys)) A else .bad
    | none => .bad) = _
  rw [e]
  have e2 : (ls.map fun x => x.length).sum + ls.length * s.length ≤ ls.length * k := sum_len h
  dsimp only
  rw [SX.lens, List.length_map, SX.S_len, if_pos (by omega), SX.join_S]
theorem split_S (hne : ls ≠ []) (h : ∀ l ∈ ls, c ∉ l) (hc : c < 256) (hl : (TL.joinL [c] ls).length + 2 ≤ 16777216) : splitD (.str (S (TL.joinL [c] ls))) [.str (S [c])] A = .ok (.lst (ls.map fun l => .str (S l))) A := by
  show (if ((S [c]).length == 0) = false ∧ (S (TL.joinL [c] ls)).length + 2 ≤ 16777216 then R.ok (D.lst ((Txt.split (S (TL.joinL [c] ls)) (S [c])).map .str)) A else .bad) = _
  rw [if_pos ⟨rfl, by rw [SX.S_len]; exact hl⟩, SX.split_S (by simp) (by simp [hc]), SX.spl_join hne h, List.map_map]
  rfl
end
/-! ### walks told item by item -/
inductive All2 {α β : Type} (P : α → β → Prop) : List α → List β → Prop
  | nil : All2 P [] []
  | cons {a b as bs} : P a b → All2 P as bs → All2 P (a :: as) (b :: bs)
theorem All2.len {α β : Type} {P : α → β → Prop} : ∀ {as : List α} {bs : List β}, All2 P as bs → as.length = bs.length
  | _, _, .nil => rfl
  | _, _, .cons _ h => by rw [List.length_cons, List.length_cons, h.len]
theorem All2.imp {α β : Type} {P Q : α → β → Prop} (f : ∀ a b, P a b → Q a b) : ∀ {as : List α} {bs : List β}, All2 P as bs → All2 Q as bs
  | _, _, .nil => .nil
  | _, _, .cons h h2 => .cons (f _ _ h) (h2.imp f)
theorem All2.get {α β : Type} {P : α → β → Prop} : ∀ {as : List α} {bs : List β} (i : Nat) (h : i < as.length) (h2 : i < bs.length), All2 P as bs → P as[i] bs[i]
  | _, _, 0, _, _, .cons h _ => h
  | _, _, i + 1, h, h2, .cons _ r => r.get i (by simpa using h) (by simpa using h2)
theorem All2.maps {α β γ : Type} {P : β → γ → Prop} {f : α → β} {g : α → γ} : ∀ {as : List α}, (∀ a ∈ as, P (f a) (g a)) → All2 P (as.map f) (as.map g)
  | [], _ => .nil
  | a :: as, h => .cons (h a List.mem_cons_self) (All2.maps fun b hb => h b (List.mem_cons_of_mem _ hb))
section
variable {g : MG} {tt : MT} {te : ME} {b : MS} {mi : Sl → AH → R IT} {vs : List Nat} {s : Sl} {A A1 : AH} {ds : List D}
theorem lcL_all2 {w : Sl} : ∀ {ds qs : List D}, All2 (fun d q => ∃ s1, g d w = some s1 ∧ tt s1 A = .ok true A ∧ te s1 A = .ok q A) ds qs → lcL g tt te w ds A = .ok qs A
  | _, _, .nil => rfl
  | _, _, .cons ⟨s1, h1, h2, h3⟩ h => by
    have ih := lcL_all2 h
    unfold lcL
    simp only [h1, h2, R.bindN_ok, if_true, h3, ih, R.bind_ok]
theorem lc_all2 {qs : List D} (h0 : mi s A = .ok (.data ds) A) (hl : ds.length < 16777216) (h : All2 (fun d q => ∃ s1, g d (wpD s vs) = some s1 ∧ tt s1 A = .ok true A ∧ te s1 A = .ok q A) ds qs) : mLc mi g tt te vs finF s A = .ok (.lst qs) A := by
  rw [mLc_of h0 hl, lcL_all2 h]
  rfl
theorem forL_at (I : Nat → Sl → AH → Prop) : ∀ {ds : List D} {s : Sl} {A : AH} (k : Nat), I k s A → (∀ j d s A, ds[j]? = some d → I (k + j) s A → ∃ s1 s2 A2, g d s = some s1 ∧ b s1 A = .nx s2 A2 ∧ I (k + j + 1) s2 A2) → ∃ s' A', forL g b ds s A = .nx s' A' ∧ I (k + ds.length) s' A'
  | [], s, A, k, hI, _ => ⟨s, A, rfl, hI⟩
  | d :: ds, s, A, k, hI, h => by
    obtain ⟨s1, s2, A2, h1, h2, h3⟩ := h 0 d s A rfl hI
    obtain ⟨s', A', e1, e2⟩ := forL_at (ds := ds) I (k + 1) h3 fun j e s A hj hI => by
      have := h (j + 1) e s A hj (by rw [show k + (j + 1) = k + 1 + j by omega]; exact hI)
      rw [show k + (j + 1) + 1 = k + 1 + j + 1 by omega] at this
      exact this
    refine ⟨s', A', ?_, by rw [show k + (d :: ds).length = k + 1 + ds.length by simp; omega]; exact e2⟩
    unfold forL
    simp only [h1, h2, e1]
/-- drawn tests: a part of what is walked -/
theorem lcL_sub {w : Sl} (I : AH → Prop) : ∀ {ds : List D} {A : AH}, I A → (∀ d ∈ ds, ∀ A, I A → ∃ s1 k A2, g d w = some s1 ∧ tt s1 A = .ok k A2 ∧ I A2 ∧ te s1 A2 = .ok d A2) → ∃ ys A', lcL g tt te w ds A = .ok ys A' ∧ I A' ∧ ys.Sublist ds
  | [], A, hI, _ => ⟨[], A, rfl, hI, .slnil⟩
  | d :: ds, A, hI, h => by
    obtain ⟨s1, k, A2, h1, h2, h3, h4⟩ := h d List.mem_cons_self A hI
    obtain ⟨ys, A', e1, e2, e3⟩ := lcL_sub (ds := ds) I h3 fun e he => h e (List.mem_cons_of_mem _ he)
    cases k with
    | true =>
      refine ⟨d :: ys, A', ?_, e2, e3.cons₂ d⟩
      unfold lcL
      simp only [h1, h2, R.bindN_ok, if_true, h4, e1, R.bind_ok]
    | false =>
      refine ⟨ys, A', ?_, e2, e3.cons d⟩
      unfold lcL
      simp [h1, h2, e1]
theorem lc_sub (I : AH → Prop) (h0 : mi s A = .ok (.data ds) A1) (hl : ds.length < 16777216) (hI : I A1) (h : ∀ d ∈ ds, ∀ A, I A → ∃ s1 k A2, g d (wpD s vs) = some s1 ∧ tt s1 A = .ok k A2 ∧ I A2 ∧ te s1 A2 = .ok d A2) :
    ∃ ys A', mLc mi g tt te vs finF s A = .ok (.lst ys) A' ∧ I A' ∧ ys.Sublist ds := by
  obtain ⟨ys, A', e1, e2⟩ := lcL_sub (w := wpD s vs) I hI h
  refine ⟨ys, A', ?_, e2⟩
  rw [mLc_of h0 hl, e1]
  rfl
end
end Tg

set_option Elab.async false
set_option linter.all false
set_option maxRecDepth 100000
set_option maxHeartbeats 2000000
/-! TgRng: list(range(n)), a list that will change. -/
namespace Tg
open PySem L2
def mLRgN (a : ME) : ME := fun s A => (a s A).bind fun x A1 => match x with
  | .int n => if 0 ≤ n ∧ n ≤ 16777216 then .ok (.ref A1.length) (A1 ++ [.lst (rngL 0 1 n.toNat)]) else .bad
  | _ => .bad
section
variable {X : Cx} {Wx : WX} {a : Expr} {ta : TE} {ma : ME} {p p2 pos pos2 : Pos}
theorem reps_rg (K : PySem.W.Frag) (W : Wd) (n : Int) : Reps K W (rngL 0 1 n.toNat) (rgV 0 n) := by
  have e1 : rngL 0 1 n.toNat = ((List.range n.toNat).map fun i : Nat => (i : Int)).map D.int := by
    unfold rngL
    rw [List.map_map]
    refine List.map_congr_left fun i _ => ?_
    show D.int (0 + (i : Int) * 1) = D.int i
    congr 1
    omega
  have e2 : rgV 0 n = ((List.range n.toNat).map fun i : Nat => (i : Int)).map V.int := by
    unfold rgV
    rw [List.map_map, Int.sub_zero]
    refine List.map_congr_left fun i _ => ?_
    show V.int (0 + (i : Int)) = V.int i
    congr 1
    omega
  rw [e1, e2]
  exact reps_ints W _
theorem slrgN (hc : X.calm = true) (hm : X.mg "list" = none) (hm2 : X.mg "range" = none) (ha : SE X Wx a ta ma) (hg : Gl X "list" := by rfl) (hg2 : Gl X "range" := by rfl)
    (na : starEach [a] X.env = (false, eval a X.env) :: starEach [] X.env := by rfl)
    (na2 : starEach [.Call (.Name "range" p2) [a] [] pos2] X.env = (false, eval (.Call (.Name "range" p2) [a] [] pos2) X.env) :: starEach [] X.env := by rfl) :
    SE X Wx (.Call (.Name "list" p) [.Call (.Name "range" p2) [a] [] pos2] [] pos) (tLstRg (tRg1 ta)) (mLRgN ma) :=
  ⟨pe_listRg hc hg hm (prg_1 hg2 hm2 ha.pe na) na2, fun W σ s A H Q k sr z => ha.sim W σ s A H _ k sr (z.bind fun x A1 v W1 H1 e1 k1 r1 h1 => by
    cases x with
    | int n =>
      obtain rfl : v = V.int n := r1
      dsimp only at h1
      by_cases q : 0 ≤ n ∧ n ≤ 16777216
      · rw [if_pos q] at h1
        exact ⟨n, rfl, RgOk.of_le (Int.le_refl 0) q.2 (by omega) q.1, fun q hq => post_new k1 h1 (reps_rg X.K W1 n) hq⟩
      · rw [if_neg q] at h1
        exact h1.elim
    | _ => exact h1.elim)⟩
end
end Tg

set_option Elab.async false
set_option linter.all false
set_option maxRecDepth 100000
set_option maxHeartbeats 2000000
/-! TgDat: == and in of data of any depth. -/
namespace Tg
open PySem L2
open SX (S)
mutual
/-- numbers, texts, None, lists and tuples of them -/
def datD : D → Bool
  | .non => true
  | .int _ => true
  | .str z => PyData.strOk z
  | .tup ds => datL ds
  | .lst ds => datL ds
  | _ => false
def datL : List D → Bool
  | [] => true
  | d :: ds => datD d && datL ds
end
mutual
def depD : D → Nat
  | .tup ds => depL ds + 1
  | .lst ds => depL ds + 1
  | _ => 0
def depL : List D → Nat
  | [] => 0
  | d :: ds => max (depD d) (depL ds)
end
mutual
def pyD : D → PyData
  | .int i => .int i
  | .str z => .str z
  | .tup ds => .tuple (pyL ds)
  | .lst ds => .list (pyL ds)
  | _ => .none
def pyL : List D → List PyData
  | [] => []
  | d :: ds => pyD d :: pyL ds
end
mutual
theorem pyOf_dat {A : AH} : ∀ (d : D) (n : Nat), datD d = true → depD d < n → pyOf n A d = some (pyD d)
  | _, 0, _, h => absurd h (Nat.not_lt_zero _)
  | .non, n + 1, _, _ => by simp [pyOf, pyD]
  | .int i, n + 1, _, _ => by simp [pyOf, pyD]
  | .str z, n + 1, _, _ => by simp [pyOf, pyD]
  | .tup ds, n + 1, h, h2 => by
    have e := pysOf_dat (A := A) ds n (by simpa [datD] using h) (by simpa [depD] using h2)
    simp [pyOf, pyD, e]
  | .lst ds, n + 1, h, h2 => by
    have e := pysOf_dat (A := A) ds n (by simpa [datD] using h) (by simpa [depD] using h2)
    simp [pyOf, pyD, e]
  | .bl b, n + 1, h, _ => by simp [datD] at h
  | .dct ks ds, n + 1, h, _ => by simp [datD] at h
  | .ref r, n + 1, h, _ => by simp [datD] at h
  | .scr ns, n + 1, h, _ => by simp [datD] at h
theorem pysOf_dat {A : AH} : ∀ (ds : List D) (n : Nat), datL ds = true → depL ds < n → pysOf (pyOf n A) ds = some (pyL ds)
  | [], n, _, _ => by simp [pysOf, pyL]
  | d :: ds, n, h, h2 => by
    simp only [datL, Bool.and_eq_true] at h
    simp only [depL] at h2
    have e1 := pyOf_dat (A := A) d n h.1 (by omega)
    have e2 := pysOf_dat (A := A) ds n h.2 (by omega)
    simp [pysOf, pyL, e1, e2]
end
mutual
theorem lay_dat : ∀ (d : D), datD d = true → PyData.canLay0 (pyD d) = true ∧ PyData.depth (pyD d) = depD d
  | .non, _ => by simp [pyD, PyData.canLay0, PyData.depth, depD]
  | .int i, _ => by simp [pyD, PyData.canLay0, PyData.depth, depD]
  | .str z, h => by
    have : PyData.strOk z = true := by simpa [datD] using h
    simp [pyD, PyData.canLay0, PyData.depth, depD, this]
  | .tup ds, h => by
    obtain ⟨e1, e2⟩ := lays_dat ds (by simpa [datD] using h)
    simp [pyD, PyData.canLay0, PyData.depth, depD, e1, e2]
  | .lst ds, h => by
    obtain ⟨e1, e2⟩ := lays_dat ds (by simpa [datD] using h)
    simp [pyD, PyData.canLay0, PyData.depth, depD, e1, e2]
  | .bl b, h => by simp [datD] at h
  | .dct ks ds, h => by simp [datD] at h
  | .ref r, h => by simp [datD] at h
  | .scr ns, h => by simp [datD] at h
theorem lays_dat : ∀ (ds : List D), datL ds = true → PyData.canLayAll0 (pyL ds) = true ∧ PyData.depthAll (pyL ds) = depL ds
  | [], _ => by simp [pyL, PyData.canLayAll0, PyData.depthAll, depL]
  | d :: ds, h => by
    simp only [datL, Bool.and_eq_true] at h
    obtain ⟨a1, a2⟩ := lay_dat d h.1
    obtain ⟨b1, b2⟩ := lays_dat ds h.2
    simp [pyL, PyData.canLayAll0, PyData.depthAll, depL, a1, a2, b1, b2]
end
mutual
theorem eqv_dat : ∀ (d e : D), datD d = true → datD e = true → (PyData.eqv (pyD d) (pyD e) = true ↔ d = e)
  | .non, e, _, h => by cases e <;> simp [pyD, PyData.eqv, datD] at h ⊢
  | .int i, e, _, h => by cases e <;> simp [pyD, PyData.eqv, datD] at h ⊢
  | .str z, e, _, h => by cases e <;> simp [pyD, PyData.eqv, datD] at h ⊢
  | .tup ds, e, h1, h => by
    cases e with
    | tup es =>
      have := eqvs_dat ds es (by simpa [datD] using h1) (by simpa [datD] using h)
      simp [pyD, PyData.eqv, this]
    | _ => simp [pyD, PyData.eqv, datD] at h ⊢
  | .lst ds, e, h1, h => by
    cases e with
    | lst es =>
      have := eqvs_dat ds es (by simpa [datD] using h1) (by simpa [datD] using h)
      simp [pyD, PyData.eqv, this]
    | _ => simp [pyD, PyData.eqv, datD] at h ⊢
  | .bl b, _, h, _ => by simp [datD] at h
  | .dct ks ds, _, h, _ => by simp [datD] at h
  | .ref r, _, h, _ => by simp [datD] at h
  | .scr ns, _, h, _ => by simp [datD] at h
theorem eqvs_dat : ∀ (ds es : List D), datL ds = true → datL es = true → (PyData.eqvAll (pyL ds) (pyL es) = true ↔ ds = es)
  | [], [], _, _ => by simp [pyL, PyData.eqvAll]
  | [], _ :: _, _, _ => by simp [pyL, PyData.eqvAll]
  | _ :: _, [], _, _ => by simp [pyL, PyData.eqvAll]
  | d :: ds, e :: es, h1, h2 => by
    simp only [datL, Bool.and_eq_true] at h1 h2
    have a := eqv_dat d e h1.1 h2.1
    have b := eqvs_dat ds es h1.2 h2.2
    simp only [pyL, PyData.eqvAll, Bool.and_eq_true, a, b, List.cons.injEq]
end
theorem shaped_dat {d : D} (h : datD d = true) (h2 : depD d ≤ 11) : SeqAt.shaped (pyD d) = true := by
  obtain ⟨a, b⟩ := lay_dat d h
  unfold SeqAt.shaped
  rw [a, b, decide_eq_true (show depD d ≤ 64 by omega)]
  rfl
/-- == by trees -/
def eqB (x y : D) : Bool := PyData.eqv (pyD x) (pyD y)
theorem eqB_iff {x y : D} (hx : datD x = true) (hy : datD y = true) : eqB x y = true ↔ x = y := eqv_dat x y hx hy
theorem eqB_refl {x : D} (hx : datD x = true) : eqB x x = true := (eqB_iff hx hx).mpr rfl
theorem eqB_ne {x y : D} (hx : datD x = true) (hy : datD y = true) (h : x ≠ y) : eqB x y = false := by
  cases e : eqB x y with
  | false => rfl
  | true => exact absurd ((eqB_iff hx hy).mp e) h
theorem scEq_dat {x y : D} {b : Bool} (h : scEq x y = some b) (hx : datD x = true) (hy : datD y = true) : b = eqB x y := by
  unfold eqB
  cases x <;> cases y <;> simp [scEq, datD, pyD, PyData.eqv] at h hx hy ⊢
  all_goals first
    | exact h.symm
    | exact h
theorem eq_dat {x y : D} {A : AH} (h : (datD x && datD y) = true) (h2 : (decide (depD x ≤ 11) && decide (depD y ≤ 11)) = true) : eqD x y A = .ok (.bl (eqB x y)) A := by
  simp only [Bool.and_eq_true, decide_eq_true_eq] at h h2
  unfold eqD
  cases e : scEq x y with
  | some b =>
    rw [scEq_dat e h.1 h.2]
  | none =>
    rw [pyOf_dat x 12 h.1 (by omega), pyOf_dat y 12 h.2 (by omega)]
    simp only [shaped_dat h.1 h2.1, shaped_dat h.2 h2.2, Bool.and_self, if_true]
    rfl
theorem ne_dat {x y : D} {A : AH} (h : (datD x && datD y) = true) (h2 : (decide (depD x ≤ 11) && decide (depD y ≤ 11)) = true) : neD x y A = .ok (.bl (!(eqB x y))) A := by
  simp only [Bool.and_eq_true, decide_eq_true_eq] at h h2
  unfold neD
  cases e : scEq x y with
  | some b =>
    rw [scEq_dat e h.1 h.2]
  | none =>
    rw [pyOf_dat x 12 h.1 (by omega), pyOf_dat y 12 h.2 (by omega)]
    simp only [shaped_dat h.1 h2.1, shaped_dat h.2 h2.2, Bool.and_self, if_true]
    rfl
/-- a list that changes, against data -/
theorem ne_refL {n : Nat} {ds : List D} {y : D} {A : AH} (hA : A[n]? = some (.lst ds)) (h : (datL ds && datD y) = true) (h2 : (decide (depL ds ≤ 10) && decide (depD y ≤ 11)) = true) : neD (.ref n) y A = .ok (.bl (!(eqB (.lst ds) y))) A := by
  simp only [Bool.and_eq_true, decide_eq_true_eq] at h h2
  have e0 : scEq (.ref n) y = none := by cases y <;> rfl
  have e1 : pyOf 12 A (.ref n) = some (pyD (.lst ds)) := by
    show (match A[n]? with
      | some (.lst ds) => (pysOf (pyOf 11 A) ds).map PyData.list
      | _ => none) = _
    rw [hA]
    dsimp only
    rw [pysOf_dat ds 11 h.1 (by omega)]
    simp [pyD]
  unfold neD
  rw [e0, e1, pyOf_dat y 12 h.2 (by omega)]
  have s1 : SeqAt.shaped (pyD (.lst ds)) = true := shaped_dat (by simpa [datD] using h.1) (by simp [depD]; omega)
  simp only [s1, shaped_dat h.2 h2.2, Bool.and_self, if_true]
  rfl
theorem any_py {x : D} : ∀ {ds : List D}, (pyL ds).any (fun z => PyData.eqv z (pyD x)) = ds.any fun z => eqB z x
  | [] => rfl
  | d :: ds => by
    simp only [pyL, List.any_cons, any_py]
    rfl
theorem any_mem {x : D} (hx : datD x = true) {ds : List D} (h : datL ds = true) : (ds.any fun z => eqB z x) = true ↔ x ∈ ds := by
  induction ds with
  | nil => simp
  | cons d ds ih =>
    simp only [datL, Bool.and_eq_true] at h
    simp only [List.any_cons, Bool.or_eq_true, List.mem_cons, ih h.2, eqB_iff h.1 hx]
    exact ⟨fun q => q.imp Eq.symm id, fun q => q.imp Eq.symm id⟩
/-- in of tuples -/
theorem inB_lst {xs ds : List D} {y : D} {A : AH} (hy : seqL A y = some ds) (hi : itemsD A y = some ds) (hd : dctD A y = none) (hp : pyOf 12 A y = some (pyD (.lst ds))) (h : (datL xs && datL ds) = true) (h2 : (decide (depL xs ≤ 10) && decide (depL ds ≤ 10)) = true) :
    inB (.tup xs) y A = some (ds.any fun z => eqB z (.tup xs)) := by
  simp only [Bool.and_eq_true, decide_eq_true_eq] at h h2
  have e : inB (.tup xs) y A = (match dctD A y with
    | some kvs => (keyD (.tup xs)).map fun k => (lkK kvs k).isSome
    | none => match itemsD A y with
      | some ds => if (flatD (.tup xs) && ds.all flatD) = true then some (ds.any fun z => feq z (.tup xs)) else
          match seqL A y, pyOf 12 A (.tup xs), pyOf 12 A y with
          | some _, some p, some (.list qs) => if SeqAt.shaped p && SeqAt.shaped (.list qs) then some (qs.any fun z => PyData.eqv z p) else none
          | _, _, _ => none
      | none => none) := by
    cases y <;> rfl
  have s1 : SeqAt.shaped (pyD (.tup xs)) = true := shaped_dat (by simpa [datD] using h.1) (by simp [depD]; omega)
  have s2 : SeqAt.shaped (pyD (.lst ds)) = true := shaped_dat (by simpa [datD] using h.2) (by simp [depD]; omega)
  have p1 : pyOf 12 A (.tup xs) = some (pyD (.tup xs)) := pyOf_dat _ _ (by simpa [datD] using h.1) (by simp [depD]; omega)
  have e2 : pyD (.lst ds) = .list (pyL ds) := by simp [pyD]
  rw [e, hd, hi, hp, hy, p1, e2]
  rw [e2] at s2
  show (if (flatD (.tup xs) && ds.all flatD) = true then _ else _) = _
  rw [if_neg (by simp [flatD])]
  simp only [s1, s2, Bool.and_self, if_true, any_py]
theorem nin_lst {xs ds : List D} {A : AH} (h : (datL xs && datL ds) = true) (h2 : (decide (depL xs ≤ 10) && decide (depL ds ≤ 10)) = true) : ninD (.tup xs) (.lst ds) A = .ok (.bl (!(ds.any fun z => eqB z (.tup xs)))) A := by
  have hb := h
  have hb2 := h2
  simp only [Bool.and_eq_true, decide_eq_true_eq] at hb hb2
  unfold ninD
  rw [inB_lst (y := .lst ds) rfl rfl rfl (pyOf_dat _ _ (by simpa [datD] using hb.2) (by simp [depD]; omega)) h h2]
theorem nin_ref {xs ds : List D} {n : Nat} {A : AH} (hA : A[n]? = some (.lst ds)) (h : (datL xs && datL ds) = true) (h2 : (decide (depL xs ≤ 10) && decide (depL ds ≤ 10)) = true) : ninD (.tup xs) (.ref n) A = .ok (.bl (!(ds.any fun z => eqB z (.tup xs)))) A := by
  have hb := h
  have hb2 := h2
  simp only [Bool.and_eq_true, decide_eq_true_eq] at hb hb2
  have e1 : pyOf 12 A (.ref n) = some (pyD (.lst ds)) := by
    show (match A[n]? with
      | some (.lst ds) => (pysOf (pyOf 11 A) ds).map PyData.list
      | _ => none) = _
    rw [hA]
    dsimp only
    rw [pysOf_dat ds 11 hb.2 (by omega)]
    simp [pyD]
  unfold ninD
  rw [inB_lst (y := .ref n) (by rw [seq_ref, hA]) (by simp [itemsD, seq_ref, hA]) (by rw [dct_ref, hA]) e1 h h2]
theorem datL_all : ∀ {ds : List D}, (∀ d ∈ ds, datD d = true) → datL ds = true
  | [], _ => by simp [datL]
  | d :: ds, h => by simp [datL, h d List.mem_cons_self, datL_all fun e he => h e (List.mem_cons_of_mem _ he)]
theorem depL_all {k : Nat} : ∀ {ds : List D}, (∀ d ∈ ds, depD d ≤ k) → depL ds ≤ k
  | [], _ => Nat.zero_le _
  | d :: ds, h => by
    have h1 := h d List.mem_cons_self
    have h2 := depL_all fun e he => h e (List.mem_cons_of_mem _ he)
    simp only [depL]
    omega
end Tg

set_option Elab.async false
set_option linter.all false
set_option maxRecDepth 100000
set_option maxHeartbeats 2000000
/-! TgWord: words of cells and boxes: numbers, keys, gates. -/
namespace Tg
open PySem L2
open SX (S)
/-! ### comprehensions that change nothing, over what is walked in any way -/
section
variable {g : MG} {tt : MT} {te : ME} {mi : Sl → AH → R IT} {vs : List Nat} {fin : List D → AH → R D} {s w : Sl} {A : AH} {it : IT} {ds : List D}
theorem lcG_all (hn : ∀ i, itNext it i A = some ds[i]?) : ∀ (f i : Nat) (ps : List (Bool × D)), i + f = ds.length + 1 → f ≠ 0 → All2 (fun d b => ∃ s1, g d w = some s1 ∧ tt s1 A = .ok b.1 A ∧ (b.1 = true → te s1 A = .ok b.2 A)) (ds.drop i) ps → lcG g tt te it w f i A = .ok ((ps.filter (·.1)).map (·.2)) A
  | 0, _, _, _, h, _ => absurd rfl h
  | f + 1, i, ps, h, _, hp => by
    unfold lcG
    rw [hn]
    cases hd : ds[i]? with
    | none =>
      rw [List.drop_eq_nil_of_le (List.getElem?_eq_none_iff.mp hd)] at hp
      cases hp
      rfl
    | some d =>
      obtain ⟨hi, rfl⟩ := List.getElem?_eq_some_iff.mp hd
      rw [List.drop_eq_getElem_cons hi] at hp
      cases hp with
      | cons h1 h2 =>
        rename_i b bs
        obtain ⟨s1, e1, e2, e3⟩ := h1
        have ih := lcG_all hn f (i + 1) bs (by omega) (by omega) h2
        dsimp only
        rw [e1]
        dsimp only
        rw [e2, R.bindN_ok]
        cases hb : b.1 with
        | true =>
          rw [if_pos rfl, e3 hb, R.bindN_ok, ih, R.bind_ok, List.filter_cons, hb]
          rfl
        | false =>
          rw [if_neg (by simp), ih, List.filter_cons, hb]
          rfl
theorem lc_all {ps : List (Bool × D)} (h0 : mi s A = .ok it A) (hn : ∀ i, itNext it i A = some ds[i]?) (hlen : itLen it A = ds.length) (hl : ds.length < 16777216)
    (hp : All2 (fun d b => ∃ s1, g d (wpD s vs) = some s1 ∧ tt s1 A = .ok b.1 A ∧ (b.1 = true → te s1 A = .ok b.2 A)) ds ps) : mLc mi g tt te vs fin s A = fin ((ps.filter (·.1)).map (·.2)) A := by
  unfold mLc
  rw [h0, R.bind_ok, hlen, if_pos hl, lcG_all hn (ds.length + 1) 0 ps (by omega) (by omega) hp]
  rfl
theorem nx_data : ∀ i, itNext (.data ds) i A = some ds[i]? := fun _ => rfl
theorem nx_ref {n : Nat} (h : A[n]? = some (.lst ds)) : ∀ i, itNext (.ref n) i A = some ds[i]? := fun i => by simp only [itNext, h]
theorem ln_ref {n : Nat} (h : A[n]? = some (.lst ds)) : itLen (.ref n) A = ds.length := by simp only [itLen, h]
theorem it_ref {n : Nat} {m : ME} (h : m s A = .ok (.ref n) A) (hA : A[n]? = some (.lst ds)) : miAny m s A = .ok (.ref n) A := by
  unfold miAny
  rw [h, R.bind_ok]
  simp only [itOf, hA]
end
@[simp] theorem at4 {α : Type} {p q r s t : α} {xs : List α} : atI (p :: q :: r :: s :: t :: xs) 4 = some t := Tg.atI_nat 4
/-! ### words -/
def R16 : List (List Nat) := [[], [115], [108], [108, 115], [104], [104, 115], [104, 108], [104, 108, 115], [103], [103, 115], [103, 108], [103, 108, 115], [103, 104], [103, 104, 115], [103, 104, 108], [103, 104, 108, 115]]
theorem R16_ok : ∀ l ∈ R16, PyData.strOk (S l) = true ∧ l.length ≤ 4 := by decide +kernel
/-- numbers, keys -/
inductive Pl where
  | num (i : Int) | key (b e a : Int) (r : List Nat)
  deriving DecidableEq
inductive Wo where
  | pl (p : Pl) | gate (g : Int) (p : Pl)
  deriving DecidableEq
def Pl.d : Pl → D
  | .num i => .int i
  | .key b e a r => .tup [.str "key", .int b, .int e, .int a, .str (S r)]
def Wo.d : Wo → D
  | .pl p => p.d
  | .gate g p => .tup [.str "gate", .int g, p.d]
inductive Pl.Ok (most : Nat) : Pl → Prop
  | num {i : Int} : -10000 ≤ i → i < 10000 → Pl.Ok most (.num i)
  | key {b e a : Int} {r : List Nat} : 0 ≤ b → b < most → b + 1 ≤ e → e ≤ most → -10000 ≤ a → a < 10000 → r ∈ R16 → Pl.Ok most (.key b e a r)
inductive Wo.Ok (rows most : Nat) : Wo → Prop
  | pl {p : Pl} : p.Ok most → Wo.Ok rows most (.pl p)
  | gate {g : Int} {p : Pl} : 0 ≤ g → g < rows + 1 → p.Ok most → Wo.Ok rows most (.gate g p)
def Wo.isNum : Wo → Bool
  | .pl (.num _) => true
  | _ => false
theorem ok_key : PyData.strOk (Str.ofString "key") = true := by decide +kernel
theorem ok_gate : PyData.strOk (Str.ofString "gate") = true := by decide +kernel
theorem Pl.Ok.dat {most : Nat} {p : Pl} (h : p.Ok most) : datD p.d = true ∧ depD p.d ≤ 1 := by
  cases h with
  | num => simp [Pl.d, datD, depD]
  | key _ _ _ _ _ _ hr => simp [Pl.d, datD, datL, depD, depL, ok_key, (R16_ok _ hr).1]
theorem Wo.Ok.dat {rows most : Nat} {w : Wo} (h : w.Ok rows most) : datD w.d = true ∧ depD w.d ≤ 2 := by
  cases h with
  | pl h => exact ⟨h.dat.1, Nat.le_trans h.dat.2 (by decide)⟩
  | gate _ _ h =>
    have h1 := h.dat.1
    have h2 := h.dat.2
    refine ⟨by simp [Wo.d, datD, datL, ok_gate, h1], ?_⟩
    simp only [Wo.d, depD, depL]
    omega
theorem Pl.d_inj {p q : Pl} (h : p.d = q.d) : p = q := by
  cases p <;> cases q <;> simp [Pl.d] at h ⊢
  all_goals exact h
theorem Wo.d_inj {p q : Wo} (h : p.d = q.d) : p = q := by
  cases p with
  | pl p =>
    cases q with
    | pl q => exact congrArg Wo.pl (Pl.d_inj h)
    | gate g q => cases p <;> simp [Wo.d, Pl.d] at h
  | gate g p =>
    cases q with
    | pl q => cases q <;> simp [Wo.d, Pl.d] at h
    | gate g' q =>
      simp only [Wo.d, D.tup.injEq, List.cons.injEq, D.int.injEq, and_true, true_and] at h
      rw [h.1, Pl.d_inj h.2]
theorem mem_d {w : Wo} {ws : List Wo} : w.d ∈ ws.map Wo.d ↔ w ∈ ws := by
  refine ⟨fun h => ?_, fun h => List.mem_map_of_mem h⟩
  obtain ⟨v, hv, e⟩ := List.mem_map.mp h
  rw [← Wo.d_inj e]
  exact hv
/-- w.d as a tuple's items -/
def Wo.items (w : Wo) : List D := match w.d with
  | .tup ds => ds
  | _ => []
theorem Wo.d_tup {w : Wo} (h : w.isNum = false) : w.d = .tup w.items := by
  cases w with
  | pl p => cases p with
    | num i => cases h
    | key => rfl
  | gate => rfl
theorem Wo.it_dat {rows most : Nat} {w : Wo} (h : w.Ok rows most) (hn : w.isNum = false) : datL w.items = true ∧ depL w.items ≤ 1 := by
  have h1 := h.dat.1
  have h2 := h.dat.2
  rw [Wo.d_tup hn] at h1 h2
  refine ⟨by simpa [datD] using h1, ?_⟩
  simp only [depD] at h2
  omega
theorem dats {rows most : Nat} {ws : List Wo} (h : ∀ w ∈ ws, w.Ok rows most) : datL (ws.map Wo.d) = true ∧ depL (ws.map Wo.d) ≤ 2 :=
  ⟨datL_all fun d hd => by
    obtain ⟨w, hw, rfl⟩ := List.mem_map.mp hd
    exact (h w hw).dat.1, depL_all fun d hd => by
    obtain ⟨w, hw, rfl⟩ := List.mem_map.mp hd
    exact (h w hw).dat.2⟩
theorem any_w {rows most : Nat} {ws : List Wo} {w : Wo} (h : ∀ w ∈ ws, w.Ok rows most) (hw : w.Ok rows most) (hn : w.isNum = false) : ((ws.map Wo.d).any fun z => eqB z (.tup w.items)) = decide (w ∈ ws) := by
  have e := any_mem (x := .tup w.items) (by rw [← Wo.d_tup hn]; exact hw.dat.1) (dats h).1
  rw [← Wo.d_tup hn, mem_d] at e
  rw [← Wo.d_tup hn]
  by_cases q : w ∈ ws
  · rw [e.mpr q, decide_eq_true q]
  · rw [decide_eq_false q]
    cases z : (ws.map Wo.d).any fun z => eqB z w.d with
    | false => rfl
    | true => exact absurd (e.mp z) q
/-- w not in a list, one that lies still -/
theorem nin_w {rows most : Nat} {ws : List Wo} {w : Wo} {A : AH} (h : ∀ w ∈ ws, w.Ok rows most) (hw : w.Ok rows most) (hn : w.isNum = false) : ninD w.d (.lst (ws.map Wo.d)) A = .ok (.bl (!(decide (w ∈ ws)))) A := by
  have a := Wo.it_dat hw hn
  have b := dats h
  rw [Wo.d_tup hn, nin_lst (by rw [a.1, b.1]; rfl) (by simp only [Bool.and_eq_true, decide_eq_true_eq]; omega), any_w h hw hn]
theorem nin_wR {rows most n : Nat} {ws : List Wo} {w : Wo} {A : AH} (hA : A[n]? = some (.lst (ws.map Wo.d))) (h : ∀ w ∈ ws, w.Ok rows most) (hw : w.Ok rows most) (hn : w.isNum = false) : ninD w.d (.ref n) A = .ok (.bl (!(decide (w ∈ ws)))) A := by
  have a := Wo.it_dat hw hn
  have b := dats h
  rw [Wo.d_tup hn, nin_ref hA (by rw [a.1, b.1]; rfl) (by simp only [Bool.and_eq_true, decide_eq_true_eq]; omega), any_w h hw hn]
/-! ### what is come to -/
def hasG (r : List Nat) : Bool := decide (103 ∈ r) && decide (104 ∈ r)
/-- the words that a word leads to -/
def succs (gates : Bool) (cells : List Wo) : Wo → List Wo
  | .pl (.num _) => []
  | .pl (.key b e _ r) => if hasG r then (cells.drop b.toNat).take (e.toNat - b.toNat) else []
  | .gate _ p => if gates then [.pl p] else []
inductive Reach (gates : Bool) (cells boxes : List Wo) : Wo → Prop
  | box {w : Wo} : w ∈ boxes → w.isNum = false → Reach gates cells boxes w
  | step {v w : Wo} : Reach gates cells boxes v → w ∈ succs gates cells v → w.isNum = false → Reach gates cells boxes w
def inner : Wo → List Wo
  | .gate _ p => [.pl p]
  | _ => []
def univ (cells boxes : List Wo) : List Wo := boxes ++ cells ++ (boxes.flatMap inner ++ cells.flatMap inner)
theorem Reach.num {gates : Bool} {cells boxes : List Wo} {w : Wo} (h : Reach gates cells boxes w) : w.isNum = false := by
  cases h <;> assumption
theorem mem_inner {v w : Wo} (h : w ∈ inner v) : ∃ p, w = .pl p := by
  cases v with
  | pl p => cases h
  | gate g p => exact ⟨p, List.mem_singleton.mp h⟩
theorem succ_univ {gates : Bool} {cells boxes : List Wo} {v w : Wo} (hv : v ∈ univ cells boxes) (h : w ∈ succs gates cells v) : w ∈ univ cells boxes := by
  unfold univ at hv ⊢
  cases v with
  | pl p =>
    cases p with
    | num i => cases h
    | key b e a r =>
      simp only [succs] at h
      split at h
      · have := List.mem_of_mem_drop (List.mem_of_mem_take h)
        exact List.mem_append_left _ (List.mem_append_right _ this)
      · cases h
  | gate g p =>
    simp only [succs] at h
    split at h
    · have e := List.mem_singleton.mp h
      have hi : w ∈ inner (.gate g p) := by rw [e]; exact List.mem_singleton.mpr rfl
      rcases List.mem_append.mp hv with hv | hv
      · rcases List.mem_append.mp hv with hv | hv
        · exact List.mem_append_right _ (List.mem_append_left _ (List.mem_flatMap.mpr ⟨_, hv, hi⟩))
        · exact List.mem_append_right _ (List.mem_append_right _ (List.mem_flatMap.mpr ⟨_, hv, hi⟩))
      · rcases List.mem_append.mp hv with hv | hv
        · obtain ⟨z, _, hz⟩ := List.mem_flatMap.mp hv
          obtain ⟨q, e2⟩ := mem_inner hz
          cases e2
        · obtain ⟨z, _, hz⟩ := List.mem_flatMap.mp hv
          obtain ⟨q, e2⟩ := mem_inner hz
          cases e2
    · cases h
theorem Reach.univ {gates : Bool} {cells boxes : List Wo} {w : Wo} (h : Reach gates cells boxes w) : w ∈ univ cells boxes := by
  induction h with
  | box h _ => exact List.mem_append_left _ (List.mem_append_left _ h)
  | step _ h _ ih => exact succ_univ ih h
theorem inner_len : ∀ {l : List Wo}, (l.flatMap inner).length ≤ l.length
  | [] => Nat.le_refl _
  | w :: l => by
    have := inner_len (l := l)
    have h1 : (inner w).length ≤ 1 := by cases w <;> simp [inner]
    simp only [List.flatMap_cons, List.length_append, List.length_cons]
    omega
theorem univ_len {cells boxes : List Wo} : (univ cells boxes).length ≤ 2 * (cells.length + boxes.length) := by
  have h1 := inner_len (l := boxes)
  have h2 := inner_len (l := cells)
  simp only [univ, List.length_append]
  omega
theorem succ_ok {gates : Bool} {cells : List Wo} {rows most : Nat} {v w : Wo} (hc : ∀ w ∈ cells, w.Ok rows most) (hv : v.Ok rows most) (h : w ∈ succs gates cells v) : w.Ok rows most := by
  cases hv with
  | pl hp =>
    cases hp with
    | num => cases h
    | key =>
      simp only [succs] at h
      split at h
      · exact hc _ (List.mem_of_mem_drop (List.mem_of_mem_take h))
      · cases h
  | gate _ _ hp =>
    simp only [succs] at h
    split at h
    · rw [List.mem_singleton.mp h]
      exact .pl hp
    · cases h
/-- pigeons -/
theorem nodup_le {α : Type} [DecidableEq α] : ∀ {l u : List α}, l.Nodup → (∀ x ∈ l, x ∈ u) → l.length ≤ u.length
  | [], _, _, _ => Nat.zero_le _
  | x :: l, u, hn, h => by
    have hn' := List.nodup_cons.mp hn
    have hx := h x List.mem_cons_self
    have ih := nodup_le (l := l) (u := u.erase x) hn'.2 fun y hy => by
      refine (List.mem_erase_of_ne fun e => ?_).mpr (h y (List.mem_cons_of_mem _ hy))
      exact hn'.1 (e ▸ hy)
    rw [List.length_erase_of_mem hx] at ih
    have : 0 < u.length := List.length_pos_of_mem hx
    simp only [List.length_cons]
    omega
/-- does a word's key touch a cell by a letter? -/
def touch (c : Int) (l : Nat) : Wo → Bool
  | .pl (.key b e _ r) => decide (b ≤ c) && (decide (c < e) && decide (l ∈ r))
  | _ => false
/-- the letters of a cell -/
def lettersOf (ws : List Wo) (c : Int) : List Nat := (if ws.any (touch c 103) then [103] else []) ++ (if ws.any (touch c 115) then [115] else [])
theorem letters_same {ws vs : List Wo} (h : ∀ w : Wo, (∃ b e a r, w = .pl (.key b e a r)) → (w ∈ ws ↔ w ∈ vs)) (c : Int) : lettersOf ws c = lettersOf vs c := by
  have e : ∀ l, ws.any (touch c l) = vs.any (touch c l) := fun l => by
    rw [Bool.eq_iff_iff, List.any_eq_true, List.any_eq_true]
    have key : ∀ w : Wo, touch c l w = true → ∃ b e a r, w = .pl (.key b e a r) := fun w hw => by
      cases w with
      | pl p => cases p with
        | num => cases hw
        | key b e a r => exact ⟨b, e, a, r, rfl⟩
      | gate => cases hw
    exact ⟨fun ⟨w, h1, h2⟩ => ⟨w, (h w (key w h2)).mp h1, h2⟩, fun ⟨w, h1, h2⟩ => ⟨w, (h w (key w h2)).mpr h1, h2⟩⟩
  unfold lettersOf
  rw [e, e]
end Tg

set_option Elab.async false
set_option linter.all false
set_option maxRecDepth 100000
set_option maxHeartbeats 4000000
/-! TgSrt: sorted(a dict whose keys are numbers), dict(a list of pairs), a tuple many or few times, x, o[i] = e. -/
namespace Tg
open PySem PySem.Spec PyProof.Rows L2
/-! ### sorted -/
def rSortK : List V → Hp → VK → Prop := fun xs H Q =>
  ∃ (a : Addr) (kvs : List (Key × V)) (ks : List Int), xs = [.ref a] ∧ Rd H a (.dK kvs) ∧ kvs.map (·.1) = ks.map Sum.inl ∧ ks.length ≤ 1000 ∧
    ∀ (ys : List Int) (p : Addr), ys.Perm ks → ys.Pairwise (· ≤ ·) → H p = none → Q (.ref p) (upd H p (.lst (ys.map V.int)))
theorem oSrtK {X : Cx} (hcalm : X.calm = true) : CallR X (.builtin "sorted") rSortK := by
  intro pins s σ H xs us Q I r q
  obtain ⟨a, kvs, ks, rfl, hd, hks, hmany, q⟩ := q
  obtain ⟨u, rfl, rx⟩ := vals1 r
  cases rx
  obtain ⟨z, lo, vs, rel, dd⟩ := dk_rd I.hok hd
  obtain ⟨ep, hat⟩ := dd.dictAt
  have keys : vs.map (·.1) = ks.map Sum.inl := rel.keys.symm.trans hks
  have len : vs.length = ks.length := by simpa using congrArg List.length keys
  refine Calls.call_function_entry kind_sorted plain_sorted entry_sorted (args_sorted1 _) ?_
  unfold Builtin.«sorted»
  refine wpAny_bind (m := checkCount "sorted" 1 1 _) (wpAny_pure (wpAny_bind ?_))
  refine PySem.W.kdu_collect (A := X.A.in1) (PySem.W.kdl_dict (knd := mixKind X.prog X.w) (kvs := vs) (ep := ep) lo) (I.ok.hd hcalm) hat (by rw [len, sizeLine_eq]; omega) fun h' tk acc kept seen => ?_
  have alen : acc.toList.length = ks.length := by rw [Array.length_toList, seen.1, len]
  have areI : IntsAre acc.toList ks := L2.ints_each alen fun j v e => by
    obtain ⟨k, x, e1, e2⟩ := seen.2 j v (by rw [← Array.getElem?_toList]; exact e)
    have e3 : (vs.map (·.1))[j]? = some k := by rw [List.getElem?_map, e1]; rfl
    rw [keys, List.getElem?_map] at e3
    obtain ⟨y, e4, e5⟩ := Option.map_eq_some_iff.mp e3
    subst e5
    rcases keyIs_shape (show keyIs (Sum.inl y) v = true from e2) with ⟨i, t, ek, ev⟩ | ⟨i, t, ek, ev⟩
    · cases ek
      exact ⟨y, t, e4, ev⟩
    · cases ek
  have I1 : Inv X pins σ H { s with heap := h', toks := tk } := I.kept kept
  have az : acc.toList.length ≤ sizeLine := by rw [alen, sizeLine_eq]; omega
  refine wpAny_bind (wpAny_newList ?_ az)
  have new : (h'.push (seqObj "list" acc.toList.toArray 0)).get? h'.objs.size = some (seqObj "list" acc.toList.toArray 0) := Heap.get?_push_size _ rfl
  show wpAny _ _ _ _ _ { s with heap := h'.push (seqObj "list" acc.toList.toArray 0), toks := tk }
  refine wpAny_bind (wpAny_holding (wpAny_call_entry slot_list_sort ⟨_, new, rfl⟩ entry_list_sort
    (SrtO.list_sort_ord SrtO.swo_int (s := { s with heap := h'.push (seqObj "list" acc.toList.toArray 0), toks := tk }) new az (fun h2 => SrtO.ints_sortable areI h2) fun out g1 g2 => ⟨_, rfl, ?_⟩) (args_list_sort _)))
  obtain ⟨k1, k2, k3⟩ := SrtO.ints_out areI g1 g2
  obtain ⟨e', there⟩ := PyProof.Rows.sortedHeap_at (vs := acc.toList) (out := out.toArray) new
  have olen : ((out.map SrtO.iv).map V.int).length ≤ sizeLine := by
    rw [List.length_map, k2.length_eq, sizeLine_eq]
    exact Nat.le_trans hmany (by decide)
  refine wpAny_pure ⟨_, rfl, .ref h'.objs.size, upd H h'.objs.size (.lst ((out.map SrtO.iv).map V.int)), I1.laid (t' := tk) (fun b u e => ?_) (Nat.le_refl _)
    (show ObjOk X.prog X.w _ _ _ (.lst ((out.map SrtO.iv).map V.int)) from ⟨olen, out, e', vals_of_ints k1, there⟩), rfl, q _ _ k2 k3 (I1.hok.fresh (Nat.le_refl _))⟩
  have lt : b < h'.objs.size := Heap.lt_size e
  rw [PyProof.Rows.sortedHeap_old (Nat.ne_of_lt lt) (by rw [size_push']; exact Nat.lt_succ_of_lt lt)]
  exact Heap.get?_push_of_some _ e
def keysI : List (Key × D) → Option (List Int)
  | [] => some []
  | (.inl i, _) :: r => (keysI r).map (i :: ·)
  | _ => none
def insI (x : Int) : List Int → List Int
  | [] => [x]
  | y :: l => if x ≤ y then x :: y :: l else y :: insI x l
def srtI : List Int → List Int
  | [] => []
  | x :: l => insI x (srtI l)
theorem insI_perm (x : Int) : ∀ l, (insI x l).Perm (x :: l)
  | [] => .refl _
  | y :: l => by
    unfold insI
    split
    · exact .refl _
    · exact ((insI_perm x l).cons y).trans (.swap x y l)
theorem srtI_perm : ∀ l, (srtI l).Perm l
  | [] => .refl _
  | x :: l => (insI_perm x _).trans ((srtI_perm l).cons x)
theorem insI_sorted (x : Int) : ∀ l, l.Pairwise (· ≤ ·) → (insI x l).Pairwise (· ≤ ·)
  | [], _ => by simp [insI]
  | y :: l, h => by
    unfold insI
    obtain ⟨h1, h2⟩ := List.pairwise_cons.mp h
    split
    · rename_i q
      exact List.pairwise_cons.mpr ⟨fun z hz => by
        rcases List.mem_cons.mp hz with e | e
        · omega
        · have := h1 z e
          omega, h⟩
    · rename_i q
      refine List.pairwise_cons.mpr ⟨fun z hz => ?_, insI_sorted x l h2⟩
      rcases List.mem_cons.mp ((insI_perm x l).mem_iff.mp hz) with e | e
      · omega
      · exact h1 z e
theorem srtI_sorted : ∀ l, (srtI l).Pairwise (· ≤ ·)
  | [] => .nil
  | x :: l => insI_sorted x _ (srtI_sorted l)
theorem sorted_one : ∀ {a b : List Int}, a.Pairwise (· ≤ ·) → b.Pairwise (· ≤ ·) → a.Perm b → a = b
  | [], b, _, _, h => h.nil_eq
  | x :: a, b, ha, hb, h => by
    cases b with
    | nil => exact h.eq_nil
    | cons y b =>
      obtain ⟨a1, a2⟩ := List.pairwise_cons.mp ha
      obtain ⟨b1, b2⟩ := List.pairwise_cons.mp hb
      have hx : x ≤ y := by
        rcases List.mem_cons.mp (h.mem_iff.mpr (List.mem_cons_self (a := y) (l := b))) with e | e
        · omega
        · exact a1 y e
      have hy : y ≤ x := by
        rcases List.mem_cons.mp (h.mem_iff.mp (List.mem_cons_self (a := x) (l := a))) with e | e
        · omega
        · exact b1 x e
      have e : x = y := by omega
      subst e
      rw [sorted_one a2 b2 h.cons_inv]
def sortKD : List D → AH → R D
  | [d], A => match (dctD A d).bind keysI with
    | some ks => if ks.length ≤ 1000 then .ok (.lst ((srtI ks).map D.int)) A else .bad
    | none => .bad
  | _, _ => .bad
section
variable {K : PySem.W.Frag} {mg : Str → Option Value}
theorem keysI_at : ∀ {kvs : List (Key × D)} {ks : List Int}, keysI kvs = some ks → kvs.map (·.1) = ks.map Sum.inl
  | [], ks, e => by
    cases (show some [] = some ks from e)
    rfl
  | (.inl i, d) :: r, ks, e => by
    obtain ⟨l, e1, rfl⟩ := Option.map_eq_some_iff.mp (show (keysI r).map (i :: ·) = some ks from e)
    rw [List.map_cons, List.map_cons, keysI_at e1]
  | (.inr _, d) :: r, ks, e => nomatch (show (none : Option (List Int)) = some ks from e)
theorem reps_ns {W : Wd} : ∀ ns : List Int, Reps K W (ns.map D.int) (ns.map V.int)
  | [] => rfl
  | n :: ns => ⟨_, _, rfl, rfl, reps_ns ns⟩
theorem oSrtKS : CallS K mg rSortK sortKD := fun W A H E Q ds xs k r h => by
  unfold sortKD at h
  split at h
  · rename_i d
    obtain ⟨v, rfl, h1⟩ := reps1 r
    split at h
    · rename_i ks e1
      obtain ⟨kvs, e2, e3⟩ := Option.bind_eq_some_iff.mp e1
      obtain ⟨a, vs, rfl, h2, h3⟩ := dctD_at k h1 e2
      split at h
      · rename_i hz
        refine ⟨a, vs, ks, rfl, .inl h2, h3.1.trans (keysI_at e3), hz, fun ys p g1 g2 hp => ?_⟩
        have e : srtI ks = ys := sorted_one (srtI_sorted ks) g2 ((srtI_perm ks).trans g1.symm)
        rw [← e]
        exact post_lst k h (reps_ns _) hp
      · exact h.elim
    · exact h.elim
  · exact h.elim
/-! ### dict(pairs) -/
def dictPD : List D → AH → R D
  | [d], A => match (seqL A d).bind pairsD with
    | some kvs => .ok (.dct ((mergeD [] kvs).map (·.1)) ((mergeD [] kvs).map (·.2))) A
    | none => .bad
  | _, _ => .bad
def rDictP (K : PySem.W.Frag) : List V → Hp → VK → Prop := fun xs H Q =>
  ∃ (a : Addr) (ps : List Addr) (kvs : List (Key × V)), xs = [.ref a] ∧ SqL K H a (ps.map V.ref) ∧ Paired (fun p kv => SqT K H p [kV kv.1, kv.2]) ps kvs ∧ ∀ p, H p = none → Q (.ref p) (upd H p (.dK (mergeK [] kvs)))
theorem oDictP {X : Cx} (hcalm : X.calm = true) : CallR X (.type "dict") (rDictP X.K) := call_dictP hcalm
theorem oDictPS : CallS K mg (rDictP K) dictPD := fun W A H E Q ds xs k r h => by
  unfold dictPD at h
  split at h
  · obtain ⟨v, rfl, h1⟩ := reps1 r
    split at h
    · rename_i kvs e1
      obtain ⟨es, e2, e3⟩ := Option.bind_eq_some_iff.mp e1
      obtain ⟨a, ys, rfl, h2, h3⟩ := seqL_at k h1 e2
      obtain ⟨qs, kvs', rfl, g1, g2⟩ := pairsD_at k h3 e3
      refine ⟨a, qs, kvs', rfl, h2, g1, fun p hp => ?_⟩
      have kr : KVR K W (mergeD [] kvs) (mergeK [] kvs') := KVR.merge g2 ⟨rfl, rfl⟩
      obtain ⟨k1, x1⟩ := k.frozen hp (.dK (mergeK [] kvs'))
      exact h _ _ _ x1 k1 ⟨p, mergeK [] kvs', rfl, upd_same, kr.1, kr.2.le x1.le⟩
    · exact h.elim
  · exact h.elim
end
/-! ### a tuple some times -/
theorem tup_mul1 (l : Addr) (items : Array Value) (n : Nat) (dd : Option Addr) (sl : Array (Option Value)) (u : Tok) :
    Meets (Builtin.«tuple.__mul__» ⟨[.ref l, .int 1 u], []⟩) (fun _ R s => s.heap.get? l = some { cls := .type "tuple", dict := dd, data := .seq items n, slots := sl } ∧ R (.ok (.ret (Value.ref l))) s) :=
  .of_wp fun prog w A R s h => by
    obtain ⟨hp, g, d, tk, os⟩ := s
    obtain ⟨hl, h⟩ := h
    have f1 := AutoSeq1.idx_int
    wp_walk using wpAny_loadPart' hl
    exact ⟨_, rfl, h⟩
theorem tup_mul0 (l : Addr) (items : Array Value) (n : Nat) (dd : Option Addr) (sl : Array (Option Value)) (x : Int) (u : Tok) (c0 : (decide (x < -(2 ^ 63)) || decide (x ≥ 2 ^ 63)) = false) (c1 : (items.isEmpty || x == 1) = false) (c2 : (decide (x ≤ 0) || items.isEmpty) = true) :
    Meets (Builtin.«tuple.__mul__» ⟨[.ref l, .int x u], []⟩) (fun _ R s => s.heap.get? l = some { cls := .type "tuple", dict := dd, data := .seq items n, slots := sl } ∧
      R (.ok (.ret (Value.ref s.heap.objs.size))) { s with heap := s.heap.push { cls := Value.type "tuple", data := Data.seq #[] }, toks := s.toks }) :=
  .of_wp fun prog w A R s h => by
    obtain ⟨hp, g, d, tk, os⟩ := s
    obtain ⟨hl, h⟩ := h
    have f1 := AutoSeq1.idx_int
    wp_walk using wpAny_loadPart' hl
    repeat (first
      | (refine wpAny_ite_false (decide_eq_false (by rw [c0]; exact Bool.false_ne_true)) ?_; wp_walk using wpAny_loadPart' hl)
      | (refine wpAny_ite_false (decide_eq_false (by rw [c1]; exact Bool.false_ne_true)) ?_; wp_walk using wpAny_loadPart' hl)
      | (refine wpAny_ite_true (decide_eq_true (by rw [c2])) ?_; wp_walk using wpAny_loadPart' hl))
    exact ⟨_, rfl, h⟩
def rMulT (K : PySem.W.Frag) : R2 := fun x y H Q => rRepT K x y H Q ∨ ∃ l k xs, x = .ref l ∧ y = .int k ∧ SqT K H l xs ∧ xs ≠ [] ∧ -1000 ≤ k ∧ k ≤ 1 ∧
  ((k = 1 ∧ Q (.ref l) H) ∨ (k ≤ 0 ∧ ∀ p, H p = none → Q (.ref p) (upd H p (.tup []))))
theorem oMulT {X : Cx} : OpR X (binaryOp .Mult) (rMulT X.K) := by
  refine op_repT.or ?_
  intro pins s σ H x y v u Q I rx ry h
  obtain ⟨l, k, xs, rfl, rfl, hT, hne, h1, h2, q⟩ := h
  cases rx
  obtain ⟨t, rfl⟩ := ry
  obtain ⟨its, r, ⟨⟨cls, dd, data, sl⟩, ho, hc, n, hd⟩, hs⟩ := I.tuple hT
  simp only at hc hd
  subst hc hd
  have hi : its.toArray.isEmpty = false := by
    cases its with
    | nil => exact absurd (List.eq_nil_of_length_eq_zero r.length) hne
    | cons a b => rfl
  rcases q with ⟨rfl, q⟩ | ⟨hk, q⟩
  · exact wpAny_binaryOp_repeat_ref (T := "tuple") (U := "int") (by decide) ⟨_, ho, rfl⟩ (fun s' => typeIs_int s' 1 t) noFill_tuple_mul F.fills_int_mul F.slot_int_rmul repeat_tuple F.slot_int_index.lookup
      (call_meets F.slot_int_rmul (typeIs_int s 1 t) F.entry_int_rmul (F.args_int_rmul_2 _ _) (int_rmul_tuple 1 t l its.toArray n dd sl)
        ⟨ho, rfl, ⟨_, ho, rfl⟩, call_meets F.slot_tuple_mul ⟨_, ho, rfl⟩ F.entry_tuple_mul (F.args_tuple_mul_2 _ _) (tup_mul1 l its.toArray n dd sl t) ⟨ho, ⟨.ref l, H, I, rfl, q⟩⟩⟩)
  · have c0 : (decide (k < -(2 ^ 63)) || decide (k ≥ 2 ^ 63)) = false := by
      rw [decide_eq_false (by omega), decide_eq_false (by omega)]
      rfl
    have c1 : (its.toArray.isEmpty || k == 1) = false := by
      rw [hi, Bool.false_or]
      exact beq_eq_false_iff_ne.mpr (by omega)
    have c2 : (decide (k ≤ 0) || its.toArray.isEmpty) = true := by
      rw [decide_eq_true hk]
      rfl
    refine wpAny_binaryOp_repeat_ref (T := "tuple") (U := "int") (by decide) ⟨_, ho, rfl⟩ (fun s' => typeIs_int s' k t) noFill_tuple_mul F.fills_int_mul F.slot_int_rmul repeat_tuple F.slot_int_index.lookup
      (call_meets F.slot_int_rmul (typeIs_int s k t) F.entry_int_rmul (F.args_int_rmul_2 _ _) (int_rmul_tuple k t l its.toArray n dd sl)
        ⟨ho, rfl, ⟨_, ho, rfl⟩, call_meets F.slot_tuple_mul ⟨_, ho, rfl⟩ F.entry_tuple_mul (F.args_tuple_mul_2 _ _) (tup_mul0 l its.toArray n dd sl k t c0 c1 c2) ⟨ho, ?_⟩⟩)
    exact ⟨.ref s.heap.objs.size, _, I.laid (t' := s.toks) (o := .tup []) (fun b ob z => Heap.get?_push_of_some _ z) (Nat.le_refl _) ⟨Nat.zero_le _, [], .nil, IsTup.new _ _⟩, rfl, q _ (I.hok.fresh (Nat.le_refl _))⟩
def mulT : D → D → AH → R D
  | .tup ds, .int k, A => if ds ≠ [] ∧ -1000 ≤ k ∧ k ≤ 1000 ∧ ds.length ≤ 1000 then .ok (.tup (repD k.toNat ds)) A else .bad
  | _, _, _ => .bad
theorem oMulTS {K : PySem.W.Frag} {mg : Str → Option Value} : OpS K mg (rMulT K) mulT := fun W A H E Q d e x y k rx ry h => by
  unfold mulT at h
  split at h
  · rename_i ds i
    split at h
    · rename_i z
      obtain ⟨z1, z2, z3, z4⟩ := z
      obtain ⟨a, xs, ex, sx, r1⟩ := tup_at k rx
      have ne : xs ≠ [] := fun q => z1 (by
        subst q
        exact List.length_eq_zero_iff.mp r1.length.symm)
      by_cases h2 : 2 ≤ i
      · exact .inl ⟨a, _, xs, ex, ry, sx, ne, h2, z3, by rw [r1.length]; exact z4, fun p hp => post_tup k h (r1.rep _) hp⟩
      · refine .inr ⟨a, _, xs, ex, ry, sx, ne, z2, by omega, ?_⟩
        by_cases h1 : i = 1
        · subst h1
          refine .inl ⟨rfl, ?_⟩
          have e : repD (1 : Int).toNat ds = ds := by
            show (List.replicate 1 ds).flatten = ds
            simp
          rw [e] at h
          rw [← ex]
          exact h.ok_at k rx
        · refine .inr ⟨by omega, fun p hp => ?_⟩
          have e : repD i.toNat ds = [] := by
            rw [show i.toNat = 0 by omega]
            rfl
          rw [e] at h
          exact post_tup k h rfl hp
    · exact h.elim
  · exact h.elim
/-! ### x, o[i] = e -/
theorem stSub_at {K : PySem.W.Frag} {mg : Str → Option Value} {W : Wd} {A A4 : AH} {H : Hp} {x y d : D} {u w v : V} {Q : Hp → Prop} (k : Ok K mg W A H) (ro : Rep K W x u) (ri : Rep K W y w) (rd : Rep K W d v) (e : stSub x y d A = some A4)
    (q : ∀ H4, Ext W H W H4 → Ok K mg W A4 H4 → Q H4) : rSetU u w v H Q := by
  unfold stSub at e
  split at e
  · obtain ⟨a, rfl, ha'⟩ := ro
    split at e
    · rename_i ds q2
      split at e
      · rename_i kx
        split at e
        · rename_i jx q4
          cases e
          obtain ⟨xs, hx, rr⟩ := k.lookL ha' q2
          obtain ⟨k4, e4⟩ := k.write ha' (u := .lst (ds.set jx d)) (o := .lst (xs.set jx v)) (obl (rr.set jx rd))
          exact .inl ⟨a, xs, kx, jx, rfl, ri, hx, by rw [rr.length]; exact q4, q _ e4 k4⟩
        · cases e
      · cases e
    · rename_i kvs q2
      split at e
      · rename_i kx q3
        split at e
        · rename_i q4
          cases e
          obtain ⟨vs, hx, hk, rr⟩ := k.obj _ a _ ha' q2
          have kr : KVR K W kvs vs := ⟨hk, rr⟩
          obtain ⟨k4, e4⟩ := k.write ha' (u := .dct (ptK kvs kx d)) (o := .dK (putK vs kx v)) (obd (kr.put rd))
          refine .inr ⟨a, _, rfl, ?_, q _ e4 k4⟩
          rw [keyD_at ri q3]
          exact .k hx (by rw [sizeLine_eq, kr.len]; exact q4)
        · cases e
      · cases e
    · cases e
  · cases e
def mAsgTS (i : Nat) (me mo mi : ME) : MS := fun s A => (me s A).thenS s fun d A1 => match d with
  | .tup [x, y] => (mo (s.set i (some x)) A1).thenS (s.set i (some x)) fun o A2 => (mi (s.set i (some x)) A2).thenS (s.set i (some x)) fun j A3 => match stSub o j y A3 with
    | some A4 => .nx (s.set i (some x)) A4
    | none => .bad
  | _ => .bad
theorem sasgTS {X : Cx} {Wx : WX} {i : Nat} {x : Str} {o j e : Expr} {to ti te : TE} {mo mi me : ME} {px ps pt pos : Pos} {kt kk : Nat} (hr : Room kk X.A) (hc : X.calm = true) (hN : X.N.Nodup)
    (h : SE X Wx e te me) (ho : SE X Wx o to mo) (hj : SE X Wx j ti mi)
    (hi : X.N[i]? = some x := by rfl) (hx : Loc X.env.scope x := by first | exact Or.inl rfl | exact Or.inr rfl) (hf : X.fn x = true ∨ X.env.scope.names.lookup x = some .local := by first | exact .inl rfl | exact .inr rfl | assumption)
    (ha : ∀ v, assign (.Subscript o j ps) X.env v = (do
      let ov ← holding [v] (eval o X.env)
      let iv ← holding [v, ov] (eval j X.env)
      standAt ps
      holding [v, ov, iv] (setItem ov iv v)
      release [v, ov, iv] []) := by intro _; rfl)
    (h1 : (assignEach [.Name x px, .Subscript o j ps] X.env).map (·.2) = assign (.Name x px) X.env :: (assignEach [.Subscript o j ps] X.env).map (·.2) := by rfl)
    (h2 : (assignEach [.Subscript o j ps] X.env).map (·.2) = assign (.Subscript o j ps) X.env :: (assignEach [] X.env).map (·.2) := by rfl)
    (hn : (assignEach [.Name x px, .Subscript o j ps] X.env).length = 2 := by rfl) (hst : (assignEach [.Name x px, .Subscript o j ps] X.env).findIdx? (·.1) = none := by rfl)
    (hs : swapsWithSole [.Tuple [.Name x px, .Subscript o j ps] kt pt] e pos.line X.env = pure false := by rfl) (hw : swappedStores [.Tuple [.Name x px, .Subscript o j ps] kt pt] e X.env = pure none := by rfl)
    (h3 : (assignEach [.Tuple [.Name x px, .Subscript o j ps] kt pt] X.env).map (·.2) = [assign (.Tuple [.Name x px, .Subscript o j ps] kt pt) X.env] := by rfl) :
    SS X Wx (.Assign [.Tuple [.Name x px, .Subscript o j ps] kt pt] e pos) (tAsg te (gTup X.K 2 (gCons (gName i) (gCons (gSub to ti rSetU) gNil)))) (mAsgTS i me mo mi) :=
  ⟨ps_asg h.pe (pg_tup hc (pgs_cons (pg_name hN hi hx hf) (pgs_cons (pg_sub ho.pe hj.pe (set_any hr) ha) pgs_nil h2) h1) hn hst) hs hw h3, fun W σ s A H De k sr z => h.sim W σ s A H _ k sr (PostS.bind (rel := Rep X.K) sr z fun d A1 v W1 H1 e1 k1 r1 z1 => by
    split at z1
    · rename_i dx dy
      obtain ⟨a, xs, rfl, sx, rr⟩ := tup_at k1 r1
      obtain ⟨vx, vy, rfl, rx, ry⟩ := reps2 rr
      have sr1 := (sr.le e1.le).set i rx
      refine ⟨a, _, rfl, sx, rfl, vx, _, rfl, vy, _, rfl, ?_⟩
      exact ho.sim W1 _ _ A1 H1 _ k1 sr1 (PostS.bind (rel := Rep X.K) sr1 z1 fun xo A2 u W2 H2 e2 k2 r2 z2 =>
        hj.sim W2 _ _ A2 H2 _ k2 (sr1.le e2.le) (PostS.bind (rel := Rep X.K) (sr1.le e2.le) z2 fun yj A3 w W3 H3 e3 k3 r3 z3 => by
          split at z3
          · rename_i A4 q
            exact stSub_at k3 (r2.le e3.le) r3 (ry.le (e2.trans e3).le) q fun H4 e4 k4 => ⟨rfl, z3 _ _ _ e4 k4 (sr1.le (e2.trans e3).le)⟩
          · exact z3.elim))
    · exact z1.elim)⟩
end Tg

set_option Elab.async false
set_option linter.all false
set_option maxRecDepth 100000
set_option maxHeartbeats 2000000
/-! TgRef: loops and comprehensions over what is walked in any way, while the heap changes. -/
namespace Tg
open PySem L2
section
variable {g : MG} {b : MS} {mi : Sl → AH → R IT} {it : IT} {ds : List D}
theorem forG_or (I : Nat → Sl → AH → Prop) (Q : D → AH → Prop) (hn : ∀ j s A, I j s A → itNext it j A = some ds[j]?)
    (h : ∀ j d s A, ds[j]? = some d → I j s A → ∃ s1, g d s = some s1 ∧ ((∃ s2 A2, b s1 A = .nx s2 A2 ∧ I (j + 1) s2 A2) ∨ ∃ x A2, b s1 A = .rt x A2 ∧ Q x A2)) :
    ∀ (f k : Nat) (s : Sl) (A : AH), I k s A → k + f = ds.length + 1 → f ≠ 0 → (∃ s' A', forG g b it f k s A = .nx s' A' ∧ I ds.length s' A') ∨ ∃ x A', forG g b it f k s A = .rt x A' ∧ Q x A'
  | 0, _, _, _, _, _, h => absurd rfl h
  | f + 1, k, s, A, hI, hf, _ => by
    have e0 := hn k s A hI
    cases hd : ds[k]? with
    | none =>
      have hk : k = ds.length := by
        have := List.getElem?_eq_none_iff.mp hd
        omega
      subst hk
      refine .inl ⟨s, A, ?_, hI⟩
      unfold forG
      rw [e0, hd]
    | some d =>
      have hk := (List.getElem?_eq_some_iff.mp hd).1
      obtain ⟨s1, h1, h2⟩ := h k d s A hd hI
      rcases h2 with ⟨s2, A2, h2, h3⟩ | ⟨x, A2, h2, h3⟩
      · have e1 : forG g b it (f + 1) k s A = forG g b it f (k + 1) s2 A2 := by
          conv => lhs; unfold forG
          rw [e0, hd]
          dsimp only
          rw [h1]
          dsimp only
          rw [h2]
        rw [e1]
        exact forG_or I Q hn h f (k + 1) s2 A2 h3 (by omega) (by omega)
      · refine .inr ⟨x, A2, ?_, h3⟩
        unfold forG
        rw [e0, hd]
        dsimp only
        rw [h1]
        dsimp only
        rw [h2]
theorem mFor_or {s : Sl} {A A1 : AH} (I : Nat → Sl → AH → Prop) (Q : D → AH → Prop) (h0 : mi s A = .ok it A1) (hl : itLen it A1 = ds.length) (hI : I 0 s A1) (hn : ∀ j s A, I j s A → itNext it j A = some ds[j]?)
    (h : ∀ j d s A, ds[j]? = some d → I j s A → ∃ s1, g d s = some s1 ∧ ((∃ s2 A2, b s1 A = .nx s2 A2 ∧ I (j + 1) s2 A2) ∨ ∃ x A2, b s1 A = .rt x A2 ∧ Q x A2)) :
    (∃ s' A', mFor mi g b s A = .nx s' A' ∧ I ds.length s' A') ∨ ∃ x A', mFor mi g b s A = .rt x A' ∧ Q x A' := by
  have e : mFor mi g b s A = forG g b it (ds.length + 1) 0 s A1 := by
    unfold mFor
    rw [h0]
    show forG g b it (itLen it A1 + 1) 0 s A1 = _
    rw [hl]
  rw [e]
  exact forG_or I Q hn h _ 0 s A1 hI (Nat.zero_add _) (Nat.succ_ne_zero _)
theorem mFor_at {s : Sl} {A A1 : AH} (I : Nat → Sl → AH → Prop) (h0 : mi s A = .ok it A1) (hl : itLen it A1 = ds.length) (hI : I 0 s A1) (hn : ∀ j s A, I j s A → itNext it j A = some ds[j]?)
    (h : ∀ j d s A, ds[j]? = some d → I j s A → ∃ s1 s2 A2, g d s = some s1 ∧ b s1 A = .nx s2 A2 ∧ I (j + 1) s2 A2) : ∃ s' A', mFor mi g b s A = .nx s' A' ∧ I ds.length s' A' := by
  rcases mFor_or (g := g) (b := b) I (fun _ _ => False) h0 hl hI hn (fun j d s A hd hI => by
    obtain ⟨s1, s2, A2, e1, e2, e3⟩ := h j d s A hd hI
    exact ⟨s1, e1, .inl ⟨s2, A2, e2, e3⟩⟩) with h | ⟨_, _, _, h⟩
  · exact h
  · exact h.elim
end
section
variable {g : MG} {tt : MT} {te : ME} {mi : Sl → AH → R IT} {vs : List Nat} {fin : List D → AH → R D} {s w : Sl} {A A1 : AH} {it : IT} {ds : List D}
theorem lcG_gen (I : Nat → AH → Prop) (P : Nat → D → Prop) (hn : ∀ j A, I j A → itNext it j A = some ds[j]?)
    (h : ∀ j d A, ds[j]? = some d → I j A → ∃ s1 v A2, g d w = some s1 ∧ tt s1 A = .ok true A ∧ te s1 A = .ok v A2 ∧ I (j + 1) A2 ∧ P j v) :
    ∀ (f k : Nat) (A : AH), I k A → k + f = ds.length + 1 → f ≠ 0 → ∃ ys A', lcG g tt te it w f k A = .ok ys A' ∧ I ds.length A' ∧ k + ys.length = ds.length ∧ ∀ j y, ys[j]? = some y → P (k + j) y
  | 0, _, _, _, _, h => absurd rfl h
  | f + 1, k, A, hI, hf, _ => by
    have e0 := hn k A hI
    cases hd : ds[k]? with
    | none =>
      have hk : k = ds.length := by
        have := List.getElem?_eq_none_iff.mp hd
        omega
      subst hk
      refine ⟨[], A, ?_, hI, by simp, fun j y e => by simp at e⟩
      unfold lcG
      rw [e0, hd]
    | some d =>
      have hk := (List.getElem?_eq_some_iff.mp hd).1
      obtain ⟨s1, v, A2, h1, h2, h3, h4, h5⟩ := h k d A hd hI
      obtain ⟨ys, A', q1, q2, q3, q4⟩ := lcG_gen I P hn h f (k + 1) A2 h4 (by omega) (by omega)
      refine ⟨v :: ys, A', ?_, q2, by rw [List.length_cons]; omega, fun j y e => ?_⟩
      · unfold lcG
        rw [e0, hd]
        dsimp only
        rw [h1]
        dsimp only
        rw [h2, R.bindN_ok, if_pos rfl, h3, R.bindN_ok, q1, R.bind_ok]
      · cases j with
        | zero =>
          cases (show some v = some y from e)
          exact h5
        | succ j =>
          rw [show k + (j + 1) = k + 1 + j by omega]
          exact q4 j y (by simpa using e)
theorem lc_genR (I : Nat → AH → Prop) (P : Nat → D → Prop) (h0 : mi s A = .ok it A1) (hl : itLen it A1 = ds.length) (hsz : ds.length < 16777216) (hI : I 0 A1) (hn : ∀ j A, I j A → itNext it j A = some ds[j]?)
    (h : ∀ j d A, ds[j]? = some d → I j A → ∃ s1 v A2, g d (wpD s vs) = some s1 ∧ tt s1 A = .ok true A ∧ te s1 A = .ok v A2 ∧ I (j + 1) A2 ∧ P j v) :
    ∃ ys A', mLc mi g tt te vs fin s A = fin ys A' ∧ I ds.length A' ∧ ys.length = ds.length ∧ ∀ j y, ys[j]? = some y → P j y := by
  obtain ⟨ys, A', q1, q2, q3, q4⟩ := lcG_gen (w := wpD s vs) I P hn h (ds.length + 1) 0 A1 hI (by omega) (by omega)
  refine ⟨ys, A', ?_, q2, by omega, fun j y e => by
    have := q4 j y e
    rwa [Nat.zero_add] at this⟩
  unfold mLc
  rw [h0, R.bind_ok, hl, if_pos hsz, q1]
  rfl
end
/-! ### dicts -/
theorem any_key {kvs : List (Key × D)} {k : Key} : (kvs.any fun kv => decide (kv.1 = k)) = (lkK kvs k).isSome := by
  induction kvs with
  | nil => rfl
  | cons p kvs ih =>
    by_cases h : p.1 = k
    · simp [lkK, h]
    · simp only [lkK, List.any_cons, List.find?_cons, h, decide_false, Bool.false_or] at ih ⊢
      exact ih
theorem lkK_map {kvs : List (Key × D)} {k k' : Key} {d : D} : lkK (kvs.map fun kv => if kv.1 = k then (kv.1, d) else kv) k' = if k' = k then (lkK kvs k').map fun _ => d else lkK kvs k' := by
  induction kvs with
  | nil => simp [lkK]
  | cons p kvs ih =>
    have e : ∀ (q : Key × D) (l : List (Key × D)), lkK (q :: l) k' = if q.1 = k' then some q.2 else lkK l k' := fun q l => by
      by_cases h : q.1 = k' <;> simp [lkK, h]
    rw [List.map_cons, e, e, ih]
    by_cases h1 : p.1 = k
    · by_cases h2 : k' = k
      · subst h2
        simp [h1]
      · have h3 : ¬ k = k' := fun z => h2 z.symm
        simp [h1, h2, h3]
    · by_cases h2 : k' = k
      · subst h2
        simp [h1]
      · simp [h1, h2]
theorem lkK_app {kvs : List (Key × D)} {k k' : Key} {d : D} : lkK (kvs ++ [(k, d)]) k' = match lkK kvs k' with
    | some x => some x
    | none => if k' = k then some d else none := by
  unfold lkK
  rw [List.find?_append]
  cases h : kvs.find? fun kv => decide (kv.1 = k') with
  | some p => rfl
  | none =>
    by_cases h2 : k = k'
    · subst h2
      simp
    · have h3 : ¬ k' = k := fun z => h2 z.symm
      simp [h2, h3]
theorem lkK_put {kvs : List (Key × D)} {k k' : Key} {d : D} : lkK (ptK kvs k d) k' = if k' = k then some d else lkK kvs k' := by
  unfold ptK
  rw [any_key]
  split
  · rename_i h
    rw [lkK_map]
    by_cases h2 : k' = k
    · subst h2
      obtain ⟨x, hx⟩ := Option.isSome_iff_exists.mp h
      rw [if_pos rfl, if_pos rfl, hx]
      rfl
    · rw [if_neg h2, if_neg h2]
  · rename_i h
    rw [lkK_app]
    by_cases h2 : k' = k
    · subst h2
      have : lkK kvs k' = none := by
        cases z : lkK kvs k' with
        | none => rfl
        | some x => exact absurd (by rw [z]; rfl) h
      rw [if_pos rfl, this]
      dsimp only
      rw [if_pos rfl]
    · rw [if_neg h2]
      cases lkK kvs k' with
      | some x => dsimp only; rw [if_neg h2]
      | none => dsimp only; rw [if_neg h2]; try rw [if_neg h2]
theorem keys_put {kvs : List (Key × D)} {k : Key} {d : D} : (ptK kvs k d).map (·.1) = if (lkK kvs k).isSome = true then kvs.map (·.1) else kvs.map (·.1) ++ [k] := by
  unfold ptK
  rw [any_key]
  split
  · rw [List.map_map]
    refine List.map_congr_left fun kv _ => ?_
    show (if kv.1 = k then (kv.1, d) else kv).1 = kv.1
    split <;> rfl
  · rw [List.map_append]
    rfl
end Tg

set_option Elab.async false
set_option linter.all false
set_option maxRecDepth 100000
set_option maxHeartbeats 4000000
namespace K21
open PySem Tg
def fuelN : Nat := 1000000
def g_BOXES : D := (.int (8))
def g_CELLS : D := (.int (64))
def g_GATE : D := (.str "gate")
def g_HALF : D := (.int (10000))
def g_KEY : D := (.str "key")
def g_LETTERS : D := (.str "gs")
def g_MOST_KEYS : D := (.int (9))
def g_MOST_ROOMS : D := (.int (12))
def g_RIGHTS : D := (.str "ghls")
def g_ROOM : D := (.int (4))
def cs_gates : List Str := ["Found"]
def cs_store : List Str := ["Found"]
def cs_words : List Str := ["Found"]
/- _law_taken: 0:_law_row 1:_law_many 2:_law_found 3:_law_cell -/
def b__law_taken : MS :=
  (mSeq (mIfS (mTb (mBin gtD (mBin ixD (mv 0) (mc (.int (3)))) (mc (.int (0))))) (mSeq (mAsg (mBin modD (mBin ixD (mv 0) (mc (.int (3)))) (mv 1)) (gmN 2))
  (mSeq (mSubS (mv 0) (mc (.int (3))) (mBin fdivD (mBin ixD (mv 0) (mc (.int (3)))) (mv 1)))
  (mRet (mv 2)))) mNx)
  (mSeq (mSubS (mv 0) (mc (.int (1))) (mBin addD (mBin ixD (mv 0) (mc (.int (1)))) (mc (.int (1)))))
  (mSeq (mIfS (mTb (mBin gtD (mBin ixD (mv 0) (mc (.int (1)))) (mCall lenD (mCons (mBin ixD (mv 0) (mc (.int (0)))) mNil)))) (mSeq (mSubS (mv 0) (mc (.int (2))) (mBin modD (mBin addD (mBin mulD (mBin ixD (mv 0) (mc (.int (2)))) (mc (.int (48271)))) (mc (.int (11)))) (mc (.int (2147483647)))))
  (mRet (mBin modD (mBin fdivD (mBin ixD (mv 0) (mc (.int (2)))) (mc (.int (7)))) (mv 1)))) mNx)
  (mSeq (mAsg (mBin ixD (mBin ixD (mv 0) (mc (.int (0)))) (mBin subD (mBin ixD (mv 0) (mc (.int (1)))) (mc (.int (1))))) (gmN 3))
  (mSeq (mSubS (mv 0) (mc (.int (2))) (mBin modD (mBin addD (mBin addD (mBin mulD (mBin ixD (mv 0) (mc (.int (2)))) (mc (.int (48271)))) (mv 3)) (mc (.int (11)))) (mc (.int (2147483647)))))
  (mSeq (mIfS (mTb (mBin geD (mv 3) (mBin powD (mc (.int (10))) (mc (.int (18)))))) (mSubS (mv 0) (mc (.int (3))) (mBin fdivD (mv 3) (mv 1))) mNx)
  (mRet (mBin modD (mv 3) (mv 1)))))))))
def m__law_taken : List D → AH → R D := mFun 2 4 b__law_taken
/- _law_number: 0:_law_row 1:_law_way -/
def b__law_number : MS :=
  (mSeq (mAsg (mCall m__law_taken (mCons (mv 0) (mCons (mc (.int (6))) mNil))) (gmN 1))
  (mSeq (mIfS (mTb (mBin ltD (mv 1) (mc (.int (4))))) (mRet (mBin ixD (mLst (mCons (mCall m__law_taken (mCons (mv 0) (mCons (mc (.int (5))) mNil))) (mCons (mCall m__law_taken (mCons (mv 0) (mCons (mc (.int (70))) mNil))) (mCons (mBin subD (mCall m__law_taken (mCons (mv 0) (mCons (mc (.int (40))) mNil))) (mc (.int (20)))) (mCons (mc (.int (1))) mNil))))) (mv 1))) mNx)
  (mRet (mBin ixD (mLst (mCons (mBin subD (mCall m__law_taken (mCons (mv 0) (mCons (mc (.int (20000))) mNil))) (mc (.int (10000)))) (mCons (mBin ixD (mLst (mCons (mc (.int (9999))) (mCons (mBin subD (mc (.int (0))) (mc (.int (10000)))) mNil))) (mCall m__law_taken (mCons (mv 0) (mCons (mc (.int (2))) mNil)))) mNil))) (mBin subD (mv 1) (mc (.int (4))))))))
def m__law_number : List D → AH → R D := mFun 1 2 b__law_number
/- _law_rights: 0:_law_row 1:_law_often 2:_law_sign -/
def b__law_rights : MS :=
  (mSeq (mAsg (mBin ixD (mLst (mCons (mc (.int (4))) (mCons (mc (.int (9))) (mCons (mc (.int (2))) mNil)))) (mCall m__law_taken (mCons (mv 0) (mCons (mc (.int (3))) mNil)))) (gmN 1))
  (mRet (mMt "str" joinD (mc (.str "")) (mCons (mLc (miAny (mc (.str "ghls"))) (gmN 2) (mTb (mBin gtD (mCall m__law_taken (mCons (mv 0) (mCons (mv 1) mNil))) (mc (.int (0))))) (mv 2) [2] finF) mNil))))
def m__law_rights : List D → AH → R D := mFun 1 3 b__law_rights
/- _law_key: 0:_law_row 1:_law_most 2:_law_begin 3:_law_end 4:_law_at -/
def b__law_key : MS :=
  (mSeq (mAsg (mCall m__law_taken (mCons (mv 0) (mCons (mv 1) mNil))) (gmN 2))
  (mSeq (mAsg (mBin addD (mBin addD (mv 2) (mc (.int (1)))) (mCall m__law_taken (mCons (mv 0) (mCons (mCall minD (mCons (mBin subD (mv 1) (mv 2)) (mCons (mBin ixD (mLst (mCons (mc (.int (4))) (mCons (mc (.int (9))) (mCons (mc (.int (64))) mNil)))) (mCall m__law_taken (mCons (mv 0) (mCons (mc (.int (3))) mNil)))) mNil))) mNil)))) (gmN 3))
  (mSeq (mAsg (mBin addD (mv 2) (mCall m__law_taken (mCons (mv 0) (mCons (mBin subD (mv 3) (mv 2)) mNil)))) (gmN 4))
  (mSeq (mIfS (mTb (mBin eqD (mCall m__law_taken (mCons (mv 0) (mCons (mc (.int (6))) mNil))) (mc (.int (5))))) (mAsg (mBin ixD (mLst (mCons (mBin subD (mCall m__law_taken (mCons (mv 0) (mCons (mc (.int (20000))) mNil))) (mc (.int (10000)))) (mCons (mv 3) (mCons (mBin subD (mv 2) (mc (.int (1)))) mNil)))) (mCall m__law_taken (mCons (mv 0) (mCons (mc (.int (3))) mNil)))) (gmN 4)) mNx)
  (mRet (mTup (mCons (mc (.str "key")) (mCons (mv 2) (mCons (mv 3) (mCons (mv 4) (mCons (mCall m__law_rights (mCons (mv 0) mNil)) mNil)))))))))))
def m__law_key : List D → AH → R D := mFun 2 5 b__law_key
/- _law_one: 0:_law_row 1:_law_most 2:_law_rows 3:_law_way 4:_law_plain -/
def b__law_one : MS :=
  (mSeq (mAsg (mCall m__law_taken (mCons (mv 0) (mCons (mc (.int (7))) mNil))) (gmN 3))
  (mSeq (mIfS (mTb (mBin ltD (mv 3) (mc (.int (3))))) (mRet (mCall m__law_number (mCons (mv 0) mNil))) mNx)
  (mSeq (mAsg (mIf (mTb (mBin eqD (mCall m__law_taken (mCons (mv 0) (mCons (mc (.int (4))) mNil))) (mc (.int (3))))) (mCall m__law_number (mCons (mv 0) mNil)) (mCall m__law_key (mCons (mv 0) (mCons (mv 1) mNil)))) (gmN 4))
  (mRet (mIf (mTb (mBin eqD (mv 3) (mc (.int (6))))) (mTup (mCons (mc (.str "gate")) (mCons (mCall m__law_taken (mCons (mv 0) (mCons (mBin addD (mv 2) (mc (.int (1)))) mNil))) (mCons (mv 4) mNil)))) (mCall m__law_key (mCons (mv 0) (mCons (mv 1) mNil))))))))
def m__law_one : List D → AH → R D := mFun 3 5 b__law_one
/- _law_nearly: 0:_law_row 1:_law_word 2:_law_begin 3:_law_end 4:_law_at 5:_law_rights_here 6:_law_way -/
def b__law_nearly (g : List D → AH → R D) : MS :=
  (mSeq (mIfS (mNot (mTb (mUn (isiD "tuple") (mv 1)))) (mRet (mIf (mTb (mBin eqD (mCall m__law_taken (mCons (mv 0) (mCons (mc (.int (2))) mNil))) (mc (.int (0))))) (mv 1) (mCall minD (mCons (mc (.int (9999))) (mCons (mBin addD (mv 1) (mc (.int (1)))) mNil))))) mNx)
  (mSeq (mIfS (mTb (mBin eqD (mBin ixD (mv 1) (mc (.int (0)))) (mc (.str "gate")))) (mSeq (mIfS (mTb (mUn (isiD "int") (mBin ixD (mv 1) (mc (.int (2)))))) (mRet (mTup (mCons (mc (.str "gate")) (mCons (mCall maxD (mCons (mc (.int (0))) (mCons (mBin subD (mBin ixD (mv 1) (mc (.int (1)))) (mc (.int (1)))) mNil))) (mCons (mBin ixD (mv 1) (mc (.int (2)))) mNil))))) mNx)
  (mRet (mTup (mCons (mc (.str "gate")) (mCons (mBin ixD (mv 1) (mc (.int (1)))) (mCons (mCall g (mCons (mv 0) (mCons (mBin ixD (mv 1) (mc (.int (2)))) mNil))) mNil)))))) mNx)
  (mSeq (mAsg (mSl (mv 1) (mPart (mc (.int (1)))) mNoPart) (gmTup 4 (gmCons (gmN 2) (gmCons (gmN 3) (gmCons (gmN 4) (gmCons (gmN 5) gmNil))))))
  (mSeq (mAsg (mCall m__law_taken (mCons (mv 0) (mCons (mc (.int (5))) mNil))) (gmN 6))
  (mSeq (mIfS (mTb (mBin ltD (mv 6) (mc (.int (2))))) (mRet (mTup (mCons (mc (.str "key")) (mCons (mv 2) (mCons (mv 3) (mCons (mBin addD (mv 4) (mBin ixD (mLst (mCons (mc (.int (1))) (mCons (mBin subD (mc (.int (0))) (mc (.int (1)))) mNil))) (mCall intD (mCons (mBin gtD (mv 4) (mc (.int (0)))) mNil)))) (mCons (mv 5) mNil))))))) mNx)
  (mSeq (mIfS (mAnd (mTb (mBin gtD (mBin subD (mv 3) (mv 2)) (mc (.int (1))))) (mTb (mBin ltD (mv 6) (mc (.int (4)))))) (mRet (mTup (mCons (mc (.str "key")) (mCons (mBin subD (mBin addD (mv 2) (mv 6)) (mc (.int (2)))) (mCons (mBin addD (mBin subD (mv 3) (mc (.int (3)))) (mv 6)) (mCons (mv 4) (mCons (mv 5) mNil))))))) mNx)
  (mRet (mTup (mCons (mc (.str "key")) (mCons (mv 2) (mCons (mv 3) (mCons (mv 4) (mCons (mSl (mv 5) (mPart (mc (.int (1)))) mNoPart) mNil)))))))))))))
def m__law_nearly : Nat → List D → AH → R D
  | 0 => mBad
  | n + 1 => mFun 2 7 (b__law_nearly (m__law_nearly n))
/- _law_state: 0:_law_row 1:_law_rows 2:_law_rooms 3:_law_most 4:_law_few 5:_law_cells 6:_law_boxes 7:_law_turn 8:_law_k -/
def b__law_state : MS :=
  (mSeq (mAsg (mBin ixD (mLst (mCons (mc (.int (0))) (mCons (mc (.int (1))) (mCons (mc (.int (2))) (mCons (mc (.int (12))) (mCons (mCall m__law_taken (mCons (mv 0) (mCons (mc (.int (13))) mNil))) mNil)))))) (mCall m__law_taken (mCons (mv 0) (mCons (mc (.int (5))) mNil)))) (gmN 2))
  (mSeq (mAsg (mBin subD (mc (.int (64))) (mBin mulD (mc (.int (4))) (mv 2))) (gmN 3))
  (mSeq (mAsg (mBin ixD (mLst (mCons (mc (.int (2))) (mCons (mc (.int (5))) (mCons (mc (.int (9))) mNil)))) (mCall m__law_taken (mCons (mv 0) (mCons (mc (.int (3))) mNil)))) (gmN 4))
  (mSeq (mAsg (mLc (mRng1 (mCons (mv 3) mNil)) (gmN 8) mYes (mIf (mTb (mBin eqD (mCall m__law_taken (mCons (mv 0) (mCons (mv 4) mNil))) (mc (.int (0))))) (mCall m__law_one (mCons (mv 0) (mCons (mv 3) (mCons (mv 1) mNil)))) (mCall m__law_taken (mCons (mv 0) (mCons (mc (.int (9))) mNil)))) [8] finF) (gmN 5))
  (mSeq (mAsg (mLc (mRng1 (mCons (mc (.int (8))) mNil)) (gmN 8) mYes (mCall m__law_one (mCons (mv 0) (mCons (mv 3) (mCons (mv 1) mNil)))) [8] finN) (gmN 6))
  (mSeq (mFor (mRng1 (mCons (mCall m__law_taken (mCons (mv 0) (mCons (mc (.int (4))) mNil))) mNil)) (gmN 7) (mSeq (mAsg (mCall m__law_taken (mCons (mv 0) (mCons (mc (.int (8))) mNil))) (gmN 8))
  (mSubS (mv 6) (mCall m__law_taken (mCons (mv 0) (mCons (mc (.int (8))) mNil))) (mCall (m__law_nearly 2) (mCons (mv 0) (mCons (mBin ixD (mv 6) (mv 8)) mNil))))))
  (mRet (mTup (mCons (mv 2) (mCons (mv 5) (mCons (mv 6) mNil)))))))))))
def m__law_state : List D → AH → R D := mFun 2 9 b__law_state
/- _law_chained: 0:_law_row 1:_law_most 2:_law_rows 3:_law_cells 4:_law_left 5:_law_some 6:_law_k 7:_law_rights_here 8:_law_key_here -/
def b__law_chained : MS :=
  (mSeq (mAsg (mBin mulN (mLst (mCons (mc (.int (0))) mNil)) (mv 1)) (gmN 3))
  (mSeq (mAsg (mLRgN (mv 1)) (gmN 4))
  (mSeq (mAsg (mLc (mRng1 (mCons (mBin addD (mc (.int (1))) (mCall m__law_taken (mCons (mv 0) (mCons (mCall minD (mCons (mBin subD (mv 1) (mc (.int (1)))) (mCons (mc (.int (12))) mNil))) mNil)))) mNil)) (gmN 6) mYes (mMt "list" popAtD (mv 4) (mCons (mCall m__law_taken (mCons (mv 0) (mCons (mCall lenD (mCons (mv 4) mNil)) mNil))) mNil)) [6] finF) (gmN 5))
  (mSeq (mFor (mRng1 (mCons (mBin subD (mCall lenD (mCons (mv 5) mNil)) (mc (.int (1)))) mNil)) (gmN 6) (mSeq (mAsg (mBin ixD (mLst (mCons (mc (.str "ghls")) (mCons (mc (.str "gh")) (mCons (mc (.str "ghs")) (mCons (mCall m__law_rights (mCons (mv 0) mNil)) mNil))))) (mCall m__law_taken (mCons (mv 0) (mCons (mc (.int (4))) mNil)))) (gmN 7))
  (mSeq (mAsg (mTup (mCons (mc (.str "key")) (mCons (mBin ixD (mv 5) (mBin addD (mv 6) (mc (.int (1))))) (mCons (mBin addD (mBin ixD (mv 5) (mBin addD (mv 6) (mc (.int (1))))) (mc (.int (1)))) (mCons (mBin ixD (mv 5) (mBin addD (mv 6) (mc (.int (1))))) (mCons (mv 7) mNil)))))) (gmN 8))
  (mSubS (mv 3) (mBin ixD (mv 5) (mv 6)) (mIf (mTb (mBin gtD (mCall m__law_taken (mCons (mv 0) (mCons (mc (.int (8))) mNil))) (mc (.int (0))))) (mv 8) (mTup (mCons (mc (.str "gate")) (mCons (mCall m__law_taken (mCons (mv 0) (mCons (mBin addD (mv 2) (mc (.int (1)))) mNil))) (mCons (mv 8) mNil)))))))))
  (mRet (mTup (mCons (mv 3) (mCons (mTup (mCons (mc (.str "key")) (mCons (mBin ixD (mv 5) (mc (.int (0)))) (mCons (mBin addD (mBin ixD (mv 5) (mc (.int (0)))) (mc (.int (1)))) (mCons (mc (.int (0))) (mCons (mc (.str "gh")) mNil)))))) mNil))))))))
def m__law_chained : List D → AH → R D := mFun 3 9 b__law_chained
/- is_number: 0:word -/
def b_is_number : MS :=
  (mRet (mAndV (mUn (isiD "int") (mv 0)) (mNotV (mUn (isiD "bool") (mv 0)))))
def m_is_number : List D → AH → R D := mFun 1 1 b_is_number
/- is_within: 0:number 1:low 2:high -/
def b_is_within : MS :=
  (mRet (mAndV (mCall m_is_number (mCons (mv 0) mNil)) (mChain leD ltD (mv 1) (mv 0) (mv 2))))
def m_is_within : List D → AH → R D := mFun 3 3 b_is_within
/- are_rights: 0:part 1:sign -/
def b_are_rights : MS :=
  (mRet (mAndV (mUn (isiD "str") (mv 0)) (mBin eqD (mv 0) (mMt "str" joinD (mc (.str "")) (mCons (mLc (miAny (mc g_RIGHTS)) (gmN 1) (mTb (mBin inD (mv 1) (mv 0))) (mv 1) [1] finF) mNil)))))
def m_are_rights : List D → AH → R D := mFun 1 2 b_are_rights
/- is_key: 0:word 1:most 2:begin 3:end 4:at 5:rights -/
def b_is_key : MS :=
  (mSeq (mIfS (mOr (mNot (mTb (mUn (isiD "tuple") (mv 0)))) (mOr (mTb (mBin neD (mCall lenD (mCons (mv 0) mNil)) (mc (.int (5))))) (mTb (mBin neD (mBin ixD (mv 0) (mc (.int (0)))) (mc g_KEY))))) (mRet (mc (.bl false))) mNx)
  (mSeq (mAsg (mSl (mv 0) (mPart (mc (.int (1)))) mNoPart) (gmTup 4 (gmCons (gmN 2) (gmCons (gmN 3) (gmCons (gmN 4) (gmCons (gmN 5) gmNil))))))
  (mSeq (mIfS (mOr (mNot (mTb (mCall m_is_within (mCons (mv 2) (mCons (mc (.int (0))) (mCons (mv 1) mNil)))))) (mNot (mTb (mCall m_is_within (mCons (mv 3) (mCons (mBin addD (mv 2) (mc (.int (1)))) (mCons (mBin addD (mv 1) (mc (.int (1)))) mNil))))))) (mRet (mc (.bl false))) mNx)
  (mRet (mAndV (mCall m_is_within (mCons (mv 4) (mCons (mBin subD (mc (.int (0))) (mc g_HALF)) (mCons (mc g_HALF) mNil)))) (mCall m_are_rights (mCons (mv 5) mNil)))))))
def m_is_key : List D → AH → R D := mFun 2 6 b_is_key
/- is_plain: 0:word 1:most -/
def b_is_plain : MS :=
  (mRet (mOrV (mCall m_is_within (mCons (mv 0) (mCons (mBin subD (mc (.int (0))) (mc g_HALF)) (mCons (mc g_HALF) mNil)))) (mCall m_is_key (mCons (mv 0) (mCons (mv 1) mNil)))))
def m_is_plain : List D → AH → R D := mFun 2 2 b_is_plain
/- is_word: 0:word 1:most 2:rows -/
def b_is_word : MS :=
  (mSeq (mIfS (mTb (mCall m_is_plain (mCons (mv 0) (mCons (mv 1) mNil)))) (mRet (mc (.bl true))) mNx)
  (mSeq (mIfS (mOr (mNot (mTb (mUn (isiD "tuple") (mv 0)))) (mOr (mTb (mBin neD (mCall lenD (mCons (mv 0) mNil)) (mc (.int (3))))) (mTb (mBin neD (mBin ixD (mv 0) (mc (.int (0)))) (mc g_GATE))))) (mRet (mc (.bl false))) mNx)
  (mRet (mAndV (mCall m_is_within (mCons (mBin ixD (mv 0) (mc (.int (1)))) (mCons (mc (.int (0))) (mCons (mBin addD (mv 2) (mc (.int (1)))) mNil)))) (mCall m_is_plain (mCons (mBin ixD (mv 0) (mc (.int (2)))) (mCons (mv 1) mNil)))))))
def m_is_word : List D → AH → R D := mFun 3 3 b_is_word
/- need_words: 0:words 1:many 2:most 3:rows 4:before 5:place -/
def b_need_words : MS :=
  (mSeq (mFor (mRng1 (mCons (mv 1) mNil)) (gmN 5) (mIfS (mOr (mTb (mBin geD (mv 5) (mCall lenD (mCons (mv 0) mNil)))) (mNot (mTb (mCall m_is_word (mCons (mBin ixD (mv 0) (mv 5)) (mCons (mv 2) (mCons (mv 3) mNil))))))) mNever mNx))
  (mIfS (mTb (mBin gtD (mCall lenD (mCons (mv 0) mNil)) (mv 1))) mNever mNx))
def m_need_words : List D → AH → R D := mFun 5 6 b_need_words
/- need_state: 0:rows 1:rooms 2:cells 3:boxes 4:most -/
def b_need_state : MS :=
  (mSeq (mIfS (mNot (mTb (mCall m_is_within (mCons (mv 1) (mCons (mc (.int (0))) (mCons (mBin addD (mc g_MOST_ROOMS) (mc (.int (1)))) mNil)))))) mNever mNx)
  (mSeq (mAsg (mBin subD (mc g_CELLS) (mBin mulD (mc g_ROOM) (mv 1))) (gmN 4))
  (mSeq (mDrop (mCall m_need_words (mCons (mv 2) (mCons (mv 4) (mCons (mv 4) (mCons (mv 0) (mCons (mc (.int (0))) mNil)))))))
  (mDrop (mCall m_need_words (mCons (mv 3) (mCons (mc g_BOXES) (mCons (mv 4) (mCons (mv 0) (mCons (mv 4) mNil))))))))))
def m_need_state : List D → AH → R D := mFun 4 5 b_need_state
/- Found.meet: 0:self 1:word 2:rows 3:known 4:ahead -/
def b_Found_meet : MS :=
  (mIfS (mAnd (mNot (mTb (mCall m_is_number (mCons (mv 1) mNil)))) (mTb (mBin ninD (mv 1) (mLc (miAny (mFld cs_words "words" (mv 0))) (gmTup 2 (gmCons (gmN 3) (gmCons (gmN 4) gmNil))) mYes (mv 3) [3, 4] finF)))) (mDrop (mMt "list" appD (mFld cs_words "words" (mv 0)) (mCons (mTup (mCons (mv 1) (mCons (mv 2) mNil))) mNil))) mNx)
def m_Found_meet : List D → AH → R D := mFun 3 5 b_Found_meet
/- kind_of: 0:word -/
def b_kind_of : MS :=
  (mRet (mIf (mTb (mCall m_is_number (mCons (mv 0) mNil))) (mc (.int (0))) (mBin ixD (mDct (mPCons (mc g_KEY) (mc (.int (1))) (mPCons (mc g_GATE) (mc (.int (2))) mPNil))) (mBin ixD (mv 0) (mc (.int (0)))))))
def m_kind_of : List D → AH → R D := mFun 1 1 b_kind_of
/- to_cell: 0:key 1:cell 2:letter 3:far 4:rows 5:part -/
def b_to_cell : MS :=
  (mSeq (mAsg (mBin subD (mv 1) (mBin ixD (mv 0) (mc (.int (3))))) (gmN 3))
  (mSeq (mAsg (mTup mNil) (gmN 4))
  (mSeq (whG (mNot (mTb (mChain ltD ltD (mUn negD (mc (.int (64)))) (mv 3) (mc (.int (64)))))) (mSeq (mAsg (mCall maxD (mCons (mUn negD (mc (.int (9999)))) (mCons (mCall minD (mCons (mc (.int (9999))) (mCons (mv 3) mNil))) mNil))) (gmN 5))
  (mSeq (mAsg (mBin addD (mv 4) (mTup (mCons (mTup (mCons (mc (.str "put")) (mCons (mc (.int (1))) (mCons (mv 5) mNil)))) (mCons (mTup (mCons (mc (.str "add")) (mCons (mc (.int (0))) (mCons (mc (.int (0))) (mCons (mc (.int (1))) mNil))))) mNil)))) (gmN 4))
  (mAsg (mBin subD (mv 3) (mv 5)) (gmN 3)))) fuelN)
  (mRet (mBin addD (mv 4) (mIf (mTb (mBin eqD (mv 2) (mc (.str "g")))) (mTup (mCons (mTup (mCons (mc (.str "get")) (mCons (mc (.int (0))) (mCons (mc (.int (0))) (mCons (mv 3) mNil))))) mNil)) (mTup (mCons (mTup (mCons (mc (.str "put")) (mCons (mc (.int (1))) (mCons (mc (.int (0))) mNil)))) (mCons (mTup (mCons (mc (.str "set")) (mCons (mc (.int (0))) (mCons (mv 3) (mCons (mc (.int (1))) mNil))))) mNil)))))))))
def m_to_cell : List D → AH → R D := mFun 3 6 b_to_cell
/- Found.go_on: 0:self 1:word 2:rows 3:cell -/
def b_Found_go_on : MS :=
  (mSeq (mIfS (mTb (mBin eqD (mCall m_kind_of (mCons (mv 1) mNil)) (mc (.int (2))))) (mSeq (mIfS (mTb (mFld cs_gates "gates" (mv 0))) (mDrop (mMeth "Found" "meet" m_Found_meet (mv 0) (mCons (mBin ixD (mv 1) (mc (.int (2)))) (mCons (mc .non) mNil)))) mNx)
  mRetN) mNx)
  (mIfS (mAnd (mTb (mBin inD (mc (.str "g")) (mBin ixD (mv 1) (mc (.int (4)))))) (mTb (mBin inD (mc (.str "h")) (mBin ixD (mv 1) (mc (.int (4))))))) (mFor (mRng2 (mCons (mBin ixD (mv 1) (mc (.int (1)))) (mCons (mCall minD (mCons (mBin ixD (mv 1) (mc (.int (2)))) (mCons (mCall lenD (mCons (mFld cs_store "store" (mv 0)) mNil)) mNil))) mNil))) (gmN 3) (mDrop (mMeth "Found" "meet" m_Found_meet (mv 0) (mCons (mBin ixD (mFld cs_store "store" (mv 0)) (mv 3)) (mCons (mIf (mTb (mBin isD (mv 2) (mc .non))) (mc .non) (mBin addD (mv 2) (mCall m_to_cell (mCons (mv 1) (mCons (mv 3) (mCons (mc (.str "g")) mNil)))))) mNil))))) mNx))
def m_Found_go_on : List D → AH → R D := mFun 3 4 b_Found_go_on
/- Found.__init__: 0:self 1:cells 2:boxes 3:gates 4:number 5:at 6:word 7:rows -/
def b_Found___init__ : MS :=
  (mSeq (mFldS cs_store "store" (mv 0) (mv 1))
  (mSeq (mFldS cs_gates "gates" (mv 0) (mv 3))
  (mSeq (mFldS cs_words "words" (mv 0) (mLstN mNil))
  (mSeq (mFor (mRng1 (mCons (mCall lenD (mCons (mv 2) mNil)) mNil)) (gmN 4) (mDrop (mMeth "Found" "meet" m_Found_meet (mv 0) (mCons (mBin ixD (mv 2) (mv 4)) (mCons (mTup (mCons (mTup (mCons (mc (.str "move")) (mCons (mc (.int (0))) (mCons (mv 4) mNil)))) mNil)) mNil)))))
  (mSeq (mAsg (mc (.int (0))) (gmN 5))
  (whG (mTb (mBin ltD (mv 5) (mCall lenD (mCons (mFld cs_words "words" (mv 0)) mNil)))) (mSeq (mAsg (mBin ixD (mFld cs_words "words" (mv 0)) (mv 5)) (gmTup 2 (gmCons (gmN 6) (gmCons (gmN 7) gmNil))))
  (mSeq (mDrop (mMeth "Found" "go_on" m_Found_go_on (mv 0) (mCons (mv 6) (mCons (mv 7) mNil))))
  (mAsg (mBin addD (mv 5) (mc (.int (1)))) (gmN 5)))) fuelN))))))
def m_Found___init__ : List D → AH → R D := mFun 4 8 b_Found___init__
/- may_touch: 0:word 1:cell 2:letter -/
def b_may_touch : MS :=
  (mRet (mAndV (mBin eqD (mBin ixD (mv 0) (mc (.int (0)))) (mc g_KEY)) (mAndV (mChain leD ltD (mBin ixD (mv 0) (mc (.int (1)))) (mv 1) (mBin ixD (mv 0) (mc (.int (2))))) (mBin inD (mv 2) (mBin ixD (mv 0) (mc (.int (4))))))))
def m_may_touch : List D → AH → R D := mFun 3 3 b_may_touch
/- Found.letters: 0:self 1:cell 2:found 3:letter 4:word 5:rows -/
def b_Found_letters : MS :=
  (mSeq (mAsg (mc (.str "")) (gmN 2))
  (mSeq (mFor (miAny (mc g_LETTERS)) (gmN 3) (mIfS (mTb (mBin neD (mLc (miAny (mFld cs_words "words" (mv 0))) (gmTup 2 (gmCons (gmN 4) (gmCons (gmN 5) gmNil))) (mTb (mCall m_may_touch (mCons (mv 4) (mCons (mv 1) (mCons (mv 3) mNil))))) (mv 4) [4, 5] finF) (mLst mNil))) (mAsg (mBin addD (mv 2) (mv 3)) (gmN 2)) mNx))
  (mRet (mv 2))))
def m_Found_letters : List D → AH → R D := mFun 2 6 b_Found_letters
/- reach: 0:rows 1:rooms 2:cells 3:boxes 4:gates 5:found 6:told 7:cell 8:pair -/
def b_reach : MS :=
  (mSeq (mDrop (mCall m_need_state (mCons (mv 0) (mCons (mv 1) (mCons (mv 2) (mCons (mv 3) mNil))))))
  (mSeq (mAsg (mMake "Found" m_Found___init__ (mCons (mv 2) (mCons (mv 3) (mCons (mv 4) mNil)))) (gmN 5))
  (mSeq (mAsg (mLc (mRng1 (mCons (mc g_CELLS) mNil)) (gmN 7) mYes (mTup (mCons (mv 7) (mCons (mMeth "Found" "letters" m_Found_letters (mv 5) (mCons (mv 7) mNil)) mNil))) [7] finF) (gmN 6))
  (mRet (mLc (miAny (mv 6)) (gmN 8) (mTb (mBin neD (mBin ixD (mv 8) (mc (.int (1)))) (mc (.str "")))) (mv 8) [8] finF)))))
def m_reach : List D → AH → R D := mFun 5 9 b_reach
/- _law_together: 0:_law_some 1:_law_found 2:_law_told 3:_law_cell 4:_law_letters 5:_law_both 6:_law_sign -/
def b__law_together : MS :=
  (mSeq (mAsg (mDctN mPNil) (gmN 1))
  (mSeq (mFor (miAny (mv 0)) (gmN 2) (mFor (miAny (mv 2)) (gmTup 2 (gmCons (gmN 3) (gmCons (gmN 4) gmNil))) (mSeq (mAsg (mBin addD (mGet2 (mv 1) (mv 3) (mc (.str ""))) (mv 4)) (gmN 5))
  (mSubS (mv 1) (mv 3) (mMt "str" joinD (mc (.str "")) (mCons (mLc (miAny (mc (.str "gs"))) (gmN 6) (mTb (mBin inD (mv 6) (mv 5))) (mv 6) [6] finF) mNil))))))
  (mRet (mLc (miAny (mCall sortKD (mCons (mv 1) mNil))) (gmN 3) mYes (mTup (mCons (mv 3) (mCons (mBin ixD (mv 1) (mv 3)) mNil))) [3] finF))))
def m__law_together : List D → AH → R D := mFun 1 7 b__law_together
/- _law_lesser: 0:_law_row 1:_law_word 2:_law_begin 3:_law_end 4:_law_rights_here 5:_law_sign -/
def b__law_lesser (g : List D → AH → R D) : MS :=
  (mSeq (mIfS (mOr (mTb (mUn (isiD "int") (mv 1))) (mTb (mBin eqD (mCall m__law_taken (mCons (mv 0) (mCons (mc (.int (3))) mNil))) (mc (.int (0)))))) (mRet (mIf (mTb (mBin gtD (mCall m__law_taken (mCons (mv 0) (mCons (mc (.int (4))) mNil))) (mc (.int (0))))) (mv 1) (mCall m__law_number (mCons (mv 0) mNil)))) mNx)
  (mSeq (mIfS (mTb (mBin eqD (mBin ixD (mv 1) (mc (.int (0)))) (mc (.str "gate")))) (mRet (mTup (mCons (mc (.str "gate")) (mCons (mBin ixD (mv 1) (mc (.int (1)))) (mCons (mCall g (mCons (mv 0) (mCons (mBin ixD (mv 1) (mc (.int (2)))) mNil))) mNil))))) mNx)
  (mSeq (mAsg (mBin addD (mBin ixD (mv 1) (mc (.int (1)))) (mCall m__law_taken (mCons (mv 0) (mCons (mBin subD (mBin ixD (mv 1) (mc (.int (2)))) (mBin ixD (mv 1) (mc (.int (1))))) mNil)))) (gmN 2))
  (mSeq (mAsg (mBin addD (mBin addD (mv 2) (mc (.int (1)))) (mCall m__law_taken (mCons (mv 0) (mCons (mBin subD (mBin ixD (mv 1) (mc (.int (2)))) (mv 2)) mNil)))) (gmN 3))
  (mSeq (mAsg (mMt "str" joinD (mc (.str "")) (mCons (mLc (miAny (mBin ixD (mv 1) (mc (.int (4))))) (gmN 5) (mTb (mBin gtD (mCall m__law_taken (mCons (mv 0) (mCons (mc (.int (4))) mNil))) (mc (.int (0))))) (mv 5) [5] finF) mNil)) (gmN 4))
  (mRet (mTup (mCons (mc (.str "key")) (mCons (mv 2) (mCons (mv 3) (mCons (mBin ixD (mLst (mCons (mBin ixD (mv 1) (mc (.int (3)))) (mCons (mCall m__law_number (mCons (mv 0) mNil)) mNil))) (mCall m__law_taken (mCons (mv 0) (mCons (mc (.int (2))) mNil)))) (mCons (mv 4) mNil))))))))))))
def m__law_lesser : Nat → List D → AH → R D
  | 0 => mBad
  | n + 1 => mFun 2 6 (b__law_lesser (m__law_lesser n))
/- touching: 0:rows 1:rooms 2:cells 3:boxes 4:cell 5:letter 6:found 7:word 8:ahead 9:row -/
def b_touching : MS :=
  (mSeq (mDrop (mCall m_need_state (mCons (mv 0) (mCons (mv 1) (mCons (mv 2) (mCons (mv 3) mNil))))))
  (mSeq (mIfS (mOr (mNot (mTb (mCall m_is_within (mCons (mv 4) (mCons (mc (.int (0))) (mCons (mc g_CELLS) mNil)))))) (mTb (mBin ninD (mv 5) (mTup (mCons (mc (.str "g")) (mCons (mc (.str "s")) mNil)))))) mNever mNx)
  (mSeq (mAsg (mMake "Found" m_Found___init__ (mCons (mv 2) (mCons (mv 3) (mCons (mc (.bl false)) mNil)))) (gmN 6))
  (mSeq (mFor (miAny (mFld cs_words "words" (mv 6))) (gmTup 2 (gmCons (gmN 7) (gmCons (gmN 8) gmNil))) (mIfS (mAnd (mTb (mCall m_may_touch (mCons (mv 7) (mCons (mv 4) (mCons (mv 5) mNil))))) (mTb (mBin ltD (mCall lenD (mCons (mLc (miAny (mv 8)) (gmN 9) (mTb (mBin eqD (mBin ixD (mv 9) (mc (.int (0)))) (mc (.str "get")))) (mv 9) [9] finF) mNil)) (mc g_MOST_KEYS)))) (mSeq (mAsg (mBin addD (mBin addD (mv 8) (mCall m_to_cell (mCons (mv 7) (mCons (mv 4) (mCons (mv 5) mNil))))) (mTup (mCons (mTup (mCons (mc (.str "end")) mNil)) mNil))) (gmN 6))
  (mRet (mBin addD (mv 6) (mBin mulT (mTup (mCons (mTup (mCons (mc (.str "end")) mNil)) mNil)) (mBin subD (mv 0) (mCall lenD (mCons (mv 6) mNil))))))) mNx))
  (mRet (mc .non))))))
def m_touching : List D → AH → R D := mFun 6 10 b_touching
/- law: 0:_law_script 1:_law_row 2:_law_turn 3:_law_rows 4:_law_rooms 5:_law_cells 6:_law_boxes 7:_law_gates 8:_law_told 9:_law_alone 10:_law_k 11:_law_bare 12:_law_lower 13:_law_less 14:_law_cell 15:_law_letter 16:_law_some 17:_law_one_here -/
def b_law : MS :=
  (mSeq (mAsg (mLstN (mCons (mv 0) (mCons (mc (.int (0))) (mCons (mc (.int (0))) (mCons (mc (.int (0))) mNil))))) (gmN 1))
  (mSeq (mFor (mRng1 (mCons (mc (.int (3))) mNil)) (gmN 2) (mSeq (mAsg (mBin addD (mc (.int (1))) (mCall m__law_taken (mCons (mv 1) (mCons (mc (.int (60))) mNil)))) (gmN 3))
  (mSeq (mAsg (mCall m__law_state (mCons (mv 1) (mCons (mv 3) mNil))) (gmTup 3 (gmCons (gmN 4) (gmCons (gmN 5) (gmCons (gmN 6) gmNil)))))
  (mSeq (mIfS (mTb (mBin eqD (mCall m__law_taken (mCons (mv 1) (mCons (mc (.int (2))) mNil))) (mc (.int (1))))) (mAsgTS 5 (mCall m__law_chained (mCons (mv 1) (mCons (mCall lenD (mCons (mv 5) mNil)) (mCons (mv 3) mNil)))) (mv 6) (mCall m__law_taken (mCons (mv 1) (mCons (mc (.int (8))) mNil)))) mNx)
  (mSeq (mAsg (mBin eqD (mCall m__law_taken (mCons (mv 1) (mCons (mc (.int (2))) mNil))) (mc (.int (1)))) (gmN 7))
  (mSeq (mAsg (mCall m_reach (mCons (mv 3) (mCons (mv 4) (mCons (mv 5) (mCons (mv 6) (mCons (mv 7) mNil)))))) (gmN 8))
  (mSeq (mAsg (mLstN mNil) (gmN 9))
  (mSeq (mFor (mRng1 (mCons (mc (.int (8))) mNil)) (gmN 10) (mDrop (mMt "list" appD (mv 9) (mCons (mCall m_reach (mCons (mv 3) (mCons (mv 4) (mCons (mv 5) (mCons (mBin addD (mBin addD (mBin mulD (mLst (mCons (mc (.int (0))) mNil)) (mv 10)) (mSl (mv 6) (mPart (mv 10)) (mPart (mBin addD (mv 10) (mc (.int (1))))))) (mBin mulD (mLst (mCons (mc (.int (0))) mNil)) (mBin subD (mc (.int (7))) (mv 10)))) (mCons (mv 7) mNil)))))) mNil))))
  (mSeq (mAsg (mCall m__law_taken (mCons (mv 1) (mCons (mc (.int (8))) mNil))) (gmN 10))
  (mSeq (mIfS (mTb (mBin neD (mCall m__law_together (mCons (mv 9) mNil)) (mv 8))) (mRet (mc (.bl false))) mNx)
  (mSeq (mIfS (mTb (mBin neD (mCall m_reach (mCons (mv 3) (mCons (mv 4) (mCons (mv 5) (mCons (mBin addD (mSl (mv 6) (mPart (mv 10)) mNoPart) (mSl (mv 6) mNoPart (mPart (mv 10)))) (mCons (mv 7) mNil)))))) (mv 8))) (mRet (mc (.bl false))) mNx)
  (mSeq (mAsg (mCall m_reach (mCons (mv 3) (mCons (mv 4) (mCons (mv 5) (mCons (mv 6) (mCons (mc (.bl false)) mNil)))))) (gmN 11))
  (mSeq (mAsg (mLc (miAny (mLst (mCons (mv 5) (mCons (mv 6) mNil)))) (gmN 16) mYes (mLc (miAny (mv 16)) (gmN 17) mYes (mCall (m__law_lesser 2) (mCons (mv 1) (mCons (mv 17) mNil))) [17] finF) [16] finF) (gmN 12))
  (mSeq (mAsg (mCall m_reach (mCons (mv 3) (mCons (mv 4) (mCons (mBin ixD (mv 12) (mc (.int (0)))) (mCons (mBin ixD (mv 12) (mc (.int (1)))) (mCons (mv 7) mNil)))))) (gmN 13))
  (mSeq (mIfS (mOr (mTb (mBin neD (mCall m__law_together (mCons (mLst (mCons (mv 8) (mCons (mv 13) mNil))) mNil)) (mv 8))) (mTb (mBin neD (mCall m__law_together (mCons (mLst (mCons (mv 8) (mCons (mv 11) mNil))) mNil)) (mIf (mTb (mv 7)) (mv 8) (mv 11))))) (mRet (mc (.bl false))) mNx)
  (mSeq (mPar [14, 15] (mCons (mCall m__law_taken (mCons (mv 1) (mCons (mc (.int (64))) mNil))) (mCons (mBin ixD (mLst (mCons (mc (.str "g")) (mCons (mc (.str "s")) mNil))) (mCall m__law_taken (mCons (mv 1) (mCons (mc (.int (2))) mNil)))) mNil)))
  (mIfS (mAnd (mTb (mBin isntD (mCall m_touching (mCons (mv 3) (mCons (mv 4) (mCons (mv 5) (mCons (mv 6) (mCons (mv 14) (mCons (mv 15) mNil))))))) (mc .non))) (mTb (mBin ninD (mv 15) (mGet2 (mCall dictPD (mCons (mv 11) mNil)) (mv 14) (mc (.str "")))))) (mRet (mc (.bl false))) mNx)))))))))))))))))
  (mRet (mc (.bl true)))))
def m_law : List D → AH → R D := mFun 1 18 b_law
end K21

set_option Elab.async false
set_option linter.all false
set_option maxRecDepth 100000
set_option maxHeartbeats 4000000
namespace K21
open PySem L2 Tg
def top (i : Nat) : Stmt := PySem.Challenge.pw_tagmachine_k21_whole_each_word_by_itself.main.body.getD i (.Pass ⟨0, 0, 0, 0⟩)
abbrev s__law_taken : Stmt := top 35
abbrev n__law_taken : List Str := ["_law_row", "_law_many", "_law_found", "_law_cell"]
abbrev p__law_taken : List Str := ["_law_row", "_law_many"]
abbrev s__law_number : Stmt := top 36
abbrev n__law_number : List Str := ["_law_row", "_law_way"]
abbrev p__law_number : List Str := ["_law_row"]
abbrev s__law_rights : Stmt := top 41
abbrev n__law_rights : List Str := ["_law_row", "_law_often", "_law_sign"]
abbrev p__law_rights : List Str := ["_law_row"]
abbrev s__law_key : Stmt := top 40
abbrev n__law_key : List Str := ["_law_row", "_law_most", "_law_begin", "_law_end", "_law_at"]
abbrev p__law_key : List Str := ["_law_row", "_law_most"]
abbrev s__law_one : Stmt := top 38
abbrev n__law_one : List Str := ["_law_row", "_law_most", "_law_rows", "_law_way", "_law_plain"]
abbrev p__law_one : List Str := ["_law_row", "_law_most", "_law_rows"]
abbrev s__law_nearly : Stmt := top 39
abbrev n__law_nearly : List Str := ["_law_row", "_law_word", "_law_begin", "_law_end", "_law_at", "_law_rights_here", "_law_way"]
abbrev p__law_nearly : List Str := ["_law_row", "_law_word"]
abbrev s__law_state : Stmt := top 37
abbrev n__law_state : List Str := ["_law_row", "_law_rows", "_law_rooms", "_law_most", "_law_few", "_law_cells", "_law_boxes", "_law_turn", "_law_k"]
abbrev p__law_state : List Str := ["_law_row", "_law_rows"]
abbrev s__law_chained : Stmt := top 33
abbrev n__law_chained : List Str := ["_law_row", "_law_most", "_law_rows", "_law_cells", "_law_left", "_law_some", "_law_k", "_law_rights_here", "_law_key_here"]
abbrev p__law_chained : List Str := ["_law_row", "_law_most", "_law_rows"]
abbrev s_is_number : Stmt := top 14
abbrev n_is_number : List Str := ["word"]
abbrev p_is_number : List Str := ["word"]
abbrev s_is_within : Stmt := top 15
abbrev n_is_within : List Str := ["number", "low", "high"]
abbrev p_is_within : List Str := ["number", "low", "high"]
abbrev s_are_rights : Stmt := top 16
abbrev n_are_rights : List Str := ["part", "sign"]
abbrev p_are_rights : List Str := ["part"]
abbrev s_is_key : Stmt := top 17
abbrev n_is_key : List Str := ["word", "most", "begin", "end", "at", "rights"]
abbrev p_is_key : List Str := ["word", "most"]
abbrev s_is_plain : Stmt := top 18
abbrev n_is_plain : List Str := ["word", "most"]
abbrev p_is_plain : List Str := ["word", "most"]
abbrev s_is_word : Stmt := top 19
abbrev n_is_word : List Str := ["word", "most", "rows"]
abbrev p_is_word : List Str := ["word", "most", "rows"]
abbrev s_need_words : Stmt := top 20
abbrev n_need_words : List Str := ["words", "many", "most", "rows", "before", "place"]
abbrev p_need_words : List Str := ["words", "many", "most", "rows", "before"]
abbrev s_need_state : Stmt := top 21
abbrev n_need_state : List Str := ["rows", "rooms", "cells", "boxes", "most"]
abbrev p_need_state : List Str := ["rows", "rooms", "cells", "boxes"]
abbrev s_Found_meet : Stmt := inClass (top 27) 1
abbrev n_Found_meet : List Str := ["self", "word", "rows", "known", "ahead"]
abbrev p_Found_meet : List Str := ["self", "word", "rows"]
abbrev s_kind_of : Stmt := top 22
abbrev n_kind_of : List Str := ["word"]
abbrev p_kind_of : List Str := ["word"]
abbrev s_to_cell : Stmt := top 28
abbrev n_to_cell : List Str := ["key", "cell", "letter", "far", "rows", "part"]
abbrev p_to_cell : List Str := ["key", "cell", "letter"]
abbrev s_Found_go_on : Stmt := inClass (top 27) 2
abbrev n_Found_go_on : List Str := ["self", "word", "rows", "cell"]
abbrev p_Found_go_on : List Str := ["self", "word", "rows"]
abbrev s_Found___init__ : Stmt := inClass (top 27) 0
abbrev n_Found___init__ : List Str := ["self", "cells", "boxes", "gates", "number", "at", "word", "rows"]
abbrev p_Found___init__ : List Str := ["self", "cells", "boxes", "gates"]
abbrev s_may_touch : Stmt := top 26
abbrev n_may_touch : List Str := ["word", "cell", "letter"]
abbrev p_may_touch : List Str := ["word", "cell", "letter"]
abbrev s_Found_letters : Stmt := inClass (top 27) 3
abbrev n_Found_letters : List Str := ["self", "cell", "found", "letter", "word", "rows"]
abbrev p_Found_letters : List Str := ["self", "cell"]
abbrev s_reach : Stmt := top 29
abbrev n_reach : List Str := ["rows", "rooms", "cells", "boxes", "gates", "found", "told", "cell", "pair"]
abbrev p_reach : List Str := ["rows", "rooms", "cells", "boxes", "gates"]
abbrev s__law_together : Stmt := top 34
abbrev n__law_together : List Str := ["_law_some", "_law_found", "_law_told", "_law_cell", "_law_letters", "_law_both", "_law_sign"]
abbrev p__law_together : List Str := ["_law_some"]
abbrev s__law_lesser : Stmt := top 32
abbrev n__law_lesser : List Str := ["_law_row", "_law_word", "_law_begin", "_law_end", "_law_rights_here", "_law_sign"]
abbrev p__law_lesser : List Str := ["_law_row", "_law_word"]
abbrev s_touching : Stmt := top 30
abbrev n_touching : List Str := ["rows", "rooms", "cells", "boxes", "cell", "letter", "found", "word", "ahead", "row"]
abbrev p_touching : List Str := ["rows", "rooms", "cells", "boxes", "cell", "letter"]
abbrev s_law : Stmt := top 42
abbrev n_law : List Str := ["_law_script", "_law_row", "_law_turn", "_law_rows", "_law_rooms", "_law_cells", "_law_boxes", "_law_gates", "_law_told", "_law_alone", "_law_k", "_law_bare", "_law_lower", "_law_less", "_law_cell", "_law_letter", "_law_some", "_law_one_here"]
abbrev p_law : List Str := ["_law_script"]
structure Txt (K : PySem.W.Frag) (w : World) (mg : Str → Option Value) : Prop where
  t__law_taken : TF K mg "_law_taken" "_law_taken" s__law_taken p__law_taken
  t__law_number : TF K mg "_law_number" "_law_number" s__law_number p__law_number
  t__law_rights : TF K mg "_law_rights" "_law_rights" s__law_rights p__law_rights
  t__law_key : TF K mg "_law_key" "_law_key" s__law_key p__law_key
  t__law_one : TF K mg "_law_one" "_law_one" s__law_one p__law_one
  t__law_nearly : TF K mg "_law_nearly" "_law_nearly" s__law_nearly p__law_nearly
  t__law_state : TF K mg "_law_state" "_law_state" s__law_state p__law_state
  t__law_chained : TF K mg "_law_chained" "_law_chained" s__law_chained p__law_chained
  t_is_number : TF K mg "is_number" "is_number" s_is_number p_is_number
  t_is_within : TF K mg "is_within" "is_within" s_is_within p_is_within
  t_are_rights : TF K mg "are_rights" "are_rights" s_are_rights p_are_rights
  t_is_key : TF K mg "is_key" "is_key" s_is_key p_is_key
  t_is_plain : TF K mg "is_plain" "is_plain" s_is_plain p_is_plain
  t_is_word : TF K mg "is_word" "is_word" s_is_word p_is_word
  t_need_words : TF K mg "need_words" "need_words" s_need_words p_need_words
  t_need_state : TF K mg "need_state" "need_state" s_need_state p_need_state
  t_Found_meet : TM K mg "Found" "meet" "Found.meet" s_Found_meet p_Found_meet
  t_kind_of : TF K mg "kind_of" "kind_of" s_kind_of p_kind_of
  t_to_cell : TF K mg "to_cell" "to_cell" s_to_cell p_to_cell
  t_Found_go_on : TM K mg "Found" "go_on" "Found.go_on" s_Found_go_on p_Found_go_on
  t_Found___init__ : TI K mg "Found" "Found.__init__" s_Found___init__ p_Found___init__
  t_may_touch : TF K mg "may_touch" "may_touch" s_may_touch p_may_touch
  t_Found_letters : TM K mg "Found" "letters" "Found.letters" s_Found_letters p_Found_letters
  t_reach : TF K mg "reach" "reach" s_reach p_reach
  t__law_together : TF K mg "_law_together" "_law_together" s__law_together p__law_together
  t__law_lesser : TF K mg "_law_lesser" "_law_lesser" s__law_lesser p__law_lesser
  t_touching : TF K mg "touching" "touching" s_touching p_touching
  t_law : TL K mg "law" s_law "_law_script"
  g_BOXES : GDat K mg "BOXES" g_BOXES
  g_CELLS : GDat K mg "CELLS" g_CELLS
  g_GATE : GDat K mg "GATE" g_GATE
  g_HALF : GDat K mg "HALF" g_HALF
  g_KEY : GDat K mg "KEY" g_KEY
  g_LETTERS : GDat K mg "LETTERS" g_LETTERS
  g_MOST_KEYS : GDat K mg "MOST_KEYS" g_MOST_KEYS
  g_MOST_ROOMS : GDat K mg "MOST_ROOMS" g_MOST_ROOMS
  g_RIGHTS : GDat K mg "RIGHTS" g_RIGHTS
  g_ROOM : GDat K mg "ROOM" g_ROOM
  f_gates : Fds K mg cs_gates "gates"
  f_store : Fds K mg cs_store "store"
  f_words : Fds K mg cs_words "words"
  z_bool : mg "bool" = none
  z_dict : mg "dict" = none
  z_int : mg "int" = none
  z_isinstance : mg "isinstance" = none
  z_len : mg "len" = none
  z_list : mg "list" = none
  z_max : mg "max" = none
  z_min : mg "min" = none
  z_range : mg "range" = none
  z_sorted : mg "sorted" = none
  z_str : mg "str" = none
  z_tuple : mg "tuple" = none
section
variable {P : Program} {w : World} {K : PySem.W.Frag} {mg : Str → Option Value} {base : Heap}
theorem sc__law_taken : FnScope n__law_taken p__law_taken (defScope s__law_taken) := ⟨rfl, rfl, rfl, by decide +kernel, rfl, by decide +kernel, by decide +kernel⟩
theorem d__law_taken (T : Txt K w mg) : Dfn P w K mg base "_law_taken" 1 m__law_taken := dfn_of T.t__law_taken sc__law_taken fun f cd A outer s H E hr => ⟨_, by
  unfold b__law_taken
  exact
  (sscons
  (sifS (tcmp op_gt oGtS (six hr (sv 0) sint) sint (nomark _)) (sscons
  (sset 2 (sc__law_taken).nd (sop op_mod oModS (six hr (sv 0) sint) (sv 1)))
  (sscons
  (ssub hr (sv 0) sint (sop op_fdiv oFdivS (six hr (sv 0) sint) (sv 1)))
  (ssone
  (sret (sv 2))))) ssnil)
  (sscons
  (ssub hr (sv 0) sint (sop oAdd oAddS (six hr (sv 0) sint) sint))
  (sscons
  (sifS (tcmp op_gt oGtS (six hr (sv 0) sint) (sbuilt oLen oLenS T.z_len (acons (six hr (sv 0) sint) anil)) (nomark _)) (sscons
  (ssub hr (sv 0) sint (sop op_mod oModS (sop oAdd oAddS (sop oMul oMulS (six hr (sv 0) sint) sint) sint) sint))
  (ssone
  (sret (sop op_mod oModS (sop op_fdiv oFdivS (six hr (sv 0) sint) sint) (sv 1))))) ssnil)
  (sscons
  (sset 3 (sc__law_taken).nd (six hr (six hr (sv 0) sint) (sop op_sub oSubS (six hr (sv 0) sint) sint)))
  (sscons
  (ssub hr (sv 0) sint (sop op_mod oModS (sop oAdd oAddS (sop oAdd oAddS (sop oMul oMulS (six hr (sv 0) sint) sint) (sv 3)) sint) sint))
  (sscons
  (sifS (tcmp op_ge oGeS (sv 3) (sop op_pow oPowS sint sint) (nomark _)) (ssone
  (ssub hr (sv 0) sint (sop op_fdiv oFdivS (sv 3) (sv 1)))) ssnil)
  (ssone
  (sret (sop op_mod oModS (sv 3) (sv 1))))))))))⟩
theorem sc__law_number : FnScope n__law_number p__law_number (defScope s__law_number) := ⟨rfl, rfl, rfl, by decide +kernel, rfl, by decide +kernel, by decide +kernel⟩
theorem d__law_number (T : Txt K w mg) : Dfn P w K mg base "_law_number" 2 m__law_number := dfn_of T.t__law_number sc__law_number fun f cd A outer s H E hr => ⟨_, by
  unfold b__law_number
  exact
  (sscons
  (sset 1 (sc__law_number).nd (scall (d__law_taken T) hr (by decide) tkF (acons (sv 0) (acons sint anil))))
  (sscons
  (sifS (tcmp op_lt oLtS (sv 1) sint (nomark _)) (ssone
  (sret (six hr (slst (acons (scall (d__law_taken T) hr (by decide) tkF (acons (sv 0) (acons sint anil))) (acons (scall (d__law_taken T) hr (by decide) tkF (acons (sv 0) (acons sint anil))) (acons (sop op_sub oSubS (scall (d__law_taken T) hr (by decide) tkF (acons (sv 0) (acons sint anil))) sint) (acons sint anil))))) (sv 1)))) ssnil)
  (ssone
  (sret (six hr (slst (acons (sop op_sub oSubS (scall (d__law_taken T) hr (by decide) tkF (acons (sv 0) (acons sint anil))) sint) (acons (six hr (slst (acons sint (acons (sop op_sub oSubS sint sint) anil))) (scall (d__law_taken T) hr (by decide) tkF (acons (sv 0) (acons sint anil)))) anil))) (sop op_sub oSubS (sv 1) sint))))))⟩
theorem sc__law_rights : FnScope n__law_rights p__law_rights (defScope s__law_rights) := ⟨rfl, rfl, rfl, by decide +kernel, rfl, by decide +kernel, by decide +kernel⟩
theorem d__law_rights (T : Txt K w mg) : Dfn P w K mg base "_law_rights" 2 m__law_rights := dfn_of T.t__law_rights sc__law_rights fun f cd A outer s H E hr => ⟨_, by
  unfold b__law_rights
  exact
  (sscons
  (sset 1 (sc__law_rights).nd (six hr (slst (acons sint (acons sint (acons sint anil)))) (scall (d__law_taken T) hr (by decide) tkF (acons (sv 0) (acons sint anil)))))
  (ssone
  (sret (smt PySem.F.plainAttrs_str PySem.F.slot_str_join PySem.F.type_str_join mt_join oJoinS sstr (acons (by (refine' slc (own := [("_law_sign", 2)]) fin_f rfl (sc__law_rights).nd ?hi0 ?ok0 ?hg0 ?ht0 ?he0 ?hw0); (case hi0 => exact (iany sstr)); (case ok0 => exact blkOk_by (own := [("_law_sign", 2)]) (N := n__law_rights) (sc := (defScope s__law_rights)) (by decide +kernel)); (case hg0 => exact fun _ _ _ _ _ => sg_fix (gname (i := 2) (sc__law_rights).nd) (by first | exact rfl | (dsimp only [Cx.blk] <;> exact rfl))); (case ht0 => exact fun _ _ _ _ _ => sts_fix (stsone (tcmp op_gt oGtS (scall (d__law_taken T) (by exact hr) (by decide) takes0 (acons (sv 0) (acons (sv 1) anil))) sint (nomark _))) (by first | exact rfl | (dsimp only [Cx.blk] <;> exact rfl))); (case he0 => exact fun _ _ _ _ _ => se_fix (sv 2) (by first | exact rfl | (dsimp only [Cx.blk] <;> exact rfl))); (case hw0 => decide)) anil)))))⟩
theorem sc__law_key : FnScope n__law_key p__law_key (defScope s__law_key) := ⟨rfl, rfl, rfl, by decide +kernel, rfl, by decide +kernel, by decide +kernel⟩
theorem d__law_key (T : Txt K w mg) : Dfn P w K mg base "_law_key" 3 m__law_key := dfn_of T.t__law_key sc__law_key fun f cd A outer s H E hr => ⟨_, by
  unfold b__law_key
  exact
  (sscons
  (sset 2 (sc__law_key).nd (scall (d__law_taken T) hr (by decide) tkF (acons (sv 0) (acons (sv 1) anil))))
  (sscons
  (sset 3 (sc__law_key).nd (sop oAdd oAddS (sop oAdd oAddS (sv 2) sint) (scall (d__law_taken T) hr (by decide) tkF (acons (sv 0) (acons (sbuilt (call_min2 rfl) oMinS T.z_min (acons (sop op_sub oSubS (sv 1) (sv 2)) (acons (six hr (slst (acons sint (acons sint (acons sint anil)))) (scall (d__law_taken T) hr (by decide) tkF (acons (sv 0) (acons sint anil)))) anil))) anil)))))
  (sscons
  (sset 4 (sc__law_key).nd (sop oAdd oAddS (sv 2) (scall (d__law_taken T) hr (by decide) tkF (acons (sv 0) (acons (sop op_sub oSubS (sv 3) (sv 2)) anil)))))
  (sscons
  (sifS (tcmp (oEq hr) oEqS (scall (d__law_taken T) hr (by decide) tkF (acons (sv 0) (acons sint anil))) sint (nomark _)) (ssone
  (sset 4 (sc__law_key).nd (six hr (slst (acons (sop op_sub oSubS (scall (d__law_taken T) hr (by decide) tkF (acons (sv 0) (acons sint anil))) sint) (acons (sv 3) (acons (sop op_sub oSubS (sv 2) sint) anil)))) (scall (d__law_taken T) hr (by decide) tkF (acons (sv 0) (acons sint anil)))))) ssnil)
  (ssone
  (sret (stup (acons sstr (acons (sv 2) (acons (sv 3) (acons (sv 4) (acons (scall (d__law_rights T) hr (by decide) tkF (acons (sv 0) anil)) anil))))))))))))⟩
theorem sc__law_one : FnScope n__law_one p__law_one (defScope s__law_one) := ⟨rfl, rfl, rfl, by decide +kernel, rfl, by decide +kernel, by decide +kernel⟩
theorem d__law_one (T : Txt K w mg) : Dfn P w K mg base "_law_one" 4 m__law_one := dfn_of T.t__law_one sc__law_one fun f cd A outer s H E hr => ⟨_, by
  unfold b__law_one
  exact
  (sscons
  (sset 3 (sc__law_one).nd (scall (d__law_taken T) hr (by decide) tkF (acons (sv 0) (acons sint anil))))
  (sscons
  (sifS (tcmp op_lt oLtS (sv 3) sint (nomark _)) (ssone
  (sret (scall (d__law_number T) hr (by decide) tkF (acons (sv 0) anil)))) ssnil)
  (sscons
  (sset 4 (sc__law_one).nd (sif (tcmp (oEq hr) oEqS (scall (d__law_taken T) hr (by decide) tkF (acons (sv 0) (acons sint anil))) sint (nomark _)) (scall (d__law_number T) hr (by decide) tkF (acons (sv 0) anil)) (scall (d__law_key T) hr (by decide) tkF (acons (sv 0) (acons (sv 1) anil)))))
  (ssone
  (sret (sif (tcmp (oEq hr) oEqS (sv 3) sint (nomark _)) (stup (acons sstr (acons (scall (d__law_taken T) hr (by decide) tkF (acons (sv 0) (acons (sop oAdd oAddS (sv 2) sint) anil))) (acons (sv 4) anil)))) (scall (d__law_key T) hr (by decide) tkF (acons (sv 0) (acons (sv 1) anil)))))))))⟩
theorem sc__law_nearly : FnScope n__law_nearly p__law_nearly (defScope s__law_nearly) := ⟨rfl, rfl, rfl, by decide +kernel, rfl, by decide +kernel, by decide +kernel⟩
theorem d__law_nearly (T : Txt K w mg) : ∀ n : Nat, Dfn P w K mg base "_law_nearly" (1 + n) (m__law_nearly n)
  | 0 => dfn_bad T.t__law_nearly
  | n + 1 => by
    have dg := d__law_nearly T n
    exact dfn_of T.t__law_nearly sc__law_nearly (fun f cd A outer s H E hr => ⟨_, by
  unfold b__law_nearly
  exact
  (sscons
  (sifS (tnot (tval (sisi (T := "tuple") (by decide) T.z_isinstance T.z_tuple (sv 1)))) (ssone
  (sret (sif (tcmp (oEq hr) oEqS (scall (d__law_taken T) hr (Nat.le_trans (by decide) (Nat.le_add_right _ _)) tkF (acons (sv 0) (acons sint anil))) sint (nomark _)) (sv 1) (sbuilt (call_min2 rfl) oMinS T.z_min (acons sint (acons (sop oAdd oAddS (sv 1) sint) anil)))))) ssnil)
  (sscons
  (sifS (tcmp (oEq hr) oEqS (six hr (sv 1) sint) sstr (nomark _)) (sscons
  (sifS (tval (sisi (T := "int") (by decide) T.z_isinstance T.z_int (six hr (sv 1) sint))) (ssone
  (sret (stup (acons sstr (acons (sbuilt (oMax rfl) oMaxS T.z_max (acons sint (acons (sop op_sub oSubS (six hr (sv 1) sint) sint) anil))) (acons (six hr (sv 1) sint) anil)))))) ssnil)
  (ssone
  (sret (stup (acons sstr (acons (six hr (sv 1) sint) (acons (scall dg hr (Nat.le_refl _) tkF (acons (sv 0) (acons (six hr (sv 1) sint) anil))) anil))))))) ssnil)
  (sscons
  (sasg (ssl (sv 1) (osome sint) onone) (gtup rfl (gcons (gname (i := 2) (sc__law_nearly).nd) (gcons (gname (i := 3) (sc__law_nearly).nd) (gcons (gname (i := 4) (sc__law_nearly).nd) (gcons (gname (i := 5) (sc__law_nearly).nd) gnil))))))
  (sscons
  (sset 6 (sc__law_nearly).nd (scall (d__law_taken T) hr (Nat.le_trans (by decide) (Nat.le_add_right _ _)) tkF (acons (sv 0) (acons sint anil))))
  (sscons
  (sifS (tcmp op_lt oLtS (sv 6) sint (nomark _)) (ssone
  (sret (stup (acons sstr (acons (sv 2) (acons (sv 3) (acons (sop oAdd oAddS (sv 4) (six hr (slst (acons sint (acons (sop op_sub oSubS sint sint) anil))) (styp oInt oIntS T.z_int (acons (scmp op_gt oGtS (sv 4) sint (nomark _)) anil)))) (acons (sv 5) anil)))))))) ssnil)
  (sscons
  (sifS (twd (wand (tcmp op_gt oGtS (sop op_sub oSubS (sv 3) (sv 2)) sint (nomark _)) (wand1 (tcmp op_lt oLtS (sv 6) sint (nomark _))))) (ssone
  (sret (stup (acons sstr (acons (sop op_sub oSubS (sop oAdd oAddS (sv 2) (sv 6)) sint) (acons (sop oAdd oAddS (sop op_sub oSubS (sv 3) sint) (sv 6)) (acons (sv 4) (acons (sv 5) anil)))))))) ssnil)
  (ssone
  (sret (stup (acons sstr (acons (sv 2) (acons (sv 3) (acons (sv 4) (acons (ssl (sv 5) (osome sint) onone) anil))))))))))))))⟩)
theorem sc__law_state : FnScope n__law_state p__law_state (defScope s__law_state) := ⟨rfl, rfl, rfl, by decide +kernel, rfl, by decide +kernel, by decide +kernel⟩
theorem d__law_state (T : Txt K w mg) : Dfn P w K mg base "_law_state" 5 m__law_state := dfn_of T.t__law_state sc__law_state fun f cd A outer s H E hr => ⟨_, by
  unfold b__law_state
  exact
  (sscons
  (sset 2 (sc__law_state).nd (six hr (slst (acons sint (acons sint (acons sint (acons sint (acons (scall (d__law_taken T) hr (by decide) tkF (acons (sv 0) (acons sint anil))) anil)))))) (scall (d__law_taken T) hr (by decide) tkF (acons (sv 0) (acons sint anil)))))
  (sscons
  (sset 3 (sc__law_state).nd (sop op_sub oSubS sint (sop oMul oMulS sint (sv 2))))
  (sscons
  (sset 4 (sc__law_state).nd (six hr (slst (acons sint (acons sint (acons sint anil)))) (scall (d__law_taken T) hr (by decide) tkF (acons (sv 0) (acons sint anil)))))
  (sscons
  (by (refine' ssetLc 5 (own := [("_law_k", 8)]) fin_f rfl (sc__law_state).nd ?hi0 ?ok0 ?hg0 ?ht0 ?he0 ?hw0); (case hi0 => exact (irng1 T.z_range (acons (sv 3) anil))); (case ok0 => exact blkOk_by (own := [("_law_k", 8)]) (N := n__law_state) (sc := (defScope s__law_state)) (by decide +kernel)); (case hg0 => exact fun _ _ _ _ _ => sg_fix (gname (i := 8) (sc__law_state).nd) (by first | exact rfl | (dsimp only [Cx.blk] <;> exact rfl))); (case ht0 => exact fun _ _ _ _ _ => sts_fix stsnil (by first | exact rfl | (dsimp only [Cx.blk] <;> exact rfl))); (case he0 => exact fun _ _ _ _ _ => se_fix (sif (tcmp (oEq (by exact hr)) oEqS (scall (d__law_taken T) (by exact hr) (by decide) takes0 (acons (sv 0) (acons (sv 4) anil))) sint (nomark _)) (scall (d__law_one T) (by exact hr) (by decide) takes0 (acons (sv 0) (acons (sv 3) (acons (sv 1) anil)))) (scall (d__law_taken T) (by exact hr) (by decide) takes0 (acons (sv 0) (acons sint anil)))) (by first | exact rfl | (dsimp only [Cx.blk] <;> exact rfl))); (case hw0 => decide))
  (sscons
  (by (refine' ssetLc 6 (own := [("_law_k", 8)]) fin_n rfl (sc__law_state).nd ?hi0 ?ok0 ?hg0 ?ht0 ?he0 ?hw0); (case hi0 => exact (irng1 T.z_range (acons sint anil))); (case ok0 => exact blkOk_by (own := [("_law_k", 8)]) (N := n__law_state) (sc := (defScope s__law_state)) (by decide +kernel)); (case hg0 => exact fun _ _ _ _ _ => sg_fix (gname (i := 8) (sc__law_state).nd) (by first | exact rfl | (dsimp only [Cx.blk] <;> exact rfl))); (case ht0 => exact fun _ _ _ _ _ => sts_fix stsnil (by first | exact rfl | (dsimp only [Cx.blk] <;> exact rfl))); (case he0 => exact fun _ _ _ _ _ => se_fix (scall (d__law_one T) (by exact hr) (by decide) takes0 (acons (sv 0) (acons (sv 3) (acons (sv 1) anil)))) (by first | exact rfl | (dsimp only [Cx.blk] <;> exact rfl))); (case hw0 => decide))
  (sscons
  (sfor psF rfl (irng1 T.z_range (acons (scall (d__law_taken T) hr (by decide) tkF (acons (sv 0) (acons sint anil))) anil)) (gname (i := 7) (sc__law_state).nd) (sscons
  (sset 8 (sc__law_state).nd (scall (d__law_taken T) hr (by decide) tkF (acons (sv 0) (acons sint anil))))
  (ssone
  (ssub hr (sv 6) (scall (d__law_taken T) hr (by decide) tkF (acons (sv 0) (acons sint anil))) (scall (d__law_nearly T 2) hr (by decide) tkF (acons (sv 0) (acons (six hr (sv 6) (sv 8)) anil)))))))
  (ssone
  (sret (stup (acons (sv 2) (acons (sv 5) (acons (sv 6) anil))))))))))))⟩
theorem sc__law_chained : FnScope n__law_chained p__law_chained (defScope s__law_chained) := ⟨rfl, rfl, rfl, by decide +kernel, rfl, by decide +kernel, by decide +kernel⟩
theorem d__law_chained (T : Txt K w mg) : Dfn P w K mg base "_law_chained" 3 m__law_chained := dfn_of T.t__law_chained sc__law_chained fun f cd A outer s H E hr => ⟨_, by
  unfold b__law_chained
  exact
  (sscons
  (sset 3 (sc__law_chained).nd (sop oMul oMulNS (slst (acons sint anil)) (sv 1)))
  (sscons
  (sset 4 (sc__law_chained).nd (slrgN rfl T.z_list T.z_range (sv 1)))
  (sscons
  (by (refine' ssetLc 5 (own := [("_law_k", 6)]) fin_f rfl (sc__law_chained).nd ?hi0 ?ok0 ?hg0 ?ht0 ?he0 ?hw0); (case hi0 => exact (irng1 T.z_range (acons (sop oAdd oAddS sint (scall (d__law_taken T) hr (by decide) tkF (acons (sv 0) (acons (sbuilt (call_min2 rfl) oMinS T.z_min (acons (sop op_sub oSubS (sv 1) sint) (acons sint anil))) anil)))) anil))); (case ok0 => exact blkOk_by (own := [("_law_k", 6)]) (N := n__law_chained) (sc := (defScope s__law_chained)) (by decide +kernel)); (case hg0 => exact fun _ _ _ _ _ => sg_fix (gname (i := 6) (sc__law_chained).nd) (by first | exact rfl | (dsimp only [Cx.blk] <;> exact rfl))); (case ht0 => exact fun _ _ _ _ _ => sts_fix stsnil (by first | exact rfl | (dsimp only [Cx.blk] <;> exact rfl))); (case he0 => exact fun _ _ _ _ _ => se_fix (smt PySem.F.plainAttrs_list PySem.F.slot_list_pop PySem.F.type_list_pop mt_popAt oPopAtS (sv 4) (acons (scall (d__law_taken T) (by exact hr) (by decide) takes0 (acons (sv 0) (acons (sbuilt oLen oLenS T.z_len (acons (sv 4) anil)) anil))) anil)) (by first | exact rfl | (dsimp only [Cx.blk] <;> exact rfl))); (case hw0 => decide))
  (sscons
  (sfor psF rfl (irng1 T.z_range (acons (sop op_sub oSubS (sbuilt oLen oLenS T.z_len (acons (sv 5) anil)) sint) anil)) (gname (i := 6) (sc__law_chained).nd) (sscons
  (sset 7 (sc__law_chained).nd (six hr (slst (acons sstr (acons sstr (acons sstr (acons (scall (d__law_rights T) hr (by decide) tkF (acons (sv 0) anil)) anil))))) (scall (d__law_taken T) hr (by decide) tkF (acons (sv 0) (acons sint anil)))))
  (sscons
  (sset 8 (sc__law_chained).nd (stup (acons sstr (acons (six hr (sv 5) (sop oAdd oAddS (sv 6) sint)) (acons (sop oAdd oAddS (six hr (sv 5) (sop oAdd oAddS (sv 6) sint)) sint) (acons (six hr (sv 5) (sop oAdd oAddS (sv 6) sint)) (acons (sv 7) anil)))))))
  (ssone
  (ssub hr (sv 3) (six hr (sv 5) (sv 6)) (sif (tcmp op_gt oGtS (scall (d__law_taken T) hr (by decide) tkF (acons (sv 0) (acons sint anil))) sint (nomark _)) (sv 8) (stup (acons sstr (acons (scall (d__law_taken T) hr (by decide) tkF (acons (sv 0) (acons (sop oAdd oAddS (sv 2) sint) anil))) (acons (sv 8) anil))))))))))
  (ssone
  (sret (stup (acons (sv 3) (acons (stup (acons sstr (acons (six hr (sv 5) sint) (acons (sop oAdd oAddS (six hr (sv 5) sint) sint) (acons sint (acons sstr anil)))))) anil)))))))))⟩
theorem sc_is_number : FnScope n_is_number p_is_number (defScope s_is_number) := ⟨rfl, rfl, rfl, by decide +kernel, rfl, by decide +kernel, by decide +kernel⟩
theorem d_is_number (T : Txt K w mg) : Dfn P w K mg base "is_number" 1 m_is_number := dfn_of T.t_is_number sc_is_number fun f cd A outer s H E hr => ⟨_, by
  unfold b_is_number
  exact
  (ssone
  (sret (sand (sisi (T := "int") (by decide) T.z_isinstance T.z_int (sv 0)) (sone (snot (sisi (T := "bool") (by decide) T.z_isinstance T.z_bool (sv 0)))))))⟩
theorem sc_is_within : FnScope n_is_within p_is_within (defScope s_is_within) := ⟨rfl, rfl, rfl, by decide +kernel, rfl, by decide +kernel, by decide +kernel⟩
theorem d_is_within (T : Txt K w mg) : Dfn P w K mg base "is_within" 2 m_is_within := dfn_of T.t_is_within sc_is_within fun f cd A outer s H E hr => ⟨_, by
  unfold b_is_within
  exact
  (ssone
  (sret (sand (scall (d_is_number T) hr (by decide) tkF (acons (sv 0) anil)) (sone (schain op_le op_lt oLeS oLtS (sv 1) (sv 0) (sv 2))))))⟩
theorem sc_are_rights : FnScope n_are_rights p_are_rights (defScope s_are_rights) := ⟨rfl, rfl, rfl, by decide +kernel, rfl, by decide +kernel, by decide +kernel⟩
theorem d_are_rights (T : Txt K w mg) : Dfn P w K mg base "are_rights" 1 m_are_rights := dfn_of T.t_are_rights sc_are_rights fun f cd A outer s H E hr => ⟨_, by
  unfold b_are_rights
  exact
  (ssone
  (sret (sand (sisi (T := "str") (by decide) T.z_isinstance T.z_str (sv 0)) (sone (scmp (oEq hr) oEqS (sv 0) (smt PySem.F.plainAttrs_str PySem.F.slot_str_join PySem.F.type_str_join mt_join oJoinS sstr (acons (by (refine' slc (own := [("sign", 1)]) fin_f rfl (sc_are_rights).nd ?hi0 ?ok0 ?hg0 ?ht0 ?he0 ?hw0); (case hi0 => exact (iany (sglob T.g_RIGHTS))); (case ok0 => exact blkOk_by (own := [("sign", 1)]) (N := n_are_rights) (sc := (defScope s_are_rights)) (by decide +kernel)); (case hg0 => exact fun _ _ _ _ _ => sg_fix (gname (i := 1) (sc_are_rights).nd) (by first | exact rfl | (dsimp only [Cx.blk] <;> exact rfl))); (case ht0 => exact fun _ _ _ _ _ => sts_fix (stsone (tcmp (oIn (by exact hr)) oInS (sv 1) (sv 0) (by with_unfolding_all rfl))) (by first | exact rfl | (dsimp only [Cx.blk] <;> exact rfl))); (case he0 => exact fun _ _ _ _ _ => se_fix (sv 1) (by first | exact rfl | (dsimp only [Cx.blk] <;> exact rfl))); (case hw0 => decide)) anil)) (nomark _))))))⟩
theorem sc_is_key : FnScope n_is_key p_is_key (defScope s_is_key) := ⟨rfl, rfl, rfl, by decide +kernel, rfl, by decide +kernel, by decide +kernel⟩
theorem d_is_key (T : Txt K w mg) : Dfn P w K mg base "is_key" 3 m_is_key := dfn_of T.t_is_key sc_is_key fun f cd A outer s H E hr => ⟨_, by
  unfold b_is_key
  exact
  (sscons
  (sifS (twd (wor (tnot (tval (sisi (T := "tuple") (by decide) T.z_isinstance T.z_tuple (sv 0)))) (wor (tcmp (oNe hr) oNeS (sbuilt oLen oLenS T.z_len (acons (sv 0) anil)) sint (nomark _)) (wor1 (tcmp (oNe hr) oNeS (six hr (sv 0) sint) (sglob T.g_KEY) (nomark _)))))) (ssone
  (sret sbl)) ssnil)
  (sscons
  (sasg (ssl (sv 0) (osome sint) onone) (gtup rfl (gcons (gname (i := 2) (sc_is_key).nd) (gcons (gname (i := 3) (sc_is_key).nd) (gcons (gname (i := 4) (sc_is_key).nd) (gcons (gname (i := 5) (sc_is_key).nd) gnil))))))
  (sscons
  (sifS (twd (wor (tnot (tval (scall (d_is_within T) hr (by decide) tkF (acons (sv 2) (acons sint (acons (sv 1) anil)))))) (wor1 (tnot (tval (scall (d_is_within T) hr (by decide) tkF (acons (sv 3) (acons (sop oAdd oAddS (sv 2) sint) (acons (sop oAdd oAddS (sv 1) sint) anil))))))))) (ssone
  (sret sbl)) ssnil)
  (ssone
  (sret (sand (scall (d_is_within T) hr (by decide) tkF (acons (sv 4) (acons (sop op_sub oSubS sint (sglob T.g_HALF)) (acons (sglob T.g_HALF) anil)))) (sone (scall (d_are_rights T) hr (by decide) tkF (acons (sv 5) anil)))))))))⟩
theorem sc_is_plain : FnScope n_is_plain p_is_plain (defScope s_is_plain) := ⟨rfl, rfl, rfl, by decide +kernel, rfl, by decide +kernel, by decide +kernel⟩
theorem d_is_plain (T : Txt K w mg) : Dfn P w K mg base "is_plain" 4 m_is_plain := dfn_of T.t_is_plain sc_is_plain fun f cd A outer s H E hr => ⟨_, by
  unfold b_is_plain
  exact
  (ssone
  (sret (sor (scall (d_is_within T) hr (by decide) tkF (acons (sv 0) (acons (sop op_sub oSubS sint (sglob T.g_HALF)) (acons (sglob T.g_HALF) anil)))) (sone (scall (d_is_key T) hr (by decide) tkF (acons (sv 0) (acons (sv 1) anil)))))))⟩
theorem sc_is_word : FnScope n_is_word p_is_word (defScope s_is_word) := ⟨rfl, rfl, rfl, by decide +kernel, rfl, by decide +kernel, by decide +kernel⟩
theorem d_is_word (T : Txt K w mg) : Dfn P w K mg base "is_word" 5 m_is_word := dfn_of T.t_is_word sc_is_word fun f cd A outer s H E hr => ⟨_, by
  unfold b_is_word
  exact
  (sscons
  (sifS (tval (scall (d_is_plain T) hr (by decide) tkF (acons (sv 0) (acons (sv 1) anil)))) (ssone
  (sret sbl)) ssnil)
  (sscons
  (sifS (twd (wor (tnot (tval (sisi (T := "tuple") (by decide) T.z_isinstance T.z_tuple (sv 0)))) (wor (tcmp (oNe hr) oNeS (sbuilt oLen oLenS T.z_len (acons (sv 0) anil)) sint (nomark _)) (wor1 (tcmp (oNe hr) oNeS (six hr (sv 0) sint) (sglob T.g_GATE) (nomark _)))))) (ssone
  (sret sbl)) ssnil)
  (ssone
  (sret (sand (scall (d_is_within T) hr (by decide) tkF (acons (six hr (sv 0) sint) (acons sint (acons (sop oAdd oAddS (sv 2) sint) anil)))) (sone (scall (d_is_plain T) hr (by decide) tkF (acons (six hr (sv 0) sint) (acons (sv 1) anil)))))))))⟩
theorem sc_need_words : FnScope n_need_words p_need_words (defScope s_need_words) := ⟨rfl, rfl, rfl, by decide +kernel, rfl, by decide +kernel, by decide +kernel⟩
theorem d_need_words (T : Txt K w mg) : Dfn P w K mg base "need_words" 6 m_need_words := dfn_of T.t_need_words sc_need_words fun f cd A outer s H E hr => ⟨_, by
  unfold b_need_words
  exact
  (sscons
  (sfor psF rfl (irng1 T.z_range (acons (sv 1) anil)) (gname (i := 5) (sc_need_words).nd) (ssone
  (sifS (twd (wor (tcmp op_ge oGeS (sv 5) (sbuilt oLen oLenS T.z_len (acons (sv 0) anil)) (nomark _)) (wor1 (tnot (tval (scall (d_is_word T) hr (by decide) tkF (acons (six hr (sv 0) (sv 5)) (acons (sv 2) (acons (sv 3) anil))))))))) (ssone
  snever) ssnil)))
  (ssone
  (sifS (tcmp op_gt oGtS (sbuilt oLen oLenS T.z_len (acons (sv 0) anil)) (sv 1) (nomark _)) (ssone
  snever) ssnil)))⟩
theorem sc_need_state : FnScope n_need_state p_need_state (defScope s_need_state) := ⟨rfl, rfl, rfl, by decide +kernel, rfl, by decide +kernel, by decide +kernel⟩
theorem d_need_state (T : Txt K w mg) : Dfn P w K mg base "need_state" 7 m_need_state := dfn_of T.t_need_state sc_need_state fun f cd A outer s H E hr => ⟨_, by
  unfold b_need_state
  exact
  (sscons
  (sifS (tnot (tval (scall (d_is_within T) hr (by decide) tkF (acons (sv 1) (acons sint (acons (sop oAdd oAddS (sglob T.g_MOST_ROOMS) sint) anil)))))) (ssone
  snever) ssnil)
  (sscons
  (sset 4 (sc_need_state).nd (sop op_sub oSubS (sglob T.g_CELLS) (sop oMul oMulS (sglob T.g_ROOM) (sv 1))))
  (sscons
  (sexpr (scall (d_need_words T) hr (by decide) tkF (acons (sv 2) (acons (sv 4) (acons (sv 4) (acons (sv 0) (acons sint anil)))))))
  (ssone
  (sexpr (scall (d_need_words T) hr (by decide) tkF (acons (sv 3) (acons (sglob T.g_BOXES) (acons (sv 4) (acons (sv 0) (acons (sv 4) anil)))))))))))⟩
theorem sc_Found_meet : FnScope n_Found_meet p_Found_meet (defScope s_Found_meet) := ⟨rfl, rfl, rfl, by decide +kernel, rfl, by decide +kernel, by decide +kernel⟩
theorem d_Found_meet (T : Txt K w mg) : Mtd P w K mg base "Found" "meet" 2 m_Found_meet := mtd_of T.t_Found_meet sc_Found_meet fun f cd A outer s H E hr => ⟨_, by
  unfold b_Found_meet
  exact
  (ssone
  (sifS (twd (wand (tnot (tval (scall (d_is_number T) hr (by decide) tkF (acons (sv 1) anil)))) (wand1 (tcmp (oNIn hr) oNInS (sv 1) (by (refine' slc (own := [("known", 3), ("ahead", 4)]) fin_f rfl (sc_Found_meet).nd ?hi0 ?ok0 ?hg0 ?ht0 ?he0 ?hw0); (case hi0 => exact (iany (sfld T.f_words (sv 0)))); (case ok0 => exact blkOk_by (own := [("known", 3), ("ahead", 4)]) (N := n_Found_meet) (sc := (defScope s_Found_meet)) (by decide +kernel)); (case hg0 => exact fun _ _ _ _ _ => sg_fix (gtup rfl (gcons (gname (i := 3) (sc_Found_meet).nd) (gcons (gname (i := 4) (sc_Found_meet).nd) gnil))) (by first | exact rfl | (dsimp only [Cx.blk] <;> exact rfl))); (case ht0 => exact fun _ _ _ _ _ => sts_fix stsnil (by first | exact rfl | (dsimp only [Cx.blk] <;> exact rfl))); (case he0 => exact fun _ _ _ _ _ => se_fix (sv 3) (by first | exact rfl | (dsimp only [Cx.blk] <;> exact rfl))); (case hw0 => decide)) (by with_unfolding_all rfl))))) (ssone
  (sexpr (smt PySem.F.plainAttrs_list PySem.F.slot_list_append PySem.F.type_list_append mt_append oAppS (sfld T.f_words (sv 0)) (acons (stup (acons (sv 1) (acons (sv 2) anil))) anil)))) ssnil))⟩
theorem sc_kind_of : FnScope n_kind_of p_kind_of (defScope s_kind_of) := ⟨rfl, rfl, rfl, by decide +kernel, rfl, by decide +kernel, by decide +kernel⟩
theorem d_kind_of (T : Txt K w mg) : Dfn P w K mg base "kind_of" 2 m_kind_of := dfn_of T.t_kind_of sc_kind_of fun f cd A outer s H E hr => ⟨_, by
  unfold b_kind_of
  exact
  (ssone
  (sret (sif (tval (scall (d_is_number T) hr (by decide) tkF (acons (sv 0) anil))) sint (six hr (sdct (spcons (sglob T.g_KEY) sint (spcons (sglob T.g_GATE) sint spnil))) (six hr (sv 0) sint)))))⟩
theorem sc_to_cell : FnScope n_to_cell p_to_cell (defScope s_to_cell) := ⟨rfl, rfl, rfl, by decide +kernel, rfl, by decide +kernel, by decide +kernel⟩
theorem d_to_cell (T : Txt K w mg) : Dfn P w K mg base "to_cell" 1 m_to_cell := dfn_of T.t_to_cell sc_to_cell fun f cd A outer s H E hr => ⟨_, by
  unfold b_to_cell
  exact
  (sscons
  (sset 3 (sc_to_cell).nd (sop op_sub oSubS (sv 1) (six hr (sv 0) sint)))
  (sscons
  (sset 4 (sc_to_cell).nd (stup anil))
  (sscons
  (swh fuelN psF (tnot (tchain op_lt op_lt oLtS oLtS (sun un_neg oNegS sint) (sv 3) sint)) (sscons
  (sset 5 (sc_to_cell).nd (sbuilt (oMax rfl) oMaxS T.z_max (acons (sun un_neg oNegS sint) (acons (sbuilt (call_min2 rfl) oMinS T.z_min (acons sint (acons (sv 3) anil))) anil))))
  (sscons
  (sset 4 (sc_to_cell).nd (sop oAdd oAddS (sv 4) (stup (acons (stup (acons sstr (acons sint (acons (sv 5) anil)))) (acons (stup (acons sstr (acons sint (acons sint (acons sint anil))))) anil)))))
  (ssone
  (sset 3 (sc_to_cell).nd (sop op_sub oSubS (sv 3) (sv 5)))))))
  (ssone
  (sret (sop oAdd oAddS (sv 4) (sif (tcmp (oEq hr) oEqS (sv 2) sstr (nomark _)) (stup (acons (stup (acons sstr (acons sint (acons sint (acons (sv 3) anil))))) anil)) (stup (acons (stup (acons sstr (acons sint (acons sint anil)))) (acons (stup (acons sstr (acons sint (acons (sv 3) (acons sint anil))))) anil))))))))))⟩
theorem sc_Found_go_on : FnScope n_Found_go_on p_Found_go_on (defScope s_Found_go_on) := ⟨rfl, rfl, rfl, by decide +kernel, rfl, by decide +kernel, by decide +kernel⟩
theorem d_Found_go_on (T : Txt K w mg) : Mtd P w K mg base "Found" "go_on" 3 m_Found_go_on := mtd_of T.t_Found_go_on sc_Found_go_on fun f cd A outer s H E hr => ⟨_, by
  unfold b_Found_go_on
  exact
  (sscons
  (sifS (tcmp (oEq hr) oEqS (scall (d_kind_of T) hr (by decide) tkF (acons (sv 1) anil)) sint (nomark _)) (sscons
  (sifS (tval (sfld T.f_gates (sv 0))) (ssone
  (sexpr (smeth (d_Found_meet T) hr (by decide) tkF (sv 0) (acons (six hr (sv 1) sint) (acons snon anil))))) ssnil)
  (ssone
  sretN)) ssnil)
  (ssone
  (sifS (twd (wand (tcmp (oIn hr) oInS sstr (six hr (sv 1) sint) (by with_unfolding_all rfl)) (wand1 (tcmp (oIn hr) oInS sstr (six hr (sv 1) sint) (by with_unfolding_all rfl))))) (ssone
  (sfor psF rfl (irng2 T.z_range (acons (six hr (sv 1) sint) (acons (sbuilt (call_min2 rfl) oMinS T.z_min (acons (six hr (sv 1) sint) (acons (sbuilt oLen oLenS T.z_len (acons (sfld T.f_store (sv 0)) anil)) anil))) anil))) (gname (i := 3) (sc_Found_go_on).nd) (ssone
  (sexpr (smeth (d_Found_meet T) hr (by decide) tkF (sv 0) (acons (six hr (sfld T.f_store (sv 0)) (sv 3)) (acons (sif (tcmp op_isN oIsS (sv 2) snon (nomark _)) snon (sop oAdd oAddS (sv 2) (scall (d_to_cell T) hr (by decide) tkF (acons (sv 1) (acons (sv 3) (acons sstr anil)))))) anil))))))) ssnil)))⟩
theorem sc_Found___init__ : FnScope n_Found___init__ p_Found___init__ (defScope s_Found___init__) := ⟨rfl, rfl, rfl, by decide +kernel, rfl, by decide +kernel, by decide +kernel⟩
theorem d_Found___init__ (T : Txt K w mg) : Mkr P w K mg base "Found" 4 m_Found___init__ := mkr_of T.t_Found___init__ sc_Found___init__ fun f cd A outer s H E hr => ⟨_, by
  unfold b_Found___init__
  exact
  (sscons
  (sfldS T.f_store (sv 0) (sv 1))
  (sscons
  (sfldS T.f_gates (sv 0) (sv 3))
  (sscons
  (sfldS T.f_words (sv 0) (slstN anil))
  (sscons
  (sfor psF rfl (irng1 T.z_range (acons (sbuilt oLen oLenS T.z_len (acons (sv 2) anil)) anil)) (gname (i := 4) (sc_Found___init__).nd) (ssone
  (sexpr (smeth (d_Found_meet T) hr (by decide) tkF (sv 0) (acons (six hr (sv 2) (sv 4)) (acons (stup (acons (stup (acons sstr (acons sint (acons (sv 4) anil)))) anil)) anil))))))
  (sscons
  (sset 5 (sc_Found___init__).nd sint)
  (ssone
  (swh fuelN psF (tcmp op_lt oLtS (sv 5) (sbuilt oLen oLenS T.z_len (acons (sfld T.f_words (sv 0)) anil)) (nomark _)) (sscons
  (sasg (six hr (sfld T.f_words (sv 0)) (sv 5)) (gtup rfl (gcons (gname (i := 6) (sc_Found___init__).nd) (gcons (gname (i := 7) (sc_Found___init__).nd) gnil))))
  (sscons
  (sexpr (smeth (d_Found_go_on T) hr (by decide) tkF (sv 0) (acons (sv 6) (acons (sv 7) anil))))
  (ssone
  (sset 5 (sc_Found___init__).nd (sop oAdd oAddS (sv 5) sint))))))))))))⟩
theorem sc_may_touch : FnScope n_may_touch p_may_touch (defScope s_may_touch) := ⟨rfl, rfl, rfl, by decide +kernel, rfl, by decide +kernel, by decide +kernel⟩
theorem d_may_touch (T : Txt K w mg) : Dfn P w K mg base "may_touch" 1 m_may_touch := dfn_of T.t_may_touch sc_may_touch fun f cd A outer s H E hr => ⟨_, by
  unfold b_may_touch
  exact
  (ssone
  (sret (sand (scmp (oEq hr) oEqS (six hr (sv 0) sint) (sglob T.g_KEY) (nomark _)) (sand (schain op_le op_lt oLeS oLtS (six hr (sv 0) sint) (sv 1) (six hr (sv 0) sint)) (sone (scmp (oIn hr) oInS (sv 2) (six hr (sv 0) sint) (by with_unfolding_all rfl)))))))⟩
theorem sc_Found_letters : FnScope n_Found_letters p_Found_letters (defScope s_Found_letters) := ⟨rfl, rfl, rfl, by decide +kernel, rfl, by decide +kernel, by decide +kernel⟩
theorem d_Found_letters (T : Txt K w mg) : Mtd P w K mg base "Found" "letters" 2 m_Found_letters := mtd_of T.t_Found_letters sc_Found_letters fun f cd A outer s H E hr => ⟨_, by
  unfold b_Found_letters
  exact
  (sscons
  (sset 2 (sc_Found_letters).nd sstr)
  (sscons
  (sfor psF rfl (iany (sglob T.g_LETTERS)) (gname (i := 3) (sc_Found_letters).nd) (ssone
  (sifS (tcmp (oNe hr) oNeS (by (refine' slc (own := [("word", 4), ("rows", 5)]) fin_f rfl (sc_Found_letters).nd ?hi0 ?ok0 ?hg0 ?ht0 ?he0 ?hw0); (case hi0 => exact (iany (sfld T.f_words (sv 0)))); (case ok0 => exact blkOk_by (own := [("word", 4), ("rows", 5)]) (N := n_Found_letters) (sc := (defScope s_Found_letters)) (by decide +kernel)); (case hg0 => exact fun _ _ _ _ _ => sg_fix (gtup rfl (gcons (gname (i := 4) (sc_Found_letters).nd) (gcons (gname (i := 5) (sc_Found_letters).nd) gnil))) (by first | exact rfl | (dsimp only [Cx.blk] <;> exact rfl))); (case ht0 => exact fun _ _ _ _ _ => sts_fix (stsone (tval (scall (d_may_touch T) (by exact hr) (by decide) takes0 (acons (sv 4) (acons (sv 1) (acons (sv 3) anil)))))) (by first | exact rfl | (dsimp only [Cx.blk] <;> exact rfl))); (case he0 => exact fun _ _ _ _ _ => se_fix (sv 4) (by first | exact rfl | (dsimp only [Cx.blk] <;> exact rfl))); (case hw0 => decide)) (slst anil) (nomark _)) (ssone
  (sset 2 (sc_Found_letters).nd (sop oAdd oAddS (sv 2) (sv 3)))) ssnil)))
  (ssone
  (sret (sv 2)))))⟩
theorem sc_reach : FnScope n_reach p_reach (defScope s_reach) := ⟨rfl, rfl, rfl, by decide +kernel, rfl, by decide +kernel, by decide +kernel⟩
theorem d_reach (T : Txt K w mg) : Dfn P w K mg base "reach" 8 m_reach := dfn_of T.t_reach sc_reach fun f cd A outer s H E hr => ⟨_, by
  unfold b_reach
  exact
  (sscons
  (sexpr (scall (d_need_state T) hr (by decide) tkF (acons (sv 0) (acons (sv 1) (acons (sv 2) (acons (sv 3) anil))))))
  (sscons
  (sset 5 (sc_reach).nd (smake (d_Found___init__ T) hr (by decide) tkF (acons (sv 2) (acons (sv 3) (acons (sv 4) anil)))))
  (sscons
  (by (refine' ssetLc 6 (own := [("cell", 7)]) fin_f rfl (sc_reach).nd ?hi0 ?ok0 ?hg0 ?ht0 ?he0 ?hw0); (case hi0 => exact (irng1 T.z_range (acons (sglob T.g_CELLS) anil))); (case ok0 => exact blkOk_by (own := [("cell", 7)]) (N := n_reach) (sc := (defScope s_reach)) (by decide +kernel)); (case hg0 => exact fun _ _ _ _ _ => sg_fix (gname (i := 7) (sc_reach).nd) (by first | exact rfl | (dsimp only [Cx.blk] <;> exact rfl))); (case ht0 => exact fun _ _ _ _ _ => sts_fix stsnil (by first | exact rfl | (dsimp only [Cx.blk] <;> exact rfl))); (case he0 => exact fun _ _ _ _ _ => se_fix (stup (acons (sv 7) (acons (smeth (d_Found_letters T) (by exact hr) (by decide) takes0 (sv 5) (acons (sv 7) anil)) anil))) (by first | exact rfl | (dsimp only [Cx.blk] <;> exact rfl))); (case hw0 => decide))
  (ssone
  (sret (by (refine' slc (own := [("pair", 8)]) fin_f rfl (sc_reach).nd ?hi0 ?ok0 ?hg0 ?ht0 ?he0 ?hw0); (case hi0 => exact (iany (sv 6))); (case ok0 => exact blkOk_by (own := [("pair", 8)]) (N := n_reach) (sc := (defScope s_reach)) (by decide +kernel)); (case hg0 => exact fun _ _ _ _ _ => sg_fix (gname (i := 8) (sc_reach).nd) (by first | exact rfl | (dsimp only [Cx.blk] <;> exact rfl))); (case ht0 => exact fun _ _ _ _ _ => sts_fix (stsone (tcmp (oNe (by exact hr)) oNeS (six (by exact hr) (sv 8) sint) sstr (nomark _))) (by first | exact rfl | (dsimp only [Cx.blk] <;> exact rfl))); (case he0 => exact fun _ _ _ _ _ => se_fix (sv 8) (by first | exact rfl | (dsimp only [Cx.blk] <;> exact rfl))); (case hw0 => decide)))))))⟩
theorem sc__law_together : FnScope n__law_together p__law_together (defScope s__law_together) := ⟨rfl, rfl, rfl, by decide +kernel, rfl, by decide +kernel, by decide +kernel⟩
theorem d__law_together (T : Txt K w mg) : Dfn P w K mg base "_law_together" 1 m__law_together := dfn_of T.t__law_together sc__law_together fun f cd A outer s H E hr => ⟨_, by
  unfold b__law_together
  exact
  (sscons
  (sset 1 (sc__law_together).nd sdct0N)
  (sscons
  (sfor psF rfl (iany (sv 0)) (gname (i := 2) (sc__law_together).nd) (ssone
  (sfor psF rfl (iany (sv 2)) (gtup rfl (gcons (gname (i := 3) (sc__law_together).nd) (gcons (gname (i := 4) (sc__law_together).nd) gnil))) (sscons
  (sset 5 (sc__law_together).nd (sop oAdd oAddS (sget2 hr (sv 1) (sv 3) sstr) (sv 4)))
  (ssone
  (ssub hr (sv 1) (sv 3) (smt PySem.F.plainAttrs_str PySem.F.slot_str_join PySem.F.type_str_join mt_join oJoinS sstr (acons (by (refine' slc (own := [("_law_sign", 6)]) fin_f rfl (sc__law_together).nd ?hi0 ?ok0 ?hg0 ?ht0 ?he0 ?hw0); (case hi0 => exact (iany sstr)); (case ok0 => exact blkOk_by (own := [("_law_sign", 6)]) (N := n__law_together) (sc := (defScope s__law_together)) (by decide +kernel)); (case hg0 => exact fun _ _ _ _ _ => sg_fix (gname (i := 6) (sc__law_together).nd) (by first | exact rfl | (dsimp only [Cx.blk] <;> exact rfl))); (case ht0 => exact fun _ _ _ _ _ => sts_fix (stsone (tcmp (oIn (by exact hr)) oInS (sv 6) (sv 5) (by with_unfolding_all rfl))) (by first | exact rfl | (dsimp only [Cx.blk] <;> exact rfl))); (case he0 => exact fun _ _ _ _ _ => se_fix (sv 6) (by first | exact rfl | (dsimp only [Cx.blk] <;> exact rfl))); (case hw0 => decide)) anil))))))))
  (ssone
  (sret (by (refine' slc (own := [("_law_cell", 3)]) fin_f rfl (sc__law_together).nd ?hi0 ?ok0 ?hg0 ?ht0 ?he0 ?hw0); (case hi0 => exact (iany (sbuilt (oSrtK rfl) oSrtKS T.z_sorted (acons (sv 1) anil)))); (case ok0 => exact blkOk_by (own := [("_law_cell", 3)]) (N := n__law_together) (sc := (defScope s__law_together)) (by decide +kernel)); (case hg0 => exact fun _ _ _ _ _ => sg_fix (gname (i := 3) (sc__law_together).nd) (by first | exact rfl | (dsimp only [Cx.blk] <;> exact rfl))); (case ht0 => exact fun _ _ _ _ _ => sts_fix stsnil (by first | exact rfl | (dsimp only [Cx.blk] <;> exact rfl))); (case he0 => exact fun _ _ _ _ _ => se_fix (stup (acons (sv 3) (acons (six (by exact hr) (sv 1) (sv 3)) anil))) (by first | exact rfl | (dsimp only [Cx.blk] <;> exact rfl))); (case hw0 => decide))))))⟩
theorem sc__law_lesser : FnScope n__law_lesser p__law_lesser (defScope s__law_lesser) := ⟨rfl, rfl, rfl, by decide +kernel, rfl, by decide +kernel, by decide +kernel⟩
theorem d__law_lesser (T : Txt K w mg) : ∀ n : Nat, Dfn P w K mg base "_law_lesser" (2 + n) (m__law_lesser n)
  | 0 => dfn_bad T.t__law_lesser
  | n + 1 => by
    have dg := d__law_lesser T n
    exact dfn_of T.t__law_lesser sc__law_lesser (fun f cd A outer s H E hr => ⟨_, by
  unfold b__law_lesser
  exact
  (sscons
  (sifS (twd (wor (tval (sisi (T := "int") (by decide) T.z_isinstance T.z_int (sv 1))) (wor1 (tcmp (oEq hr) oEqS (scall (d__law_taken T) hr (Nat.le_trans (by decide) (Nat.le_add_right _ _)) tkF (acons (sv 0) (acons sint anil))) sint (nomark _))))) (ssone
  (sret (sif (tcmp op_gt oGtS (scall (d__law_taken T) hr (Nat.le_trans (by decide) (Nat.le_add_right _ _)) tkF (acons (sv 0) (acons sint anil))) sint (nomark _)) (sv 1) (scall (d__law_number T) hr (Nat.le_trans (by decide) (Nat.le_add_right _ _)) tkF (acons (sv 0) anil))))) ssnil)
  (sscons
  (sifS (tcmp (oEq hr) oEqS (six hr (sv 1) sint) sstr (nomark _)) (ssone
  (sret (stup (acons sstr (acons (six hr (sv 1) sint) (acons (scall dg hr (Nat.le_refl _) tkF (acons (sv 0) (acons (six hr (sv 1) sint) anil))) anil)))))) ssnil)
  (sscons
  (sset 2 (sc__law_lesser).nd (sop oAdd oAddS (six hr (sv 1) sint) (scall (d__law_taken T) hr (Nat.le_trans (by decide) (Nat.le_add_right _ _)) tkF (acons (sv 0) (acons (sop op_sub oSubS (six hr (sv 1) sint) (six hr (sv 1) sint)) anil)))))
  (sscons
  (sset 3 (sc__law_lesser).nd (sop oAdd oAddS (sop oAdd oAddS (sv 2) sint) (scall (d__law_taken T) hr (Nat.le_trans (by decide) (Nat.le_add_right _ _)) tkF (acons (sv 0) (acons (sop op_sub oSubS (six hr (sv 1) sint) (sv 2)) anil)))))
  (sscons
  (sset 4 (sc__law_lesser).nd (smt PySem.F.plainAttrs_str PySem.F.slot_str_join PySem.F.type_str_join mt_join oJoinS sstr (acons (by (refine' slc (own := [("_law_sign", 5)]) fin_f rfl (sc__law_lesser).nd ?hi0 ?ok0 ?hg0 ?ht0 ?he0 ?hw0); (case hi0 => exact (iany (six hr (sv 1) sint))); (case ok0 => exact blkOk_by (own := [("_law_sign", 5)]) (N := n__law_lesser) (sc := (defScope s__law_lesser)) (by decide +kernel)); (case hg0 => exact fun _ _ _ _ _ => sg_fix (gname (i := 5) (sc__law_lesser).nd) (by first | exact rfl | (dsimp only [Cx.blk] <;> exact rfl))); (case ht0 => exact fun _ _ _ _ _ => sts_fix (stsone (tcmp op_gt oGtS (scall (d__law_taken T) (by exact hr) (Nat.le_trans (by decide) (Nat.le_add_right _ _)) takes0 (acons (sv 0) (acons sint anil))) sint (nomark _))) (by first | exact rfl | (dsimp only [Cx.blk] <;> exact rfl))); (case he0 => exact fun _ _ _ _ _ => se_fix (sv 5) (by first | exact rfl | (dsimp only [Cx.blk] <;> exact rfl))); (case hw0 => decide)) anil)))
  (ssone
  (sret (stup (acons sstr (acons (sv 2) (acons (sv 3) (acons (six hr (slst (acons (six hr (sv 1) sint) (acons (scall (d__law_number T) hr (Nat.le_trans (by decide) (Nat.le_add_right _ _)) tkF (acons (sv 0) anil)) anil))) (scall (d__law_taken T) hr (Nat.le_trans (by decide) (Nat.le_add_right _ _)) tkF (acons (sv 0) (acons sint anil)))) (acons (sv 4) anil)))))))))))))⟩)
theorem sc_touching : FnScope n_touching p_touching (defScope s_touching) := ⟨rfl, rfl, rfl, by decide +kernel, rfl, by decide +kernel, by decide +kernel⟩
theorem d_touching (T : Txt K w mg) : Dfn P w K mg base "touching" 8 m_touching := dfn_of T.t_touching sc_touching fun f cd A outer s H E hr => ⟨_, by
  unfold b_touching
  exact
  (sscons
  (sexpr (scall (d_need_state T) hr (by decide) tkF (acons (sv 0) (acons (sv 1) (acons (sv 2) (acons (sv 3) anil))))))
  (sscons
  (sifS (twd (wor (tnot (tval (scall (d_is_within T) hr (by decide) tkF (acons (sv 4) (acons sint (acons (sglob T.g_CELLS) anil)))))) (wor1 (tcmp (oNIn hr) oNInS (sv 5) (stup (acons sstr (acons sstr anil))) (by with_unfolding_all rfl))))) (ssone
  snever) ssnil)
  (sscons
  (sset 6 (sc_touching).nd (smake (d_Found___init__ T) hr (by decide) tkF (acons (sv 2) (acons (sv 3) (acons sbl anil)))))
  (sscons
  (sfor psF rfl (iany (sfld T.f_words (sv 6))) (gtup rfl (gcons (gname (i := 7) (sc_touching).nd) (gcons (gname (i := 8) (sc_touching).nd) gnil))) (ssone
  (sifS (twd (wand (tval (scall (d_may_touch T) hr (by decide) tkF (acons (sv 7) (acons (sv 4) (acons (sv 5) anil))))) (wand1 (tcmp op_lt oLtS (sbuilt oLen oLenS T.z_len (acons (by (refine' slc (own := [("row", 9)]) fin_f rfl (sc_touching).nd ?hi0 ?ok0 ?hg0 ?ht0 ?he0 ?hw0); (case hi0 => exact (iany (sv 8))); (case ok0 => exact blkOk_by (own := [("row", 9)]) (N := n_touching) (sc := (defScope s_touching)) (by decide +kernel)); (case hg0 => exact fun _ _ _ _ _ => sg_fix (gname (i := 9) (sc_touching).nd) (by first | exact rfl | (dsimp only [Cx.blk] <;> exact rfl))); (case ht0 => exact fun _ _ _ _ _ => sts_fix (stsone (tcmp (oEq (by exact hr)) oEqS (six (by exact hr) (sv 9) sint) sstr (nomark _))) (by first | exact rfl | (dsimp only [Cx.blk] <;> exact rfl))); (case he0 => exact fun _ _ _ _ _ => se_fix (sv 9) (by first | exact rfl | (dsimp only [Cx.blk] <;> exact rfl))); (case hw0 => decide)) anil)) (sglob T.g_MOST_KEYS) (nomark _))))) (sscons
  (sset 6 (sc_touching).nd (sop oAdd oAddS (sop oAdd oAddS (sv 8) (scall (d_to_cell T) hr (by decide) tkF (acons (sv 7) (acons (sv 4) (acons (sv 5) anil))))) (stup (acons (stup (acons sstr anil)) anil))))
  (ssone
  (sret (sop oAdd oAddS (sv 6) (sop oMulT oMulTS (stup (acons (stup (acons sstr anil)) anil)) (sop op_sub oSubS (sv 0) (sbuilt oLen oLenS T.z_len (acons (sv 6) anil)))))))) ssnil)))
  (ssone
  (sret snon))))))⟩
theorem sc_law : FnScope n_law p_law (defScope s_law) := ⟨rfl, rfl, rfl, by decide +kernel, rfl, by decide +kernel, by decide +kernel⟩
theorem y_law (T : Txt K w mg) : Body P w K mg base n_law "law" s_law 8 b_law := fun f cd A outer s H E hr => ⟨_, by
  unfold b_law
  exact
  (sscons
  (sset 1 (sc_law).nd (slstN (acons (sv 0) (acons sint (acons sint (acons sint anil))))))
  (sscons
  (sfor psF rfl (irng1 T.z_range (acons sint anil)) (gname (i := 2) (sc_law).nd) (sscons
  (sset 3 (sc_law).nd (sop oAdd oAddS sint (scall (d__law_taken T) hr (by decide) tkF (acons (sv 1) (acons sint anil)))))
  (sscons
  (sasg (scall (d__law_state T) hr (by decide) tkF (acons (sv 1) (acons (sv 3) anil))) (gtup rfl (gcons (gname (i := 4) (sc_law).nd) (gcons (gname (i := 5) (sc_law).nd) (gcons (gname (i := 6) (sc_law).nd) gnil)))))
  (sscons
  (sifS (tcmp (oEq hr) oEqS (scall (d__law_taken T) hr (by decide) tkF (acons (sv 1) (acons sint anil))) sint (nomark _)) (ssone
  (sasgTS (i := 5) hr rfl (sc_law).nd (scall (d__law_chained T) hr (by decide) tkF (acons (sv 1) (acons (sbuilt oLen oLenS T.z_len (acons (sv 5) anil)) (acons (sv 3) anil)))) (sv 6) (scall (d__law_taken T) hr (by decide) tkF (acons (sv 1) (acons sint anil))))) ssnil)
  (sscons
  (sset 7 (sc_law).nd (scmp (oEq hr) oEqS (scall (d__law_taken T) hr (by decide) tkF (acons (sv 1) (acons sint anil))) sint (nomark _)))
  (sscons
  (sset 8 (sc_law).nd (scall (d_reach T) hr (by decide) tkF (acons (sv 3) (acons (sv 4) (acons (sv 5) (acons (sv 6) (acons (sv 7) anil)))))))
  (sscons
  (sset 9 (sc_law).nd (slstN anil))
  (sscons
  (sfor psF rfl (irng1 T.z_range (acons sint anil)) (gname (i := 10) (sc_law).nd) (ssone
  (sexpr (smt PySem.F.plainAttrs_list PySem.F.slot_list_append PySem.F.type_list_append mt_append oAppS (sv 9) (acons (scall (d_reach T) hr (by decide) tkF (acons (sv 3) (acons (sv 4) (acons (sv 5) (acons (sop oAdd oAddS (sop oAdd oAddS (sop oMul oMulS (slst (acons sint anil)) (sv 10)) (ssl (sv 6) (osome (sv 10)) (osome (sop oAdd oAddS (sv 10) sint)))) (sop oMul oMulS (slst (acons sint anil)) (sop op_sub oSubS sint (sv 10)))) (acons (sv 7) anil)))))) anil)))))
  (sscons
  (sset 10 (sc_law).nd (scall (d__law_taken T) hr (by decide) tkF (acons (sv 1) (acons sint anil))))
  (sscons
  (sifS (tcmp (oNe hr) oNeS (scall (d__law_together T) hr (by decide) tkF (acons (sv 9) anil)) (sv 8) (nomark _)) (ssone
  (sret sbl)) ssnil)
  (sscons
  (sifS (tcmp (oNe hr) oNeS (scall (d_reach T) hr (by decide) tkF (acons (sv 3) (acons (sv 4) (acons (sv 5) (acons (sop oAdd oAddS (ssl (sv 6) (osome (sv 10)) onone) (ssl (sv 6) onone (osome (sv 10)))) (acons (sv 7) anil)))))) (sv 8) (nomark _)) (ssone
  (sret sbl)) ssnil)
  (sscons
  (sset 11 (sc_law).nd (scall (d_reach T) hr (by decide) tkF (acons (sv 3) (acons (sv 4) (acons (sv 5) (acons (sv 6) (acons sbl anil)))))))
  (sscons
  (by (refine' ssetLc 12 (own := [("_law_some", 16)]) fin_f rfl (sc_law).nd ?hi0 ?ok0 ?hg0 ?ht0 ?he0 ?hw0); (case hi0 => exact (iany (slst (acons (sv 5) (acons (sv 6) anil))))); (case ok0 => exact blkOk_by (own := [("_law_some", 16)]) (N := n_law) (sc := (defScope s_law)) (by decide +kernel)); (case hg0 => exact fun _ _ _ _ _ => sg_fix (gname (i := 16) (sc_law).nd) (by first | exact rfl | (dsimp only [Cx.blk] <;> exact rfl))); (case ht0 => exact fun _ _ _ _ _ => sts_fix stsnil (by first | exact rfl | (dsimp only [Cx.blk] <;> exact rfl))); (case he0 => exact fun _ _ _ _ _ => se_fix (by (refine' slc (own := [("_law_one_here", 17)]) fin_f rfl (sc_law).nd ?hi1 ?ok1 ?hg1 ?ht1 ?he1 ?hw1); (case hi1 => exact (iany (sv 16))); (case ok1 => exact blkOk_by (own := [("_law_one_here", 17)]) (N := n_law) (sc := (relS _ (defScope s_law))) (by decide +kernel)); (case hg1 => exact fun _ _ _ _ _ => sg_fix (gname (i := 17) (sc_law).nd) (by first | exact rfl | (dsimp only [Cx.blk] <;> exact rfl))); (case ht1 => exact fun _ _ _ _ _ => sts_fix stsnil (by first | exact rfl | (dsimp only [Cx.blk] <;> exact rfl))); (case he1 => exact fun _ _ _ _ _ => se_fix (scall (d__law_lesser T 2) (by exact hr) (by decide) takes0 (acons (sv 1) (acons (sv 17) anil))) (by first | exact rfl | (dsimp only [Cx.blk] <;> exact rfl))); (case hw1 => decide)) (by first | exact rfl | (dsimp only [Cx.blk] <;> exact rfl))); (case hw0 => decide))
  (sscons
  (sset 13 (sc_law).nd (scall (d_reach T) hr (by decide) tkF (acons (sv 3) (acons (sv 4) (acons (six hr (sv 12) sint) (acons (six hr (sv 12) sint) (acons (sv 7) anil)))))))
  (sscons
  (sifS (twd (wor (tcmp (oNe hr) oNeS (scall (d__law_together T) hr (by decide) tkF (acons (slst (acons (sv 8) (acons (sv 13) anil))) anil)) (sv 8) (nomark _)) (wor1 (tcmp (oNe hr) oNeS (scall (d__law_together T) hr (by decide) tkF (acons (slst (acons (sv 8) (acons (sv 11) anil))) anil)) (sif (tval (sv 7)) (sv 8) (sv 11)) (nomark _))))) (ssone
  (sret sbl)) ssnil)
  (sscons
  (spar2 (i := 14) (j := 15) rfl (sc_law).nd (acons (scall (d__law_taken T) hr (by decide) tkF (acons (sv 1) (acons sint anil))) (acons (six hr (slst (acons sstr (acons sstr anil))) (scall (d__law_taken T) hr (by decide) tkF (acons (sv 1) (acons sint anil)))) anil)))
  (ssone
  (sifS (twd (wand (tcmp op_notN oIsntS (scall (d_touching T) hr (by decide) tkF (acons (sv 3) (acons (sv 4) (acons (sv 5) (acons (sv 6) (acons (sv 14) (acons (sv 15) anil))))))) snon (nomark _)) (wand1 (tcmp (oNIn hr) oNInS (sv 15) (sget2 hr (styp (oDictP rfl) oDictPS T.z_dict (acons (sv 11) anil)) (sv 14) sstr) (by with_unfolding_all rfl))))) (ssone
  (sret sbl)) ssnil))))))))))))))))))
  (ssone
  (sret sbl))))⟩
end
end K21

set_option Elab.async false
set_option linter.all false
set_option maxRecDepth 100000
set_option maxHeartbeats 4000000
/-! K21P: words that can be; what reach finds. -/
namespace K21
open PySem Tg L2
open SX (S)
/-! ### lists, in whichever way -/
theorem seq_not {A : AH} {d : D} {ds : List D} (h : seqL A d = some ds) : dctD A d = none ∧ itemsD A d = some ds := by
  cases d with
  | ref n =>
    have h' : (match A[n]? with
      | some (.lst ds) => some ds
      | _ => none) = some ds := h
    cases hA : A[n]? with
    | none =>
      rw [hA] at h'
      cases h'
    | some o => cases o with
      | lst es =>
        refine ⟨?_, h⟩
        show (match A[n]? with
          | some (.dct kvs) => some kvs
          | _ => none) = none
        rw [hA]
      | _ =>
        rw [hA] at h'
        cases h'
  | lst es => exact ⟨rfl, h⟩
  | scr ns => exact ⟨rfl, h⟩
  | _ => cases (show none = some ds from h)
theorem len_seq {A : AH} {d : D} {ds : List D} (h : seqL A d = some ds) : lenD [d] A = .ok (.int ds.length) A := by
  obtain ⟨h1, h2⟩ := seq_not h
  unfold lenD
  split
  · rename_i z e
    cases e
    cases (show none = some ds from h)
  · rename_i e
    cases e
    rw [h1]
    dsimp only
    rw [h2]
  · rename_i _ q
    exact absurd rfl (q d)
theorem ix_seq {A : AH} {d x : D} {ds : List D} {i : Int} (h : seqL A d = some ds) (hi : atI ds i = some x) : ixD d (.int i) A = .ok x A := by
  obtain ⟨h1, h2⟩ := seq_not h
  unfold ixD
  split
  · cases (show none = some ds from h)
  · rw [h1]
    dsimp only
    rw [h2]
    dsimp only
    rw [hi]
theorem seq_app {A l : AH} {d : D} {ds : List D} (h : seqL A d = some ds) : seqL (A ++ l) d = some ds := by
  cases d with
  | ref n =>
    have q : n < A.length := by
      by_cases q : n < A.length
      · exact q
      · have e : A[n]? = none := List.getElem?_eq_none_iff.mpr (Nat.le_of_not_lt q)
        have h' : (match A[n]? with
          | some (.lst ds) => some ds
          | _ => none) = some ds := h
        rw [e] at h'
        cases h'
    show (match (A ++ l)[n]? with
      | some (.lst ds) => some ds
      | _ => none) = some ds
    rw [List.getElem?_append_left q]
    exact h
  | _ => exact h
/-! ### words that can be -/
theorem kIt_str {z : Str} {A : AH} : kIt (.ok (.str z) A) = .ok (.data (signs z)) A := rfl
theorem e_emp : Str.ofString "" = S [] := by decide
theorem e_rts : Str.ofString "ghls" = S [103, 104, 108, 115] := by decide
theorem sg_rts : signs (S [103, 104, 108, 115]) = [.str ⟨#[103]⟩, .str ⟨#[104]⟩, .str ⟨#[108]⟩, .str ⟨#[115]⟩] := rfl
theorem joinL_one : ∀ l : List Nat, TL.joinL [] (l.map fun c => [c]) = l
  | [] => rfl
  | [c] => rfl
  | c :: d :: l => by
    show [c] ++ ([] ++ TL.joinL [] ((d :: l).map fun c => [c])) = _
    rw [joinL_one (d :: l)]
    rfl
theorem rights_join {l : List Nat} (h : l ∈ Tg.R16) {A : AH} : joinD (.str (S [])) [.lst (l.map fun c => .str ⟨#[c]⟩)] A = .ok (.str (S l)) A := by
  have := join_S (A := A) (s := []) (k := 1) (ls := l.map fun c => [c]) (fun x hx => by
    obtain ⟨c, _, rfl⟩ := List.mem_map.mp hx
    exact Nat.le_refl 1) (by rw [List.length_map]; have := (R16_ok l h).2; omega)
  rw [joinL_one, List.map_map] at this
  exact this
def raL : ME := mLc (miAny (mc g_RIGHTS)) (gmN 1) (mTb (mBin inD (mv 1) (mv 0))) (mv 1) [1] finF
theorem raL_ok {l : List Nat} (h : l ∈ Tg.R16) {A : AH} : raL [some (.str (S l)), none] A = .ok (.lst (l.map fun c => .str ⟨#[c]⟩)) A := by
  have h' := h
  simp only [Tg.R16, List.mem_cons, List.not_mem_nil, or_false] at h'
  rcases h' with rfl | rfl | rfl | rfl | rfl | rfl | rfl | rfl | rfl | rfl | rfl | rfl | rfl | rfl | rfl | rfl
  all_goals simp [raL, g_RIGHTS, kIt_str, e_rts, sg_rts, in_S]
theorem are_ok {l : List Nat} (h : l ∈ Tg.R16) {A : AH} : m_are_rights [.str (S l)] A = .ok (.bl true) A := by
  have e0 : m_are_rights [.str (S l)] A = finS (mRet (mAndV (mUn (isiD "str") (mv 0)) (mBin eqD (mv 0) (mMt "str" joinD (mc (.str "")) (mCons raL mNil)))) [some (.str (S l)), none] A) := rfl
  rw [e0]
  simp [subTy, raL_ok h, e_emp, rights_join h, tyMD]
theorem numb_int {i : Int} {A : AH} : m_is_number [.int i] A = .ok (.bl true) A := by
  have e0 : m_is_number [.int i] A = finS (b_is_number [some (.int i)] A) := rfl
  rw [e0]
  simp [b_is_number, subTy]
theorem numb_tup {ds : List D} {A : AH} : m_is_number [.tup ds] A = .ok (.bl false) A := by
  have e0 : m_is_number [.tup ds] A = finS (b_is_number [some (.tup ds)] A) := rfl
  rw [e0]
  simp [b_is_number, subTy]
theorem numb_w {w : Wo} {A : AH} : m_is_number [w.d] A = .ok (.bl w.isNum) A := by
  cases w with
  | pl p => cases p with
    | num i => exact numb_int
    | key => exact numb_tup
  | gate => exact numb_tup
theorem within_ok {i lo hi : Int} {A : AH} (h1 : lo ≤ i) (h2 : i < hi) : m_is_within [.int i, .int lo, .int hi] A = .ok (.bl true) A := by
  have e0 : m_is_within [.int i, .int lo, .int hi] A = finS (b_is_within [some (.int i), some (.int lo), some (.int hi)] A) := rfl
  rw [e0]
  simp [b_is_within, numb_int, h1, h2]
theorem within_tup {ds : List D} {lo hi : Int} {A : AH} : m_is_within [.tup ds, .int lo, .int hi] A = .ok (.bl false) A := by
  have e0 : m_is_within [.tup ds, .int lo, .int hi] A = finS (b_is_within [some (.tup ds), some (.int lo), some (.int hi)] A) := rfl
  rw [e0]
  simp [b_is_within, numb_tup]
def k1 : MS := (mIfS (mOr (mNot (mTb (mUn (isiD "tuple") (mv 0)))) (mOr (mTb (mBin neD (mCall lenD (mCons (mv 0) mNil)) (mc (.int (5))))) (mTb (mBin neD (mBin ixD (mv 0) (mc (.int (0)))) (mc g_KEY))))) (mRet (mc (.bl false))) mNx)
def k2 : MS := (mAsg (mSl (mv 0) (mPart (mc (.int (1)))) mNoPart) (gmTup 4 (gmCons (gmN 2) (gmCons (gmN 3) (gmCons (gmN 4) (gmCons (gmN 5) gmNil))))))
def k3 : MS := (mIfS (mOr (mNot (mTb (mCall m_is_within (mCons (mv 2) (mCons (mc (.int (0))) (mCons (mv 1) mNil)))))) (mNot (mTb (mCall m_is_within (mCons (mv 3) (mCons (mBin addD (mv 2) (mc (.int (1)))) (mCons (mBin addD (mv 1) (mc (.int (1)))) mNil))))))) (mRet (mc (.bl false))) mNx)
def k4 : MS := (mRet (mAndV (mCall m_is_within (mCons (mv 4) (mCons (mBin subD (mc (.int (0))) (mc g_HALF)) (mCons (mc g_HALF) mNil)))) (mCall m_are_rights (mCons (mv 5) mNil))))

theorem key_ok {b e a : Int} {r : List Nat} {most : Nat} {A : AH} (h : Pl.Ok most (.key b e a r)) : m_is_key [(Pl.key b e a r).d, .int most] A = .ok (.bl true) A := by
  have e0 : m_is_key [(Pl.key b e a r).d, .int most] A = finS (mSeq k1 (mSeq k2 (mSeq k3 k4)) [some (Pl.key b e a r).d, some (.int most), none, none, none, none] A) := rfl
  cases h with
  | key h1 h2 h3 h4 h5 h6 hr =>
    have c1 : k1 [some (Pl.key b e a r).d, some (.int most), none, none, none, none] A = .nx [some (Pl.key b e a r).d, some (.int most), none, none, none, none] A := by
      simp [k1, Pl.d, subTy, g_KEY]
    have c2 : k2 [some (Pl.key b e a r).d, some (.int most), none, none, none, none] A = .nx [some (Pl.key b e a r).d, some (.int most), some (.int b), some (.int e), some (.int a), some (.str (S r))] A := by
      have : (mSl (mv 0) (mPart (mc (.int (1)))) mNoPart) [some (Pl.key b e a r).d, some (.int most), none, none, none, none] A = .ok (.tup [.int b, .int e, .int a, .str (S r)]) A := by
        have q : slD (Pl.key b e a r).d (some 1) none A = .ok (.tup [.int b, .int e, .int a, .str (S r)]) A := by
          show R.ok (D.tup (cutD _ _ _)) A = _
          rw [cutD1]
        simp [q]
      unfold k2 mAsg
      rw [this]
      rfl
    have c3 : k3 [some (Pl.key b e a r).d, some (.int most), some (.int b), some (.int e), some (.int a), some (.str (S r))] A = .nx [some (Pl.key b e a r).d, some (.int most), some (.int b), some (.int e), some (.int a), some (.str (S r))] A := by
      simp [k3, within_ok h1 h2, within_ok h3 (show e < (most : Int) + 1 by omega)]
    have c4 : k4 [some (Pl.key b e a r).d, some (.int most), some (.int b), some (.int e), some (.int a), some (.str (S r))] A = .rt (.bl true) A := by
      simp [k4, g_HALF, within_ok h5 h6, are_ok hr]
    rw [e0, e_seq, c1, RS.nxt_nx, e_seq, c2, RS.nxt_nx, e_seq, c3, RS.nxt_nx, c4, finS_rt]
theorem key_gate {g : Int} {p : Pl} {most : Nat} {A : AH} : m_is_key [(Wo.gate g p).d, .int most] A = .ok (.bl false) A := by
  have e0 : m_is_key [(Wo.gate g p).d, .int most] A = finS (mSeq k1 (mSeq k2 (mSeq k3 k4)) [some (Wo.gate g p).d, some (.int most), none, none, none, none] A) := rfl
  have c1 : k1 [some (Wo.gate g p).d, some (.int most), none, none, none, none] A = .rt (.bl false) A := by
    simp [k1, Wo.d, subTy, g_KEY]
  rw [e0, e_seq, c1, RS.nxt_rt, finS_rt]
theorem plain_ok {p : Pl} {most : Nat} {A : AH} (h : p.Ok most) : m_is_plain [p.d, .int most] A = .ok (.bl true) A := by
  have e0 : m_is_plain [p.d, .int most] A = finS (b_is_plain [some p.d, some (.int most)] A) := rfl
  rw [e0]
  cases h with
  | num h1 h2 => simp [b_is_plain, Pl.d, g_HALF, within_ok h1 h2]
  | @key b e a r h1 h2 h3 h4 h5 h6 hr =>
    have := key_ok (A := A) (Pl.Ok.key h1 h2 h3 h4 h5 h6 hr)
    simp only [Pl.d] at this ⊢
    simp [b_is_plain, g_HALF, within_tup, this]
theorem plain_gate {g : Int} {p : Pl} {most : Nat} {A : AH} : m_is_plain [(Wo.gate g p).d, .int most] A = .ok (.bl false) A := by
  have e0 : m_is_plain [(Wo.gate g p).d, .int most] A = finS (b_is_plain [some (Wo.gate g p).d, some (.int most)] A) := rfl
  have := key_gate (g := g) (p := p) (most := most) (A := A)
  rw [e0]
  simp only [Wo.d] at this ⊢
  simp [b_is_plain, g_HALF, within_tup, this]
theorem word_ok {w : Wo} {rows most : Nat} {A : AH} (h : w.Ok rows most) : m_is_word [w.d, .int most, .int rows] A = .ok (.bl true) A := by
  have e0 : m_is_word [w.d, .int most, .int rows] A = finS (b_is_word [some w.d, some (.int most), some (.int rows)] A) := rfl
  rw [e0]
  cases h with
  | pl h => simp [b_is_word, Wo.d, plain_ok h]
  | @gate g p h1 h2 h3 =>
    have a := plain_gate (g := g) (p := p) (most := most) (A := A)
    have b := plain_ok (A := A) h3
    simp only [Wo.d] at a ⊢
    simp [b_is_word, a, b, subTy, g_GATE, within_ok h1 h2]
def n1 : MS := (mIfS (mNot (mTb (mCall m_is_within (mCons (mv 1) (mCons (mc (.int (0))) (mCons (mBin addD (mc g_MOST_ROOMS) (mc (.int (1)))) mNil)))))) mNever mNx)
def n2 : MS := (mAsg (mBin subD (mc g_CELLS) (mBin mulD (mc g_ROOM) (mv 1))) (gmN 4))
def n3 : MS := (mDrop (mCall m_need_words (mCons (mv 2) (mCons (mv 4) (mCons (mv 4) (mCons (mv 0) (mCons (mc (.int (0))) mNil)))))))
def n4 : MS := (mDrop (mCall m_need_words (mCons (mv 3) (mCons (mc g_BOXES) (mCons (mv 4) (mCons (mv 0) (mCons (mv 4) mNil)))))))

def bW : MS := (mIfS (mOr (mTb (mBin geD (mv 5) (mCall lenD (mCons (mv 0) mNil)))) (mNot (mTb (mCall m_is_word (mCons (mBin ixD (mv 0) (mv 5)) (mCons (mv 2) (mCons (mv 3) mNil))))))) mNever mNx)
def nW : MS := (mIfS (mTb (mBin gtD (mCall lenD (mCons (mv 0) mNil)) (mv 1))) mNever mNx)
theorem words_ok {dw : D} {ws : List Wo} {rows most many before : Nat} {A : AH} (hdw : seqL A dw = some (ws.map Wo.d)) (h : ∀ w ∈ ws, w.Ok rows most) (hl : ws.length = many) (hm : many ≤ 1000) :
    m_need_words [dw, .int many, .int most, .int rows, .int before] A = .ok .non A := by
  have e0 : m_need_words [dw, .int many, .int most, .int rows, .int before] A = finS (mSeq (mFor (mRng1 (mCons (mv 1) mNil)) (gmN 5) bW) nW [some (dw), some (.int many), some (.int most), some (.int rows), some (.int before), none] A) := rfl
  subst hl
  have hln : lenD [dw] A = .ok (.int ws.length) A := by
    rw [len_seq hdw, List.length_map]
  have hb : ∀ i, i < ws.length → bW [some (dw), some (.int ws.length), some (.int most), some (.int rows), some (.int before), some (.int (i : Int))] A = .nx [some (dw), some (.int ws.length), some (.int most), some (.int rows), some (.int before), some (.int (i : Int))] A := fun i hi => by
    have hq : ixD (dw) (.int (i : Int)) A = .ok (ws[i]).d A := ix_seq hdw (atI_ok (by rw [List.getElem?_map, List.getElem?_eq_getElem hi]; rfl))
    have hi' : ¬ ((ws.length : Int) ≤ i) := by omega
    have hw := word_ok (A := A) (h _ (List.getElem_mem hi))
    simp only [bW, e_ifS, e_or, e_tb, e_bin, e_mvS, e_mv0, kB1_0, e_call, e_cons, e_nil, kC1_0, kC2_0, kCall_0, hln, kB2_0, o_ge, hi', decide_false, kT_0, kOr_1, e_not, hq, hw, kN_0, Bool.not_true, kIf_1, e_nx]
  obtain ⟨s', A', e, e2, o', e3⟩ := forL_inv (g := gmN 5) (b := bW) (ds := (List.range ws.length).map fun i : Nat => D.int (i : Int)) (s := [some (dw), some (.int ws.length), some (.int most), some (.int rows), some (.int before), none]) (A := A)
    (fun s' A' => A' = A ∧ ∃ o', s' = [some (dw), some (.int ws.length), some (.int most), some (.int rows), some (.int before), o']) ⟨rfl, none, rfl⟩ (fun d hd s B hB => by
    obtain ⟨rfl, o', rfl⟩ := hB
    obtain ⟨i, hi, rfl⟩ := List.mem_map.mp hd
    exact ⟨_, _, _, rfl, hb i (List.mem_range.mp hi), rfl, _, rfl⟩)
  subst e2 e3
  have e5 : (mCons (mv 1) mNil) [some (dw), some (.int ws.length), some (.int most), some (.int rows), some (.int before), none] A' = .ok [.int (ws.length : Int)] A' := rfl
  have c2 : nW [some (dw), some (.int ws.length), some (.int most), some (.int rows), some (.int before), o'] A' = .nx [some (dw), some (.int ws.length), some (.int most), some (.int rows), some (.int before), o'] A' := by
    simp [nW, hln]
  rw [e0, e_seq, mFor_data (rng1 e5 (by omega)), e, RS.nxt_nx, c2]
  rfl
theorem drop_call {g : List D → AH → R D} {ma : MA} {s : Sl} {A A1 : AH} {ds : List D} {x : D} (h : ma s A = .ok ds A) (hg : g ds A = .ok x A1) : mDrop (mCall g ma) s A = .nx s A1 := by
  rw [e_drop, e_call, h, kCall_0, hg, kDrop_0]
theorem mul_rooms {rooms : Nat} {A : AH} (h : rooms ≤ 12) : mulD (.int 4) (.int rooms) A = .ok (.int (4 * (rooms : Int))) A := by
  have e : ∀ j : Int, 0 ≤ j → j < 100 → mulD (.int 4) (.int j) A = .ok (.int (4 * j)) A := fun j h0 h1 => o_mulR (Int.lt_of_lt_of_le (b := 0) (by simp) h0) (Int.lt_of_lt_of_le h1 (by simp))
  exact e _ (by omega) (by omega)
theorem state_ok {dc db : D} {rows rooms : Nat} {cells boxes : List Wo} {A : AH} (hdc : seqL A dc = some (cells.map Wo.d)) (hdb : seqL A db = some (boxes.map Wo.d)) (hr : rooms ≤ 12) (hc : ∀ w ∈ cells, w.Ok rows (64 - 4 * rooms)) (hb : ∀ w ∈ boxes, w.Ok rows (64 - 4 * rooms)) (lc : cells.length = 64 - 4 * rooms) (lb : boxes.length = 8) :
    m_need_state [.int rows, .int rooms, dc, db] A = .ok .non A := by
  have e0 : m_need_state [.int rows, .int rooms, dc, db] A = finS (b_need_state [some (.int rows), some (.int rooms), some (dc), some (db), none] A) := rfl
  have a := words_ok (A := A) (before := 0) hdc hc lc (by omega)
  have b := words_ok (A := A) (before := 64 - 4 * rooms) hdb hb lb (by omega)
  have em : (64 : Int) - 4 * (rooms : Int) = ((64 - 4 * rooms : Nat) : Int) := by omega
  have hm := mul_rooms (A := A) hr
  have a' : m_need_words [dc, .int ((64 - 4 * rooms : Nat) : Int), .int ((64 - 4 * rooms : Nat) : Int), .int rows, .int 0] A = .ok .non A := a
  have b' : m_need_words [db, .int 8, .int ((64 - 4 * rooms : Nat) : Int), .int rows, .int ((64 - 4 * rooms : Nat) : Int)] A = .ok .non A := b
  have c1 : n1 [some (.int rows), some (.int rooms), some (dc), some (db), none] A = .nx [some (.int rows), some (.int rooms), some (dc), some (db), none] A := by
    simp [n1, g_MOST_ROOMS, within_ok (show (0 : Int) ≤ rooms by omega) (show (rooms : Int) < 13 by omega)]
  have c2 : n2 [some (.int rows), some (.int rooms), some (dc), some (db), none] A = .nx [some (.int rows), some (.int rooms), some (dc), some (db), some (.int ((64 - 4 * rooms : Nat) : Int))] A := by
    simp only [n2, e_asgN, e_bin, e_mc, kB1_0, e_mvS, e_mv0, kB2_0, g_CELLS, g_ROOM, hm, o_sub, em]
    rfl
  have c3 : n3 [some (.int rows), some (.int rooms), some (dc), some (db), some (.int ((64 - 4 * rooms : Nat) : Int))] A = .nx [some (.int rows), some (.int rooms), some (dc), some (db), some (.int ((64 - 4 * rooms : Nat) : Int))] A := drop_call rfl a'
  have c4 : n4 [some (.int rows), some (.int rooms), some (dc), some (db), some (.int ((64 - 4 * rooms : Nat) : Int))] A = .nx [some (.int rows), some (.int rooms), some (dc), some (db), some (.int ((64 - 4 * rooms : Nat) : Int))] A := drop_call rfl b'
  rw [e0, show b_need_state = mSeq n1 (mSeq n2 (mSeq n3 n4)) from rfl, e_seq, c1, RS.nxt_nx, e_seq, c2, RS.nxt_nx, e_seq, c3, RS.nxt_nx, c4]
  rfl
end K21


set_option Elab.async false
set_option linter.all false
set_option maxRecDepth 100000
set_option maxHeartbeats 4000000
/-! K21Q: Found. -/
namespace K21
open PySem Tg L2
open SX (S)
theorem drop_meth {c n0 : Str} {g : List D → AH → R D} {mo : ME} {ma : MA} {s : Sl} {A A1 : AH} {n : Nat} {fs : List (Str × D)} {ds : List D} {x : D} (hm : mo s A = .ok (.ref n) A) (hA : A[n]? = some (.ins c fs)) (hf : fs.lookup n0 = none) (ha : ma s A = .ok ds A) (hg : g (.ref n :: ds) A = .ok x A1) :
    mDrop (mMeth c n0 g mo ma) s A = .nx s A1 := by
  rw [e_drop, e_meth, hm, kMe1_0, hA, kMe2_0, if_pos ⟨rfl, hf⟩, ha, kMe3_0, hg, kDrop_0]
abbrev Ro := Option (List D)
/-- rows that begin with a word -/
def RowsOk (l : List D) : Prop := ∀ d ∈ l, ∃ (z : String) (ds : List D), d = .tup (.str z :: ds)
theorem RowsOk.app {l m : List D} (h : RowsOk l) (h' : RowsOk m) : RowsOk (l ++ m) := fun d hd => (List.mem_append.mp hd).elim (h d) (h' d)
theorem rows1 {z : String} {ds : List D} : RowsOk [.tup (.str z :: ds)] := fun d hd => ⟨z, ds, List.mem_singleton.mp hd⟩
theorem rows2 {z y : String} {ds es : List D} : RowsOk [.tup (.str z :: ds), .tup (.str y :: es)] := rows1.app rows1
def roD : Ro → D
  | none => .non
  | some l => .tup l
def prD (x : Wo × Ro) : D := .tup [x.1.d, roD x.2]
def encF (A0 : AH) (dc : D) (gates : Bool) (ws : List (Wo × Ro)) : AH := A0 ++ [.ins "Found" [("store", dc), ("gates", .bl gates), ("words", .ref (A0.length + 1))], .lst (ws.map prD)]
def meetP (ws : List (Wo × Ro)) (w : Wo) (o : Ro) : List (Wo × Ro) := if w.isNum || decide (w ∈ ws.map (·.1)) then ws else ws ++ [(w, o)]
section
variable {A0 : AH} {dc : D} {cells : List Wo} {gates : Bool} {ws : List (Wo × Ro)} {rows most : Nat}
theorem seq_enc {d : D} {ds : List D} (h : seqL A0 d = some ds) : seqL (encF A0 dc gates ws) d = some ds := seq_app h
theorem enc_ins : (encF A0 dc gates ws)[A0.length]? = some (.ins "Found" [("store", dc), ("gates", .bl gates), ("words", .ref (A0.length + 1))]) := by simp [encF]
theorem enc_ws : (encF A0 dc gates ws)[A0.length + 1]? = some (.lst (ws.map prD)) := by simp [encF]
theorem enc_set {vs : List (Wo × Ro)} : (encF A0 dc gates ws).set (A0.length + 1) (.lst (vs.map prD)) = encF A0 dc gates vs := by simp [encF]
theorem f_words : fldD cs_words "words" (.ref A0.length) (encF A0 dc gates ws) = .ok (.ref (A0.length + 1)) (encF A0 dc gates ws) := by
  rw [fld_ref, enc_ins]
  simp [cs_words, List.lookup]
theorem f_store : fldD cs_store "store" (.ref A0.length) (encF A0 dc gates ws) = .ok (dc) (encF A0 dc gates ws) := by
  rw [fld_ref, enc_ins]
  simp [cs_store, List.lookup]
theorem f_gates : fldD cs_gates "gates" (.ref A0.length) (encF A0 dc gates ws) = .ok (.bl gates) (encF A0 dc gates ws) := by
  rw [fld_ref, enc_ins]
  simp [cs_gates, List.lookup]
def mKn : ME := mLc (miAny (mFld cs_words "words" (mv 0))) (gmTup 2 (gmCons (gmN 3) (gmCons (gmN 4) gmNil))) mYes (mv 3) [3, 4] finF
theorem kn_ok {x y : Option D} (hl : ws.length < 16777216) : mKn [some (.ref A0.length), x, y, none, none] (encF A0 dc gates ws) = .ok (.lst ((ws.map (·.1)).map Wo.d)) (encF A0 dc gates ws) := by
  have e1 : miAny (mFld cs_words "words" (mv 0)) [some (.ref A0.length), x, y, none, none] (encF A0 dc gates ws) = .ok (.ref (A0.length + 1)) (encF A0 dc gates ws) := by
    refine it_ref ?_ enc_ws
    rw [e_fld, e_mv0, kF_0, f_words]
  have := lc_all (fin := finF) (g := gmTup 2 (gmCons (gmN 3) (gmCons (gmN 4) gmNil))) (tt := mYes) (te := mv 3) (vs := [3, 4]) (ds := ws.map prD) (ps := ws.map fun x => (true, x.1.d)) e1 (nx_ref enc_ws) (ln_ref enc_ws) (by rw [List.length_map]; exact hl) (All2.maps fun x _ => ⟨_, rfl, rfl, fun _ => rfl⟩)
  unfold mKn
  rw [this]
  have e2 : (((ws.map fun x => (true, x.1.d)).filter (·.1)).map (·.2)) = (ws.map (·.1)).map Wo.d := by
    rw [List.filter_eq_self.mpr (fun b hb => by
      obtain ⟨x, _, rfl⟩ := List.mem_map.mp hb
      rfl), List.map_map, List.map_map]
    rfl
  rw [e2]
  rfl
theorem meet_ok {w : Wo} {o : Ro} (hl : ws.length < 16777216) (hws : ∀ x ∈ ws.map (·.1), x.Ok rows most) (hw : w.Ok rows most) :
    m_Found_meet [.ref A0.length, w.d, roD o] (encF A0 dc gates ws) = .ok .non (encF A0 dc gates (meetP ws w o)) := by
  have e0 : m_Found_meet [.ref A0.length, w.d, roD o] (encF A0 dc gates ws) = finS (mIfS (mAnd (mNot (mTb (mCall m_is_number (mCons (mv 1) mNil)))) (mTb (mBin ninD (mv 1) mKn))) (mDrop (mMt "list" appD (mFld cs_words "words" (mv 0)) (mCons (mTup (mCons (mv 1) (mCons (mv 2) mNil))) mNil))) mNx [some (.ref A0.length), some w.d, some (roD o), none, none] (encF A0 dc gates ws)) := rfl
  rw [e0]
  cases hn : w.isNum with
  | true => simp [numb_w, hn, meetP]
  | false =>
    have k := kn_ok (A0 := A0) (dc := dc) (gates := gates) (x := some w.d) (y := some (roD o)) hl
    have q := nin_w (A := encF A0 dc gates ws) hws hw hn
    by_cases hm : w ∈ ws.map (·.1)
    · rw [decide_eq_true hm] at q
      have e : meetP ws w o = ws := by unfold meetP; rw [hn, decide_eq_true hm]; rfl
      rw [e]
      simp only [e_ifS, e_and, e_not, e_tb, e_call, e_cons, e_nil, e_mvS, e_mv0, kC1_0, kC2_0, kCall_0, numb_w, hn, kT_0, kN_0, Bool.not_false, kAnd_0, e_bin, kB1_0, k, kB2_0, q, Bool.not_true, kIf_1, e_nx, finS_nx]
    · rw [decide_eq_false hm] at q
      have e : meetP ws w o = ws ++ [(w, o)] := by unfold meetP; rw [hn, decide_eq_false hm]; rfl
      have hap : appD (.ref (A0.length + 1)) [.tup [w.d, roD o]] (encF A0 dc gates ws) = .ok .non (encF A0 dc gates (ws ++ [(w, o)])) := by
        rw [app_ref, enc_ws]
        dsimp only
        rw [List.length_map, if_pos hl]
        have e9 := enc_set (A0 := A0) (dc := dc) (gates := gates) (ws := ws) (vs := ws ++ [(w, o)])
        rw [List.map_append] at e9
        exact congrArg (R.ok D.non) e9
      have hty : tyMD (encF A0 dc gates ws) "list" (.ref (A0.length + 1)) = true := by
        rw [ty_list, seq_ref, enc_ws]
        rfl
      rw [e]
      simp only [e_ifS, e_and, e_not, e_tb, e_call, e_cons, e_nil, e_mvS, e_mv0, kC1_0, kC2_0, kCall_0, numb_w, hn, kT_0, kN_0, Bool.not_false, kAnd_0, e_bin, kB1_0, k, kB2_0, q, kIf_0, e_drop, e_mt, e_fld, kF_0, f_words, kM1_0, hty, if_true, e_tup, kTup_0, List.length_cons, List.length_nil, kM2_0]
      rw [if_pos (by decide), kC1_0, e_nil, kC2_0, kM2_0, hap]
      rfl
/-! ### who is met -/
def meetF (F : List Wo) (w : Wo) : List Wo := if w.isNum || decide (w ∈ F) then F else F ++ [w]
structure St (gates : Bool) (F : List Wo) (k : Nat) (ws : List (Wo × Ro)) : Prop where
  f : ws.map (·.1) = F
  r : ∀ x ∈ ws, ∀ l, x.2 = some l → l.length ≤ k ∧ RowsOk l
  s : gates = false → ∀ x ∈ ws, x.2 ≠ none
theorem St.mono {F : List Wo} {k k' : Nat} (h : St gates F k ws) (hk : k ≤ k') : St gates F k' ws := ⟨h.f, fun x hx l hl => ⟨Nat.le_trans (h.r x hx l hl).1 hk, (h.r x hx l hl).2⟩, h.s⟩
theorem St.meet {F : List Wo} {k : Nat} {w : Wo} {o : Ro} (h : St gates F k ws) (ho : ∀ l, o = some l → l.length ≤ k ∧ RowsOk l) (hs : gates = false → o ≠ none) : St gates (meetF F w) k (meetP ws w o) := by
  have hf := h.f
  subst hf
  unfold meetF meetP
  split
  · exact h
  · refine ⟨by rw [List.map_append]; rfl, fun x hx l hl => ?_, fun hg x hx => ?_⟩
    · rcases List.mem_append.mp hx with hx | hx
      · exact h.r x hx l hl
      · rw [List.mem_singleton.mp hx] at hl
        exact ho l hl
    · rcases List.mem_append.mp hx with hx | hx
      · exact h.s hg x hx
      · rw [List.mem_singleton.mp hx]
        exact hs hg
/-- all that was met can be come to -/
structure Inv (gates : Bool) (cells boxes : List Wo) (F : List Wo) : Prop where
  nd : F.Nodup
  re : ∀ w ∈ F, Reach gates cells boxes w
theorem Inv.len {boxes F : List Wo} (h : Inv gates cells boxes F) : F.length ≤ 2 * (cells.length + boxes.length) :=
  Nat.le_trans (nodup_le h.nd fun w hw => (h.re w hw).univ) univ_len
theorem Inv.meet {boxes F : List Wo} {w : Wo} (h : Inv gates cells boxes F) (hw : w.isNum = false → Reach gates cells boxes w) : Inv gates cells boxes (meetF F w) := by
  unfold meetF
  split
  · exact h
  · rename_i q
    simp only [Bool.or_eq_true, decide_eq_true_eq, not_or, Bool.not_eq_true] at q
    refine ⟨List.nodup_append.mpr ⟨h.nd, by simp, fun a ha b hb => ?_⟩, fun x hx => ?_⟩
    · rw [List.mem_singleton.mp hb]
      exact fun e => q.2 (e ▸ ha)
    · rcases List.mem_append.mp hx with hx | hx
      · exact h.re x hx
      · rw [List.mem_singleton.mp hx]
        exact hw q.1
theorem meetF_pre {F : List Wo} {w : Wo} : ∃ t, meetF F w = F ++ t := by
  unfold meetF
  split
  · exact ⟨[], (List.append_nil F).symm⟩
  · exact ⟨[w], rfl⟩
theorem meetF_mem {F : List Wo} {w : Wo} (hn : w.isNum = false) : w ∈ meetF F w := by
  unfold meetF
  split
  · rename_i q
    simp only [Bool.or_eq_true, decide_eq_true_eq, hn, Bool.false_eq_true, false_or] at q
    exact q
  · exact List.mem_append_right _ (List.mem_singleton.mpr rfl)
theorem fold_pre : ∀ (us : List Wo) (F : List Wo), ∃ t, us.foldl meetF F = F ++ t
  | [], F => ⟨[], (List.append_nil F).symm⟩
  | u :: us, F => by
    obtain ⟨t, e⟩ := meetF_pre (F := F) (w := u)
    obtain ⟨t2, e2⟩ := fold_pre us (meetF F u)
    exact ⟨t ++ t2, by rw [List.foldl_cons, e2, e, List.append_assoc]⟩
theorem fold_mem : ∀ {us : List Wo} {F : List Wo} {w : Wo}, w ∈ us → w.isNum = false → w ∈ us.foldl meetF F
  | u :: us, F, w, h, hn => by
    rcases List.mem_cons.mp h with rfl | h
    · obtain ⟨t, e⟩ := fold_pre us (meetF F w)
      rw [List.foldl_cons, e]
      exact List.mem_append_left _ (meetF_mem hn)
    · exact fold_mem (us := us) h hn
theorem fold_inv {boxes : List Wo} : ∀ {us F : List Wo}, Inv gates cells boxes F → (∀ w ∈ us, w.isNum = false → Reach gates cells boxes w) → Inv gates cells boxes (us.foldl meetF F)
  | [], _, h, _ => h
  | u :: us, F, h, hu => fold_inv (us := us) (h.meet (hu u List.mem_cons_self)) fun w hw => hu w (List.mem_cons_of_mem _ hw)
theorem reach_ok {boxes : List Wo} (hc : ∀ w ∈ cells, w.Ok rows most) (hb : ∀ w ∈ boxes, w.Ok rows most) {w : Wo} (h : Reach gates cells boxes w) : w.Ok rows most := by
  induction h with
  | box h _ => exact hb _ h
  | step _ h _ ih => exact succ_ok hc ih h
end
def t1 : MS := (mAsg (mBin subD (mv 1) (mBin ixD (mv 0) (mc (.int (3))))) (gmN 3))
def t2 : MS := (mAsg (mTup mNil) (gmN 4))
def tC : MT := (mNot (mTb (mChain ltD ltD (mUn negD (mc (.int (64)))) (mv 3) (mc (.int (64))))))
def tB : MS := (mSeq (mAsg (mCall maxD (mCons (mUn negD (mc (.int (9999)))) (mCons (mCall minD (mCons (mc (.int (9999))) (mCons (mv 3) mNil))) mNil))) (gmN 5))
  (mSeq (mAsg (mBin addD (mv 4) (mTup (mCons (mTup (mCons (mc (.str "put")) (mCons (mc (.int (1))) (mCons (mv 5) mNil)))) (mCons (mTup (mCons (mc (.str "add")) (mCons (mc (.int (0))) (mCons (mc (.int (0))) (mCons (mc (.int (1))) mNil))))) mNil)))) (gmN 4))
  (mAsg (mBin subD (mv 3) (mv 5)) (gmN 3))))
def t4 : MS := (mRet (mBin addD (mv 4) (mIf (mTb (mBin eqD (mv 2) (mc (.str "g")))) (mTup (mCons (mTup (mCons (mc (.str "get")) (mCons (mc (.int (0))) (mCons (mc (.int (0))) (mCons (mv 3) mNil))))) mNil)) (mTup (mCons (mTup (mCons (mc (.str "put")) (mCons (mc (.int (1))) (mCons (mc (.int (0))) mNil)))) (mCons (mTup (mCons (mc (.str "set")) (mCons (mc (.int (0))) (mCons (mv 3) (mCons (mc (.int (1))) mNil))))) mNil))))))
section
variable {A : AH} {k c : D} {l : Str} {rows : List D} {p : Option D}
theorem tC_in {f : Int} (h : -64 < f ∧ f < 64) : tC [some k, some c, some (.str l), some (.int f), some (.tup rows), p] A = .ok false A := by
  simp [tC, h.1, h.2]
theorem tC_out {f : Int} (h : ¬ (-64 < f ∧ f < 64)) : tC [some k, some c, some (.str l), some (.int f), some (.tup rows), p] A = .ok true A := by
  by_cases h1 : -64 < f
  · have h2 : ¬ f < 64 := fun q => h ⟨h1, q⟩
    simp [tC, h1, h2]
  · simp [tC, h1]
theorem tB_ok {f : Int} (hl : rows.length ≤ 100) : ∃ (g : Int) (rows' : List D) (p' : Option D), tB [some k, some c, some (.str l), some (.int f), some (.tup rows), p] A = .nx [some k, some c, some (.str l), some (.int (f - g)), some (.tup rows'), p'] A ∧ rows'.length = rows.length + 2 ∧ (RowsOk rows → RowsOk rows') ∧ (-9999 ≤ f → f ≤ 9999 → g = f) ∧ (9999 < f → g = 9999) := by
  refine ⟨if -9999 < (if f < 9999 then f else 9999) then (if f < 9999 then f else 9999) else -9999, rows ++ [.tup [.str "put", .int 1, .int (if -9999 < (if f < 9999 then f else 9999) then (if f < 9999 then f else 9999) else -9999)], .tup [.str "add", .int 0, .int 0, .int 1]], some (.int (if -9999 < (if f < 9999 then f else 9999) then (if f < 9999 then f else 9999) else -9999)), ?_, by simp, fun h => h.app rows2, ?_, ?_⟩
  · have e1 : ∀ ds : List D, ds.length = 2 → addD (.tup rows) (.tup ds) A = .ok (.tup (rows ++ ds)) A := fun ds hd => by
      show (if rows.length + ds.length ≤ 16777216 then R.ok (D.tup (rows ++ ds)) A else .bad) = _
      rw [if_pos (by omega)]
    simp [tB, minD, maxD, e1]
  · intro h1 h2
    split
    · split <;> omega
    · split at * <;> omega
  · intro h1
    have e : ¬ f < 9999 := by omega
    simp [e]
theorem loop_ok {f : Int} (h0 : -9999 ≤ f) (h1 : f < 10064) (hl : rows.length = 0) (hro : RowsOk rows) : ∃ (g : Int) (rows' : List D) (p' : Option D), whG tC tB fuelN [some k, some c, some (.str l), some (.int f), some (.tup rows), p] A = .nx [some k, some c, some (.str l), some (.int g), some (.tup rows'), p'] A ∧ rows'.length ≤ 4 ∧ RowsOk rows' := by
  have eN : fuelN = ((999997 + 1) + 1) + 1 := rfl
  rw [eN]
  by_cases a1 : -64 < f ∧ f < 64
  · exact ⟨f, rows, p, wh_false (tC_in a1), by omega, hro⟩
  · obtain ⟨g, r1, p1, b1, b2, b5, b3, b4⟩ := tB_ok (A := A) (k := k) (c := c) (l := l) (p := p) (f := f) (rows := rows) (by omega)
    rw [wh_true (tC_out a1) b1]
    by_cases a2 : -64 < f - g ∧ f - g < 64
    · exact ⟨_, _, _, wh_false (tC_in a2), by omega, b5 hro⟩
    · obtain ⟨g2, r2, p2, d1, d2, d5, d3, d4⟩ := tB_ok (A := A) (k := k) (c := c) (l := l) (p := p1) (f := f - g) (rows := r1) (by omega)
      rw [wh_true (tC_out a2) d1]
      have hf : 9999 < f := by
        by_cases q : 9999 < f
        · exact q
        · have := b3 h0 (by omega)
          omega
      have hg := b4 hf
      have hg2 := d3 (by omega) (by omega)
      exact ⟨_, _, _, wh_false (tC_in (by omega)), by omega, d5 (b5 hro)⟩
end
theorem to_cell_ok {b e a : Int} {r : List Nat} {c : Int} {z : String} {A : AH} (hz : z = "g" ∨ z = "s") (ha : -10000 ≤ a ∧ a < 10000) (hc : 0 ≤ c ∧ c < 64) : ∃ l : List D, m_to_cell [(Pl.key b e a r).d, .int c, .str z] A = .ok (.tup l) A ∧ l.length ≤ 6 ∧ RowsOk l := by
  have e0 : m_to_cell [(Pl.key b e a r).d, .int c, .str z] A = finS (mSeq t1 (mSeq t2 (mSeq (whG tC tB fuelN) t4)) [some (Pl.key b e a r).d, some (.int c), some (.str z), none, none, none] A) := rfl
  have c1 : t1 [some (Pl.key b e a r).d, some (.int c), some (.str z), none, none, none] A = .nx [some (Pl.key b e a r).d, some (.int c), some (.str z), some (.int (c - a)), none, none] A := by
    simp [t1, Pl.d]
  have c2 : t2 [some (Pl.key b e a r).d, some (.int c), some (.str z), some (.int (c - a)), none, none] A = .nx [some (Pl.key b e a r).d, some (.int c), some (.str z), some (.int (c - a)), some (.tup []), none] A := by
    simp [t2]
  obtain ⟨g, rows', p', c3, hl, hro⟩ := loop_ok (A := A) (k := (Pl.key b e a r).d) (c := .int c) (l := z) (f := c - a) (rows := []) (p := none) (by omega) (by omega) rfl (fun d hd => nomatch hd)
  have e1 : ∀ ds : List D, ds.length ≤ 2 → addD (.tup rows') (.tup ds) A = .ok (.tup (rows' ++ ds)) A := fun ds hd => by
    show (if rows'.length + ds.length ≤ 16777216 then R.ok (D.tup (rows' ++ ds)) A else .bad) = _
    rw [if_pos (by omega)]
  have c4 : ∃ ds : List D, t4 [some (Pl.key b e a r).d, some (.int c), some (.str z), some (.int g), some (.tup rows'), p'] A = .rt (.tup (rows' ++ ds)) A ∧ ds.length ≤ 2 ∧ RowsOk ds := by
    rcases hz with rfl | rfl
    · exact ⟨[.tup [.str "get", .int 0, .int 0, .int g]], by simp [t4, e1], by simp, rows1⟩
    · exact ⟨[.tup [.str "put", .int 1, .int 0], .tup [.str "set", .int 0, .int g, .int 1]], by simp [t4, e1], by simp, rows2⟩
  obtain ⟨ds, c4, c5, c6⟩ := c4
  refine ⟨rows' ++ ds, ?_, by rw [List.length_append]; omega, hro.app c6⟩
  rw [e0, e_seq, c1, RS.nxt_nx, e_seq, c2, RS.nxt_nx, e_seq, c3, RS.nxt_nx, c4, finS_rt]
end K21


set_option Elab.async false
set_option linter.all false
set_option maxRecDepth 100000
set_option maxHeartbeats 4000000
/-! K21S: Found goes on; letters; reach. -/
namespace K21
open PySem Tg L2
open SX (S)
def kind : Wo → Int
  | .pl (.num _) => 0
  | .pl (.key ..) => 1
  | .gate .. => 2
theorem kind_ok {w : Wo} {A : AH} : m_kind_of [w.d] A = .ok (.int (kind w)) A := by
  have e0 : m_kind_of [w.d] A = finS (b_kind_of [some w.d] A) := rfl
  rw [e0]
  cases w with
  | pl p => cases p with
    | num i => simp [b_kind_of, Wo.d, Pl.d, numb_int, kind]
    | key b e a r => simp [b_kind_of, Wo.d, Pl.d, numb_tup, kind, g_KEY, g_GATE, keysD, keyD, mergeD, ptK, lkK, ixD, dctD, itemsD]
  | gate g p => simp [b_kind_of, Wo.d, numb_tup, kind, g_KEY, g_GATE, keysD, keyD, mergeD, ptK, lkK, ixD, dctD, itemsD]
theorem k_g : Str.ofString "g" = ⟨#[103]⟩ := by decide
theorem k_h : Str.ofString "h" = ⟨#[104]⟩ := by decide
theorem k_s : Str.ofString "s" = ⟨#[115]⟩ := by decide
theorem rng2X {ma : MA} {i j : Int} {s : Sl} {A A1 : AH} (h : ma s A = .ok [.int i, .int j] A1) (h1 : -(2 ^ 62) ≤ i ∧ i < 2 ^ 62 ∧ -(2 ^ 62) ≤ j ∧ j < 2 ^ 62) : mRng2 ma s A = .ok (.data (rngL i 1 (j - i).toNat)) A1 := by
  unfold mRng2
  rw [h]
  simp only [R.bind_ok]
  rw [if_pos h1]
theorem small62 {i : Int} (h0 : 0 ≤ i) (h1 : i < 1000000) : -(2 ^ 62) ≤ i ∧ i < 2 ^ 62 := by
  have e : (2 : Int) ^ 62 = 4611686018427387904 := by decide
  rw [e]
  exact ⟨by omega, by omega⟩
def gT : MT := (mTb (mBin eqD (mCall m_kind_of (mCons (mv 1) mNil)) (mc (.int (2)))))
def gX : MS := (mIfS (mTb (mFld cs_gates "gates" (mv 0))) (mDrop (mMeth "Found" "meet" m_Found_meet (mv 0) (mCons (mBin ixD (mv 1) (mc (.int (2)))) (mCons (mc .non) mNil)))) mNx)
def gH : MT := (mAnd (mTb (mBin inD (mc (.str "g")) (mBin ixD (mv 1) (mc (.int (4)))))) (mTb (mBin inD (mc (.str "h")) (mBin ixD (mv 1) (mc (.int (4)))))))
def gB : MS := (mDrop (mMeth "Found" "meet" m_Found_meet (mv 0) (mCons (mBin ixD (mFld cs_store "store" (mv 0)) (mv 3)) (mCons (mIf (mTb (mBin isD (mv 2) (mc .non))) (mc .non) (mBin addD (mv 2) (mCall m_to_cell (mCons (mv 1) (mCons (mv 3) (mCons (mc (.str "g")) mNil)))))) mNil))))
def gR : MA := (mCons (mBin ixD (mv 1) (mc (.int (1)))) (mCons (mCall minD (mCons (mBin ixD (mv 1) (mc (.int (2)))) (mCons (mCall lenD (mCons (mFld cs_store "store" (mv 0)) mNil)) mNil))) mNil))
section
variable {A0 : AH} {dc db : D} {cells boxes : List Wo} {gates : Bool} {ws : List (Wo × Ro)} {rows most : Nat}
theorem meth_args {d1 d2 : D} {e1 e2 : ME} {s : Sl} {A : AH} (h1 : e1 s A = .ok d1 A) (h2 : e2 s A = .ok d2 A) : (mCons e1 (mCons e2 mNil)) s A = .ok [d1, d2] A := by
  simp [h1, h2]
/-- one more is met -/
theorem meet_at {s : Sl} {mo e1 e2 : ME} {w : Wo} {o : Ro} (hl : ws.length < 16777216) (hws : ∀ x ∈ ws.map (·.1), x.Ok rows most) (hw : w.Ok rows most) (hm : mo s (encF A0 dc gates ws) = .ok (.ref A0.length) (encF A0 dc gates ws)) (h1 : e1 s (encF A0 dc gates ws) = .ok w.d (encF A0 dc gates ws)) (h2 : e2 s (encF A0 dc gates ws) = .ok (roD o) (encF A0 dc gates ws)) :
    mDrop (mMeth "Found" "meet" m_Found_meet mo (mCons e1 (mCons e2 mNil))) s (encF A0 dc gates ws) = .nx s (encF A0 dc gates (meetP ws w o)) :=
  drop_meth hm enc_ins (by simp [List.lookup]) (meth_args h1 h2) (meet_ok hl hws hw)
theorem go_ok (hdc : seqL A0 dc = some (cells.map Wo.d)) (hc : ∀ w ∈ cells, w.Ok rows most) (hb : ∀ w ∈ boxes, w.Ok rows most) (hmost : most = cells.length) (lc : cells.length ≤ 64) (lb : boxes.length ≤ 8) {F : List Wo} {k : Nat} {w : Wo} {o : Ro} (hst : St gates F k ws) (hI : Inv gates cells boxes F) (hw : Reach gates cells boxes w) (ho : ∀ l, o = some l → l.length ≤ k ∧ RowsOk l) (hs : gates = false → o ≠ none) (hk : k ≤ 100000) :
    ∃ ws', m_Found_go_on [.ref A0.length, w.d, roD o] (encF A0 dc gates ws) = .ok .non (encF A0 dc gates ws') ∧ St gates ((succs gates cells w).foldl meetF F) (k + 6) ws' := by
  have e0 : m_Found_go_on [.ref A0.length, w.d, roD o] (encF A0 dc gates ws) = finS (mSeq (mIfS gT (mSeq gX mRetN) mNx) (mIfS gH (mFor (mRng2 gR) (gmN 3) gB) mNx) [some (.ref A0.length), some w.d, some (roD o), none] (encF A0 dc gates ws)) := rfl
  have hwo := reach_ok hc hb hw
  have okF : ∀ {G : List Wo}, Inv gates cells boxes G → ∀ x ∈ G, x.Ok rows most := fun hG x hx => reach_ok hc hb (hG.re x hx)
  have lenF : ∀ {G : List Wo}, Inv gates cells boxes G → G.length ≤ 144 := fun hG => by
    have := hG.len
    omega
  have cT : gT [some (.ref A0.length), some w.d, some (roD o), none] (encF A0 dc gates ws) = .ok (decide (kind w = 2)) (encF A0 dc gates ws) := by
    have : ((kind w : Int) == 2) = decide (kind w = 2) := by
      by_cases h : kind w = 2
      · simp [h]
      · simp [h]
    simp only [gT, e_tb, e_bin, e_call, e_cons, e_nil, e_mvS, e_mv0, kC1_0, kC2_0, kCall_0, kind_ok, kB1_0, e_mc, kB2_0, o_eqI, kT_0, this]
  have len0 : ∀ {G : List Wo} {j : Nat} {vs : List (Wo × Ro)}, St gates G j vs → Inv gates cells boxes G → vs.length < 16777216 := fun hs hG => by
    have h1 := congrArg List.length hs.f
    rw [List.length_map] at h1
    have := lenF hG
    omega
  cases w with
  | gate g p =>
    have c1 : ∃ ws', gX [some (.ref A0.length), some (Wo.gate g p).d, some (roD o), none] (encF A0 dc gates ws) = .nx [some (.ref A0.length), some (Wo.gate g p).d, some (roD o), none] (encF A0 dc gates ws') ∧ St gates ((succs gates cells (.gate g p)).foldl meetF F) (k + 6) ws' := by
      have cg : mTb (mFld cs_gates "gates" (mv 0)) [some (.ref A0.length), some (Wo.gate g p).d, some (roD o), none] (encF A0 dc gates ws) = .ok gates (encF A0 dc gates ws) := by
        rw [e_tb, e_fld, e_mv0, kF_0, f_gates, kT_0]
      cases gates with
      | false => exact ⟨ws, by unfold gX; rw [e_ifS, cg, kIf_1, e_nx], hst.mono (by omega)⟩
      | true =>
        have hp : (Wo.pl p).Ok rows most := by
          cases hwo with
          | gate _ _ h => exact .pl h
        refine ⟨meetP ws (.pl p) none, ?_, (hst.mono (by omega)).meet (fun l h => nomatch h) (fun h => nomatch h)⟩
        unfold gX
        rw [e_ifS, cg, kIf_0]
        exact meet_at (len0 hst hI) (by rw [hst.f]; exact okF hI) hp rfl (by simp [Wo.d]) rfl
    obtain ⟨ws', c1, h2⟩ := c1
    refine ⟨ws', ?_, h2⟩
    rw [e0, e_seq, e_ifS, cT, decide_eq_true (show kind (.gate g p) = 2 from rfl), kIf_0, e_seq, c1, RS.nxt_nx, e_retN, RS.nxt_rt, finS_rt]
  | pl p =>
    cases p with
    | num i => cases hw.num
    | key b e a r =>
      have hk1 : 0 ≤ b ∧ b < most ∧ b + 1 ≤ e ∧ e ≤ most ∧ -10000 ≤ a ∧ a < 10000 := by
        cases hwo with
        | pl h => cases h with
          | key h1 h2 h3 h4 h5 h6 _ => exact ⟨h1, h2, h3, h4, h5, h6⟩
      have cH : gH [some (.ref A0.length), some (Wo.pl (.key b e a r)).d, some (roD o), none] (encF A0 dc gates ws) = .ok (hasG r) (encF A0 dc gates ws) := by
        unfold hasG
        by_cases h1 : 103 ∈ r
        · simp [gH, Wo.d, Pl.d, k_g, k_h, in_S, h1]
        · simp [gH, Wo.d, Pl.d, k_g, k_h, in_S, h1]
      have pre : m_Found_go_on [.ref A0.length, (Wo.pl (.key b e a r)).d, roD o] (encF A0 dc gates ws) = finS (kIf (mFor (mRng2 gR) (gmN 3) gB) mNx [some (.ref A0.length), some (Wo.pl (.key b e a r)).d, some (roD o), none] (.ok (hasG r) (encF A0 dc gates ws))) := by
        rw [e0, e_seq, e_ifS, cT, decide_eq_false (show ¬ kind (.pl (.key b e a r)) = 2 from by simp [kind]), kIf_1, e_nx, RS.nxt_nx, e_ifS, cH]
      cases hg : hasG r with
      | false =>
        refine ⟨ws, ?_, ?_⟩
        · rw [pre, hg]
          rfl
        · have : succs gates cells (.pl (.key b e a r)) = [] := by simp [succs, hg]
          rw [this]
          exact hst.mono (by omega)
      | true =>
        have hus : succs gates cells (.pl (.key b e a r)) = (cells.drop b.toNat).take (e.toNat - b.toNat) := by simp [succs, hg]
        have hre : ∀ u ∈ succs gates cells (.pl (.key b e a r)), u.isNum = false → Reach gates cells boxes u := fun u hu hn => .step hw hu hn
        generalize hu : succs gates cells (.pl (.key b e a r)) = us at hre hus
        have hlen : us.length = (e - b).toNat := by
          rw [hus, List.length_take, List.length_drop]
          omega
        have hmin : (if (cells.length : Int) < e then (cells.length : Int) else e) = e := by
          split <;> omega
        have c1 : gR [some (.ref A0.length), some (Wo.pl (.key b e a r)).d, some (roD o), none] (encF A0 dc gates ws) = .ok [.int b, .int e] (encF A0 dc gates ws) := by
          have hlen0 : lenD [dc] (encF A0 dc gates ws) = .ok (.int cells.length) (encF A0 dc gates ws) := by
            rw [len_seq (seq_enc hdc), List.length_map]
          have hmD : minD [.int e, .int cells.length] (encF A0 dc gates ws) = .ok (.int e) (encF A0 dc gates ws) := by
            show R.ok (D.int (if (cells.length : Int) < e then (cells.length : Int) else e)) _ = _
            rw [hmin]
          simp [gR, Wo.d, Pl.d, f_store, hmD, hlen0]
        have c2 := rng2X c1 ⟨(small62 hk1.1 (by omega)).1, (small62 hk1.1 (by omega)).2, small62 (i := e) (by omega) (by omega)⟩
        obtain ⟨s', A', c3, ws', rfl, h3, _⟩ := forL_at (g := gmN 3) (b := gB) (ds := rngL b 1 (e - b).toNat) (s := [some (.ref A0.length), some (Wo.pl (.key b e a r)).d, some (roD o), none]) (A := encF A0 dc gates ws)
          (fun j s B => ∃ ws', B = encF A0 dc gates ws' ∧ St gates ((us.take j).foldl meetF F) (k + 6) ws' ∧ ∃ o3, s = [some (.ref A0.length), some (Wo.pl (.key b e a r)).d, some (roD o), o3]) 0 ⟨ws, rfl, hst.mono (by omega), none, rfl⟩ (fun j d s B hj hB => by
            obtain ⟨vs, rfl, hv, o3, rfl⟩ := hB
            rw [Nat.zero_add] at hv ⊢
            unfold rngL at hj
            rw [List.getElem?_map] at hj
            obtain ⟨j', hj', rfl⟩ := Option.map_eq_some_iff.mp hj
            have hjl : j < (e - b).toNat := by
              have := (List.getElem?_eq_some_iff.mp hj').1
              simpa using this
            rw [List.getElem?_range hjl] at hj'
            cases hj'
            have hju : j < us.length := by omega
            have hcell : b.toNat + j < cells.length := by omega
            have eu : us[j] = cells[b.toNat + j] := by
              subst hus
              rw [List.getElem_take, List.getElem_drop]
            have hIv : Inv gates cells boxes ((us.take j).foldl meetF F) := fold_inv hI fun x hx => hre x (List.mem_of_mem_take hx)
            have x1 : ixD (dc) (.int (b + (j : Nat) * 1)) (encF A0 dc gates vs) = .ok (us[j]).d (encF A0 dc gates vs) := by
              have eb : b + (j : Nat) * 1 = ((b.toNat + j : Nat) : Int) := by omega
              rw [eb, eu]
              exact ix_seq (seq_enc hdc) (atI_ok (by rw [List.getElem?_map, List.getElem?_eq_getElem hcell]; rfl))
            have hro : ∃ o2 : Ro, (mIf (mTb (mBin isD (mv 2) (mc .non))) (mc .non) (mBin addD (mv 2) (mCall m_to_cell (mCons (mv 1) (mCons (mv 3) (mCons (mc (.str "g")) mNil)))))) [some (.ref A0.length), some (Wo.pl (.key b e a r)).d, some (roD o), some (.int (b + (j : Nat) * 1))] (encF A0 dc gates vs) = .ok (roD o2) (encF A0 dc gates vs) ∧ (∀ l, o2 = some l → l.length ≤ k + 6 ∧ RowsOk l) ∧ (o ≠ none → o2 ≠ none) := by
              cases o with
              | none => exact ⟨none, by simp [roD, Tg.isNon], (fun l h => nomatch h), fun h => absurd rfl h⟩
              | some l =>
                obtain ⟨l2, q1, q2, q2r⟩ := to_cell_ok (z := "g") (b := b) (e := e) (a := a) (r := r) (c := b + (j : Nat) * 1) (A := encF A0 dc gates vs) (.inl rfl) ⟨hk1.2.2.2.2.1, hk1.2.2.2.2.2⟩ ⟨by omega, by omega⟩
                obtain ⟨hl, hlr⟩ := ho l rfl
                have q3 : addD (.tup l) (.tup l2) (encF A0 dc gates vs) = .ok (.tup (l ++ l2)) (encF A0 dc gates vs) := by
                  show (if l.length + l2.length ≤ 16777216 then R.ok (D.tup (l ++ l2)) (encF A0 dc gates vs) else .bad) = _
                  rw [if_pos (by omega)]
                refine ⟨some (l ++ l2), ?_, fun l' h => ?_, fun _ h => nomatch h⟩
                · simp only [roD, e_if, e_tb, e_bin, e_mvS, e_mv0, kB1_0, e_mc, kB2_0, o_is, Tg.isNon, kT_0, kI_1, e_call, e_cons, e_nil, kC1_0, kC2_0, kCall_0]
                  rw [show (Wo.pl (.key b e a r)).d = (Pl.key b e a r).d from rfl, q1, kB2_0, q3]
                · cases h
                  refine ⟨?_, hlr.app q2r⟩
                  rw [List.length_append]
                  omega
            obtain ⟨o2, q4, q5, q6⟩ := hro
            refine ⟨_, _, _, rfl, meet_at (w := us[j]) (len0 hv hIv) (by rw [hv.f]; exact okF hIv) ?_ rfl ?_ q4, _, rfl, ?_, _, rfl⟩
            · rw [eu]
              exact hc _ (List.getElem_mem hcell)
            · have e1 : mBin ixD (mFld cs_store "store" (mv 0)) (mv 3) [some (.ref A0.length), some (Wo.pl (.key b e a r)).d, some (roD o), some (.int (b + (j : Nat) * 1))] (encF A0 dc gates vs) = .ok (us[j]).d (encF A0 dc gates vs) := by
                simp only [e_bin, e_fld, e_mv0, kF_0, f_store, kB1_0, e_mvS, kB2_0, x1]
              exact e1
            · have et : us.take (j + 1) = us.take j ++ [us[j]] := by
                rw [List.take_add_one, List.getElem?_eq_getElem hju]
                rfl
              rw [et, List.foldl_append]
              exact hv.meet q5 fun h => q6 (hs h))
        refine ⟨ws', ?_, ?_⟩
        · rw [pre, hg, kIf_0, mFor_data c2, c3]
          rfl
        · have : (rngL b 1 (e - b).toNat).length = us.length := by
            rw [hlen]
            unfold rngL
            rw [List.length_map, List.length_range]
          rw [this, Nat.zero_add, List.take_length] at h3
          exact h3
end
end K21


set_option Elab.async false
set_option linter.all false
set_option maxRecDepth 100000
set_option maxHeartbeats 4000000
/-! K21T: Found, made; letters; reach. -/
namespace K21
open PySem Tg L2
open SX (S)
def i1 : MS := (mFldS cs_store "store" (mv 0) (mv 1))
def i2 : MS := (mFldS cs_gates "gates" (mv 0) (mv 3))
def i3 : MS := (mFldS cs_words "words" (mv 0) (mLstN mNil))

def iB : MS := (mDrop (mMeth "Found" "meet" m_Found_meet (mv 0) (mCons (mBin ixD (mv 2) (mv 4)) (mCons (mTup (mCons (mTup (mCons (mc (.str "move")) (mCons (mc (.int (0))) (mCons (mv 4) mNil)))) mNil)) mNil))))
def i5 : MS := (mAsg (mc (.int (0))) (gmN 5))
def wC : MT := (mTb (mBin ltD (mv 5) (mCall lenD (mCons (mFld cs_words "words" (mv 0)) mNil))))
def wB : MS := (mSeq (mAsg (mBin ixD (mFld cs_words "words" (mv 0)) (mv 5)) (gmTup 2 (gmCons (gmN 6) (gmCons (gmN 7) gmNil))))
  (mSeq (mDrop (mMeth "Found" "go_on" m_Found_go_on (mv 0) (mCons (mv 6) (mCons (mv 7) mNil))))
  (mAsg (mBin addD (mv 5) (mc (.int (1)))) (gmN 5))))
def wb1 : MS := (mAsg (mBin ixD (mFld cs_words "words" (mv 0)) (mv 5)) (gmTup 2 (gmCons (gmN 6) (gmCons (gmN 7) gmNil))))
def wb2 : MS := (mDrop (mMeth "Found" "go_on" m_Found_go_on (mv 0) (mCons (mv 6) (mCons (mv 7) mNil))))
def wb3 : MS := (mAsg (mBin addD (mv 5) (mc (.int (1)))) (gmN 5))

section
variable {A0 : AH} {dc db : D} {cells boxes : List Wo} {gates : Bool} {ws : List (Wo × Ro)} {rows most : Nat}
theorem bfs_ok (hdc : seqL A0 dc = some (cells.map Wo.d)) (hc : ∀ w ∈ cells, w.Ok rows most) (hb : ∀ w ∈ boxes, w.Ok rows most) (hmost : most = cells.length) (lc : cells.length ≤ 64) (lb : boxes.length ≤ 8) {c b g o4 : Option D} : ∀ (f at_ : Nat) (F : List Wo) (ws : List (Wo × Ro)) (o6 o7 : Option D), St gates F (1 + 6 * at_) ws → Inv gates cells boxes F → at_ ≤ F.length →
    (∀ i, i < at_ → ∀ v, F[i]? = some v → ∀ u ∈ succs gates cells v, u.isNum = false → u ∈ F) → 200 ≤ at_ + f →
    ∃ (F' : List Wo) (k' : Nat) (ws' : List (Wo × Ro)) (at' : Nat) (o6' o7' : Option D), whG wC wB f [some (.ref A0.length), c, b, g, o4, some (.int at_), o6, o7] (encF A0 dc gates ws) = .nx [some (.ref A0.length), c, b, g, o4, some (.int at'), o6', o7'] (encF A0 dc gates ws') ∧ (k' ≤ 865 ∧ St gates F' k' ws') ∧ Inv gates cells boxes F' ∧ (∀ x ∈ F, x ∈ F') ∧ ∀ v ∈ F', ∀ u ∈ succs gates cells v, u.isNum = false → u ∈ F'
  | 0, at_, F, _, _, _, _, hI, h1, _, h3 => by
    have := hI.len
    omega
  | f + 1, at_, F, ws, o6, o7, hst, hI, hat, hcl, hf => by
    have hlen := hI.len
    have hl2 : ws.length = F.length := by
      have := congrArg List.length hst.f
      rwa [List.length_map] at this
    have cond : wC [some (.ref A0.length), c, b, g, o4, some (.int at_), o6, o7] (encF A0 dc gates ws) = .ok (decide ((at_ : Int) < F.length)) (encF A0 dc gates ws) := by
      have e1 : lenD [.ref (A0.length + 1)] (encF A0 dc gates ws) = .ok (.int F.length) (encF A0 dc gates ws) := by
        rw [len_ref, enc_ws]
        dsimp only
        rw [List.length_map, hl2]
      simp only [wC, e_tb, e_bin, e_mvS, e_mv0, kB1_0, e_call, e_cons, e_nil, e_fld, kF_0, f_words, kC1_0, kC2_0, kCall_0, e1, kB2_0, o_lt, kT_0]
    by_cases hlt : at_ < F.length
    · rw [decide_eq_true (show (at_ : Int) < F.length by omega)] at cond
      have hwl : at_ < ws.length := by omega
      have hF : F[at_] = (ws[at_]).1 := by
        have := hst.f
        subst this
        rw [List.getElem_map]
      have hwR := hI.re _ (List.getElem_mem hlt)
      rw [hF] at hwR
      obtain ⟨ws1, g1, g2⟩ := go_ok (A0 := A0) hdc hc hb hmost lc lb (k := 1 + 6 * at_) (w := (ws[at_]).1) (o := (ws[at_]).2) hst hI hwR (fun l hl => hst.r _ (List.getElem_mem hwl) l hl) (fun h => hst.s h _ (List.getElem_mem hwl)) (by omega)
      obtain ⟨t, et⟩ := fold_pre (succs gates cells (ws[at_]).1) F
      have hI1 : Inv gates cells boxes ((succs gates cells (ws[at_]).1).foldl meetF F) := fold_inv hI fun u hu hn => .step hwR hu hn
      have d1 : wb1 [some (.ref A0.length), c, b, g, o4, some (.int at_), o6, o7] (encF A0 dc gates ws) = .nx [some (.ref A0.length), c, b, g, o4, some (.int at_), some (ws[at_]).1.d, some (roD (ws[at_]).2)] (encF A0 dc gates ws) := by
        have x1 : ixD (.ref (A0.length + 1)) (.int (at_ : Int)) (encF A0 dc gates ws) = .ok (prD ws[at_]) (encF A0 dc gates ws) := ix_ref enc_ws (atI_ok (by rw [List.getElem?_map, List.getElem?_eq_getElem hwl]; rfl))
        have x2 : (mBin ixD (mFld cs_words "words" (mv 0)) (mv 5)) [some (.ref A0.length), c, b, g, o4, some (.int at_), o6, o7] (encF A0 dc gates ws) = .ok (prD ws[at_]) (encF A0 dc gates ws) := by
          simp only [e_bin, e_fld, e_mv0, kF_0, f_words, kB1_0, e_mvS, kB2_0, x1]
        unfold wb1 mAsg
        rw [x2]
        rfl
      have d2 : wb2 [some (.ref A0.length), c, b, g, o4, some (.int at_), some (ws[at_]).1.d, some (roD (ws[at_]).2)] (encF A0 dc gates ws) = .nx [some (.ref A0.length), c, b, g, o4, some (.int at_), some (ws[at_]).1.d, some (roD (ws[at_]).2)] (encF A0 dc gates ws1) :=
        drop_meth rfl enc_ins (by simp [List.lookup]) (meth_args rfl rfl) g1
      have d3 : wb3 [some (.ref A0.length), c, b, g, o4, some (.int at_), some (ws[at_]).1.d, some (roD (ws[at_]).2)] (encF A0 dc gates ws1) = .nx [some (.ref A0.length), c, b, g, o4, some (.int ((at_ + 1 : Nat) : Int)), some (ws[at_]).1.d, some (roD (ws[at_]).2)] (encF A0 dc gates ws1) := by
        simp [wb3]
      have body : wB [some (.ref A0.length), c, b, g, o4, some (.int at_), o6, o7] (encF A0 dc gates ws) = .nx [some (.ref A0.length), c, b, g, o4, some (.int ((at_ + 1 : Nat) : Int)), some (ws[at_]).1.d, some (roD (ws[at_]).2)] (encF A0 dc gates ws1) := by
        rw [show wB = mSeq wb1 (mSeq wb2 wb3) from rfl, e_seq, d1, RS.nxt_nx, e_seq, d2, RS.nxt_nx, d3]
      obtain ⟨F', k', ws', at', o6', o7', r1, r2, r3, r4, r5⟩ := bfs_ok hdc hc hb hmost lc lb (c := c) (b := b) (g := g) (o4 := o4) f (at_ + 1) _ ws1 _ _ (g2.mono (by omega)) hI1 (by rw [et, List.length_append]; omega) (fun i hi v hv u hu hn => by
        rw [et] at hv ⊢
        by_cases q : i < at_
        · have h4 : F[i]? = some v := by rwa [List.getElem?_append_left (by omega)] at hv
          exact List.mem_append_left _ (hcl i q v h4 u hu hn)
        · have ei : i = at_ := by omega
          subst ei
          rw [List.getElem?_append_left hlt, List.getElem?_eq_getElem hlt] at hv
          cases hv
          rw [← et]
          rw [hF] at hu
          exact fold_mem hu hn) (by omega)
      refine ⟨F', k', ws', at', o6', o7', ?_, r2, r3, fun x hx => r4 x (by rw [et]; exact List.mem_append_left _ hx), r5⟩
      rw [wh_true cond body]
      exact r1
    · rw [decide_eq_false (show ¬ (at_ : Int) < F.length by omega)] at cond
      refine ⟨F, _, ws, at_, o6, o7, wh_false cond, ⟨by omega, hst⟩, hI, fun x hx => hx, fun v hv u hu hn => ?_⟩
      obtain ⟨i, hi, rfl⟩ := List.mem_iff_getElem.mp hv
      exact hcl i (by omega) _ (List.getElem?_eq_getElem hi) u hu hn
theorem init_ok (hdc : seqL A0 dc = some (cells.map Wo.d)) (hdb : seqL A0 db = some (boxes.map Wo.d)) (hc : ∀ w ∈ cells, w.Ok rows most) (hb : ∀ w ∈ boxes, w.Ok rows most) (hmost : most = cells.length) (lc : cells.length ≤ 64) (lb : boxes.length ≤ 8) :
    ∃ (F : List Wo) (k : Nat) (ws : List (Wo × Ro)), m_Found___init__ [.ref A0.length, dc, db, .bl gates] (A0 ++ [.ins "Found" []]) = .ok .non (encF A0 dc gates ws) ∧ (k ≤ 865 ∧ St gates F k ws) ∧ Inv gates cells boxes F ∧ ∀ w, w ∈ F ↔ Reach gates cells boxes w := by
  have e0 : m_Found___init__ [.ref A0.length, dc, db, .bl gates] (A0 ++ [.ins "Found" []]) = finS (mSeq i1 (mSeq i2 (mSeq i3 (mSeq (mFor (mRng1 (mCons (mCall lenD (mCons (mv 2) mNil)) mNil)) (gmN 4) iB) (mSeq i5 (whG wC wB fuelN))))) [some (.ref A0.length), some (dc), some (db), some (.bl gates), none, none, none, none] (A0 ++ [.ins "Found" []])) := rfl
  have c1 : (i1 [some (.ref A0.length), some (dc), some (db), some (.bl gates), none, none, none, none] (A0 ++ [.ins "Found" []])).nxt (mSeq i2 i3) = .nx [some (.ref A0.length), some (dc), some (db), some (.bl gates), none, none, none, none] (encF A0 dc gates []) := by
    simp [i1, i2, i3, cs_store, cs_gates, cs_words, sfld_ref, putFD, encF]
  have okF : ∀ {G : List Wo}, Inv gates cells boxes G → ∀ x ∈ G, x.Ok rows most := fun hG x hx => reach_ok hc hb (hG.re x hx)
  obtain ⟨s', A', c2, ws1, rfl, h3, o4, rfl⟩ := forL_at (g := gmN 4) (b := iB) (ds := (List.range boxes.length).map fun i : Nat => D.int (i : Int)) (s := [some (.ref A0.length), some (dc), some (db), some (.bl gates), none, none, none, none]) (A := encF A0 dc gates [])
    (fun j s B => ∃ ws', B = encF A0 dc gates ws' ∧ St gates ((boxes.take j).foldl meetF []) 1 ws' ∧ ∃ o4, s = [some (.ref A0.length), some (dc), some (db), some (.bl gates), o4, none, none, none]) 0 ⟨[], rfl, ⟨rfl, (fun x hx => nomatch hx), fun _ x hx => nomatch hx⟩, none, rfl⟩ (fun j d s B hj hB => by
      obtain ⟨vs, rfl, hv, o3, rfl⟩ := hB
      rw [Nat.zero_add] at hv ⊢
      rw [List.getElem?_map] at hj
      obtain ⟨j', hj', rfl⟩ := Option.map_eq_some_iff.mp hj
      have hjl : j < boxes.length := by
        have := (List.getElem?_eq_some_iff.mp hj').1
        simpa using this
      rw [List.getElem?_range hjl] at hj'
      cases hj'
      have hIv : Inv gates cells boxes ((boxes.take j).foldl meetF []) := fold_inv ⟨List.nodup_nil, fun w hw => nomatch hw⟩ fun x hx hn => .box (List.mem_of_mem_take hx) hn
      have hlv : vs.length < 16777216 := by
        have h1 := congrArg List.length hv.f
        rw [List.length_map] at h1
        have := hIv.len
        omega
      have x1 : ixD (db) (.int (j : Int)) (encF A0 dc gates vs) = .ok (boxes[j]).d (encF A0 dc gates vs) := ix_seq (seq_enc hdb) (atI_ok (by rw [List.getElem?_map, List.getElem?_eq_getElem hjl]; rfl))
      refine ⟨_, _, _, rfl, meet_at (rows := rows) (most := most) (w := boxes[j]) (o := some [.tup [.str "move", .int 0, .int j]]) hlv (by rw [hv.f]; exact okF hIv) (hb _ (List.getElem_mem hjl)) rfl ?_ rfl, _, rfl, ?_, _, rfl⟩
      · have e1 : mBin ixD (mv 2) (mv 4) [some (.ref A0.length), some (dc), some (db), some (.bl gates), some (.int (j : Int)), none, none, none] (encF A0 dc gates vs) = .ok (boxes[j]).d (encF A0 dc gates vs) := by
          simp only [e_bin, e_mvS, e_mv0, kB1_0, kB2_0, x1]
        exact e1
      · have et : boxes.take (j + 1) = boxes.take j ++ [boxes[j]] := by
          rw [List.take_add_one, List.getElem?_eq_getElem hjl]
          rfl
        rw [et, List.foldl_append]
        exact hv.meet (fun l h => by cases h; exact ⟨Nat.le_refl 1, rows1⟩) (fun _ h => nomatch h))
  rw [List.length_map, List.length_range, Nat.zero_add, List.take_length] at h3
  have e2 : (mCons (mCall lenD (mCons (mv 2) mNil)) mNil) [some (.ref A0.length), some (dc), some (db), some (.bl gates), none, none, none, none] (encF A0 dc gates []) = .ok [.int (boxes.length : Int)] (encF A0 dc gates []) := by
    have hln : lenD [db] (encF A0 dc gates []) = .ok (.int boxes.length) (encF A0 dc gates []) := by
      rw [len_seq (seq_enc hdb), List.length_map]
    simp [hln]
  have c3 : i5 [some (.ref A0.length), some (dc), some (db), some (.bl gates), o4, none, none, none] (encF A0 dc gates ws1) = .nx [some (.ref A0.length), some (dc), some (db), some (.bl gates), o4, some (.int ((0 : Nat) : Int)), none, none] (encF A0 dc gates ws1) := rfl
  have hI1 : Inv gates cells boxes (boxes.foldl meetF []) := fold_inv ⟨List.nodup_nil, fun w hw => nomatch hw⟩ fun x hx hn => .box hx hn
  obtain ⟨F', k', ws', at', o6', o7', r1, r2, r3, r4, r5⟩ := bfs_ok (A0 := A0) hdc hc hb hmost lc lb (c := some (dc)) (b := some (db)) (g := some (.bl gates)) (o4 := o4) fuelN 0 _ ws1 none none h3 hI1 (Nat.zero_le _) (fun i hi => absurd hi (Nat.not_lt_zero i)) (by rw [show fuelN = 1000000 from rfl]; omega)
  refine ⟨F', k', ws', ?_, r2, r3, fun w => ⟨r3.re w, fun h => ?_⟩⟩
  · rw [e0, e_seq]
    rw [show ∀ n : MS, (i1 [some (.ref A0.length), some (dc), some (db), some (.bl gates), none, none, none, none] (A0 ++ [.ins "Found" []])).nxt (mSeq i2 (mSeq i3 n)) = ((i1 [some (.ref A0.length), some (dc), some (db), some (.bl gates), none, none, none, none] (A0 ++ [.ins "Found" []])).nxt (mSeq i2 i3)).nxt n from fun n => by
      cases i1 [some (.ref A0.length), some (dc), some (db), some (.bl gates), none, none, none, none] (A0 ++ [.ins "Found" []]) with
      | nx s1 A1 =>
        simp only [RS.nxt_nx, e_seq]
        cases i2 s1 A1 <;> simp
      | _ => rfl]
    rw [c1, RS.nxt_nx, e_seq, mFor_data (rng1 e2 (by omega)), c2, RS.nxt_nx, e_seq, c3, RS.nxt_nx, r1, finS_nx]
  · induction h with
    | box h hn => exact r4 _ (fold_mem h hn)
    | step _ h hn ih => exact r5 _ ih _ h hn
end
def y1 : MS := (mAsg (mc (.str "")) (gmN 2))
def yB : MS := (mIfS (mTb (mBin neD (mLc (miAny (mFld cs_words "words" (mv 0))) (gmTup 2 (gmCons (gmN 4) (gmCons (gmN 5) gmNil))) (mTb (mCall m_may_touch (mCons (mv 4) (mCons (mv 1) (mCons (mv 3) mNil))))) (mv 4) [4, 5] finF) (mLst mNil))) (mAsg (mBin addD (mv 2) (mv 3)) (gmN 2)) mNx)
def yA : MS := (mAsg (mBin addD (mv 2) (mv 3)) (gmN 2))
def y3 : MS := (mRet (mv 2))
def yL : ME := mLc (miAny (mFld cs_words "words" (mv 0))) (gmTup 2 (gmCons (gmN 4) (gmCons (gmN 5) gmNil))) (mTb (mCall m_may_touch (mCons (mv 4) (mCons (mv 1) (mCons (mv 3) mNil))))) (mv 4) [4, 5] finF
section
variable {A0 A : AH} {dc db : D} {cells boxes : List Wo} {gates : Bool} {ws : List (Wo × Ro)} {rows most : Nat}
theorem may_ok {w : Wo} {c : Int} {l : Nat} (hn : w.isNum = false) : m_may_touch [w.d, .int c, .str ⟨#[l]⟩] A = .ok (.bl (touch c l w)) A := by
  have e0 : m_may_touch [w.d, .int c, .str ⟨#[l]⟩] A = finS (b_may_touch [some w.d, some (.int c), some (.str ⟨#[l]⟩)] A) := rfl
  rw [e0]
  cases w with
  | gate g p => simp [b_may_touch, Wo.d, g_KEY, touch]
  | pl p =>
    cases p with
    | num => cases hn
    | key b e a r =>
      by_cases h1 : b ≤ c
      · by_cases h2 : c < e
        · simp [b_may_touch, Wo.d, Pl.d, g_KEY, touch, in_S, h1, h2]
        · simp [b_may_touch, Wo.d, Pl.d, g_KEY, touch, in_S, h1, h2]
      · simp [b_may_touch, Wo.d, Pl.d, g_KEY, touch, in_S, h1]
theorem ne_nil {xs : List Wo} (h : ∀ w ∈ xs, w.Ok rows most) : neD (.lst (xs.map Wo.d)) (.lst []) A = .ok (.bl (!xs.isEmpty)) A := by
  have d := dats h
  rw [ne_dat (by simp [datD, datL, d.1]) (by simp [depD, depL]; omega)]
  cases xs with
  | nil => rfl
  | cons x xs =>
    rw [eqB_ne (by simpa [datD] using d.1) (by simp [datD, datL]) (by simp)]
    rfl
theorem any_filter {xs : List Wo} {p : Wo → Bool} : (!(xs.filter p).isEmpty) = xs.any p := by
  induction xs with
  | nil => rfl
  | cons x xs ih =>
    cases h : p x <;> simp [List.filter_cons, h, ih]
theorem yB_ok {F : List Wo} {k : Nat} {c : Int} {l : Nat} {acc : List Nat} (hst : St gates F k ws) (hF : ∀ w ∈ F, w.Ok rows most ∧ w.isNum = false) (hl : F.length ≤ 1000) (ha : acc.length ≤ 10) :
    yB [some (.ref A0.length), some (.int c), some (.str (S acc)), some (.str ⟨#[l]⟩), none, none] (encF A0 dc gates ws) = .nx [some (.ref A0.length), some (.int c), some (.str (S (acc ++ if F.any (touch c l) then [l] else []))), some (.str ⟨#[l]⟩), none, none] (encF A0 dc gates ws) := by
  have hl2 : ws.length = F.length := by
    have := congrArg List.length hst.f
    rwa [List.length_map] at this
  have e1 : miAny (mFld cs_words "words" (mv 0)) [some (.ref A0.length), some (.int c), some (.str (S acc)), some (.str ⟨#[l]⟩), none, none] (encF A0 dc gates ws) = .ok (.ref (A0.length + 1)) (encF A0 dc gates ws) := by
    refine it_ref ?_ enc_ws
    rw [e_fld, e_mv0, kF_0, f_words]
  have e2 : yL [some (.ref A0.length), some (.int c), some (.str (S acc)), some (.str ⟨#[l]⟩), none, none] (encF A0 dc gates ws) = .ok (.lst ((F.filter (touch c l)).map Wo.d)) (encF A0 dc gates ws) := by
    have := lc_all (fin := finF) (g := gmTup 2 (gmCons (gmN 4) (gmCons (gmN 5) gmNil))) (tt := mTb (mCall m_may_touch (mCons (mv 4) (mCons (mv 1) (mCons (mv 3) mNil))))) (te := mv 4) (vs := [4, 5]) (ds := ws.map prD) (ps := ws.map fun x => (touch c l x.1, x.1.d)) e1 (nx_ref enc_ws) (ln_ref enc_ws) (by rw [List.length_map]; omega) (All2.maps fun x hx => by
      have hm := may_ok (A := encF A0 dc gates ws) (w := x.1) (c := c) (l := l) (hF _ (by rw [← hst.f]; exact List.mem_map_of_mem hx)).2
      refine ⟨[some (.ref A0.length), some (.int c), some (.str (S acc)), some (.str ⟨#[l]⟩), some x.1.d, some (roD x.2)], rfl, ?_, fun _ => rfl⟩
      simp only [e_tb, e_call, e_cons, e_nil, e_mvS, e_mv0, kC1_0, kC2_0, kCall_0, hm, kT_0])
    unfold yL
    rw [this]
    have e3 : (((ws.map fun x => (touch c l x.1, x.1.d)).filter (·.1)).map (·.2)) = (F.filter (touch c l)).map Wo.d := by
      rw [← hst.f, List.filter_map, List.filter_map, List.map_map, List.map_map]
      rfl
    rw [e3]
    rfl
  have e4 := ne_nil (A := encF A0 dc gates ws) (xs := F.filter (touch c l)) fun w hw => (hF w (List.mem_filter.mp hw).1).1
  rw [any_filter] at e4
  show (mIfS (mTb (mBin neD yL (mLst mNil))) yA mNx) _ _ = _
  rw [e_ifS, e_tb, e_bin, e2, kB1_0, e_lst, e_nil, kLst_0, if_pos (by decide), kB2_0, e4, kT_0]
  cases F.any (touch c l) with
  | true =>
    have : addD (.str (S acc)) (.str ⟨#[l]⟩) (encF A0 dc gates ws) = .ok (.str (S (acc ++ [l]))) (encF A0 dc gates ws) := by
      show (if (S acc).length + (S [l]).length ≤ 16777216 then R.ok (D.str (S acc ++ S [l])) _ else .bad) = _
      rw [SX.S_len, SX.S_len, if_pos (by simp; omega), SX.S_cat]
    rw [kIf_0]
    simp [yA, this]
  | false =>
    rw [kIf_1, e_nx]
    simp
theorem letters_ok {F : List Wo} {k : Nat} {c : Int} (hst : St gates F k ws) (hF : ∀ w ∈ F, w.Ok rows most ∧ w.isNum = false) (hl : F.length ≤ 1000) :
    m_Found_letters [.ref A0.length, .int c] (encF A0 dc gates ws) = .ok (.str (S (lettersOf F c))) (encF A0 dc gates ws) := by
  have e0 : m_Found_letters [.ref A0.length, .int c] (encF A0 dc gates ws) = finS (mSeq y1 (mSeq (mFor (miAny (mc g_LETTERS)) (gmN 3) yB) y3) [some (.ref A0.length), some (.int c), none, none, none, none] (encF A0 dc gates ws)) := rfl
  have c1 : y1 [some (.ref A0.length), some (.int c), none, none, none, none] (encF A0 dc gates ws) = .nx [some (.ref A0.length), some (.int c), some (.str (S [])), none, none, none] (encF A0 dc gates ws) := by
    rw [← e_emp]
    rfl
  have e1 : miAny (mc g_LETTERS) [some (.ref A0.length), some (.int c), some (.str (S [])), none, none, none] (encF A0 dc gates ws) = .ok (.data [.str ⟨#[103]⟩, .str ⟨#[115]⟩]) (encF A0 dc gates ws) := by
    rw [show g_LETTERS = .str (S [103, 115]) from by unfold g_LETTERS; exact congrArg D.str (by decide)]
    rfl
  have b1 := yB_ok (A0 := A0) (dc := dc) (gates := gates) (c := c) (l := 103) (acc := []) hst hF hl (by simp)
  have b2 := yB_ok (A0 := A0) (dc := dc) (gates := gates) (c := c) (l := 115) (acc := [] ++ if F.any (touch c 103) then [103] else []) hst hF hl (by split <;> simp)
  have c2 : forL (gmN 3) yB [.str ⟨#[103]⟩, .str ⟨#[115]⟩] [some (.ref A0.length), some (.int c), some (.str (S [])), none, none, none] (encF A0 dc gates ws) = .nx [some (.ref A0.length), some (.int c), some (.str (S (lettersOf F c))), some (.str ⟨#[115]⟩), none, none] (encF A0 dc gates ws) := by
    have f1 : forL (gmN 3) yB [.str ⟨#[103]⟩, .str ⟨#[115]⟩] [some (.ref A0.length), some (.int c), some (.str (S [])), none, none, none] (encF A0 dc gates ws) = (match yB [some (.ref A0.length), some (.int c), some (.str (S [])), some (.str ⟨#[103]⟩), none, none] (encF A0 dc gates ws) with
      | .nx s2 A2 => forL (gmN 3) yB [.str ⟨#[115]⟩] s2 A2
      | .ct s2 A2 => forL (gmN 3) yB [.str ⟨#[115]⟩] s2 A2
      | .bk s2 A2 => .nx s2 A2
      | r => r) := rfl
    rw [f1, b1]
    dsimp only
    have f2 : ∀ z, forL (gmN 3) yB [.str ⟨#[115]⟩] [some (.ref A0.length), some (.int c), some (.str z), some (.str ⟨#[103]⟩), none, none] (encF A0 dc gates ws) = (match yB [some (.ref A0.length), some (.int c), some (.str z), some (.str ⟨#[115]⟩), none, none] (encF A0 dc gates ws) with
      | .nx s2 A2 => .nx s2 A2
      | .ct s2 A2 => .nx s2 A2
      | .bk s2 A2 => .nx s2 A2
      | r => r) := fun z => rfl
    rw [f2, b2]
    rfl
  rw [e0, e_seq, c1, RS.nxt_nx, e_seq, mFor_data e1, c2, RS.nxt_nx]
  rfl
end
end K21


set_option Elab.async false
set_option linter.all false
set_option maxRecDepth 100000
set_option maxHeartbeats 4000000
/-! K21U: reach; the law's own spreading. -/
namespace K21
open PySem Tg L2
open SX (S)
theorem val_meth {c n0 : Str} {g : List D → AH → R D} {mo : ME} {ma : MA} {s : Sl} {A A1 : AH} {n : Nat} {fs : List (Str × D)} {ds : List D} {x : D} (hm : mo s A = .ok (.ref n) A) (hA : A[n]? = some (.ins c fs)) (hf : fs.lookup n0 = none) (ha : ma s A = .ok ds A) (hg : g (.ref n :: ds) A = .ok x A1) :
    mMeth c n0 g mo ma s A = .ok x A1 := by
  rw [e_meth, hm, kMe1_0, hA, kMe2_0, if_pos ⟨rfl, hf⟩, ha, kMe3_0, hg]
theorem mk_asg {c : Str} {g : List D → AH → R D} {ma : MA} {s : Sl} {A A1 : AH} {ds : List D} {i : Nat} (ha : ma s A = .ok ds A) (hg : g (.ref A.length :: ds) (A ++ [.ins c []]) = .ok .non A1) :
    mAsg (mMake c g ma) (gmN i) s A = .nx (s.set i (some (.ref A.length))) A1 := by
  rw [e_asgN, e_make, ha, kMk1_0, hg, kMk2_0, kAsg_0]
theorem asg_call {g : List D → AH → R D} {ma : MA} {s : Sl} {A A1 : AH} {ds : List D} {x : D} {i : Nat} (ha : ma s A = .ok ds A) (hg : g ds A = .ok x A1) : mAsg (mCall g ma) (gmN i) s A = .nx (s.set i (some x)) A1 := by
  rw [e_asgN, e_call, ha, kCall_0, hg, kAsg_0]
def pairD (F : List Wo) (c : Nat) : D := .tup [.int c, .str (S (lettersOf F c))]
def told (F : List Wo) : List D := ((List.range 64).filter fun c : Nat => !(lettersOf F c).isEmpty).map (pairD F)
def r1 : MS := (mDrop (mCall m_need_state (mCons (mv 0) (mCons (mv 1) (mCons (mv 2) (mCons (mv 3) mNil))))))
def r2 : MS := (mAsg (mMake "Found" m_Found___init__ (mCons (mv 2) (mCons (mv 3) (mCons (mv 4) mNil)))) (gmN 5))
def r3 : MS := (mAsg (mLc (mRng1 (mCons (mc g_CELLS) mNil)) (gmN 7) mYes (mTup (mCons (mv 7) (mCons (mMeth "Found" "letters" m_Found_letters (mv 5) (mCons (mv 7) mNil)) mNil))) [7] finF) (gmN 6))
def r4 : MS := (mRet (mLc (miAny (mv 6)) (gmN 8) (mTb (mBin neD (mBin ixD (mv 8) (mc (.int (1)))) (mc (.str "")))) (mv 8) [8] finF))
def rL : ME := mLc (mRng1 (mCons (mc g_CELLS) mNil)) (gmN 7) mYes (mTup (mCons (mv 7) (mCons (mMeth "Found" "letters" m_Found_letters (mv 5) (mCons (mv 7) mNil)) mNil))) [7] finF
def rK : ME := mLc (miAny (mv 6)) (gmN 8) (mTb (mBin neD (mBin ixD (mv 8) (mc (.int (1)))) (mc (.str "")))) (mv 8) [8] finF
theorem ne_S {z : List Nat} {A : AH} : neD (.str (S z)) (.str "") A = .ok (.bl (!z.isEmpty)) A := by
  rw [e_emp, o_neS, SX.S_beq]
  cases z <;> rfl
theorem told_eq {F : List Wo} : ((((List.range 64).map fun c : Nat => (!(lettersOf F c).isEmpty, pairD F c)).filter (·.1)).map (·.2)) = told F := by
  unfold told
  rw [List.filter_map, List.map_map]
  rfl
theorem all_eq {F : List Wo} : ((((List.range 64).map fun c : Nat => (true, pairD F c)).filter (·.1)).map (·.2)) = (List.range 64).map (pairD F) := by
  rw [List.filter_eq_self.mpr (fun b hb => by
    obtain ⟨x, _, rfl⟩ := List.mem_map.mp hb
    rfl), List.map_map]
  rfl
section
variable {A0 : AH} {dc db : D} {cells boxes : List Wo} {gates : Bool} {rows rooms : Nat}
theorem reach_told (hdc : seqL A0 dc = some (cells.map Wo.d)) (hdb : seqL A0 db = some (boxes.map Wo.d)) (hr : rooms ≤ 12) (hc : ∀ w ∈ cells, w.Ok rows (64 - 4 * rooms)) (hb : ∀ w ∈ boxes, w.Ok rows (64 - 4 * rooms)) (lc : cells.length = 64 - 4 * rooms) (lb : boxes.length = 8) :
    ∃ (F : List Wo) (A1 : AH), m_reach [.int rows, .int rooms, dc, db, .bl gates] A0 = .ok (.lst (told F)) (A0 ++ A1) ∧ A1.length = 2 ∧ ∀ w, w ∈ F ↔ Reach gates cells boxes w := by
  have e0 : m_reach [.int rows, .int rooms, dc, db, .bl gates] A0 = finS (mSeq r1 (mSeq r2 (mSeq (mAsg rL (gmN 6)) (mRet rK))) [some (.int rows), some (.int rooms), some (dc), some (db), some (.bl gates), none, none, none, none] A0) := rfl
  have c1 : r1 [some (.int rows), some (.int rooms), some (dc), some (db), some (.bl gates), none, none, none, none] A0 = .nx [some (.int rows), some (.int rooms), some (dc), some (db), some (.bl gates), none, none, none, none] A0 := drop_call rfl (state_ok hdc hdb hr hc hb lc lb)
  obtain ⟨F, k, ws, i1, ⟨_, hst⟩, hI, hiff⟩ := init_ok (A0 := A0) (gates := gates) hdc hdb hc hb lc.symm (by omega) (by omega)
  have hlen : F.length ≤ 1000 := by
    have := hI.len
    omega
  have hF : ∀ w ∈ F, w.Ok rows (64 - 4 * rooms) ∧ w.isNum = false := fun w hw => ⟨reach_ok hc hb (hI.re w hw), (hI.re w hw).num⟩
  have c2 : r2 [some (.int rows), some (.int rooms), some (dc), some (db), some (.bl gates), none, none, none, none] A0 = .nx [some (.int rows), some (.int rooms), some (dc), some (db), some (.bl gates), some (.ref A0.length), none, none, none] (encF A0 dc gates ws) := mk_asg rfl i1
  have e3 : rL [some (.int rows), some (.int rooms), some (dc), some (db), some (.bl gates), some (.ref A0.length), none, none, none] (encF A0 dc gates ws) = .ok (.lst ((List.range 64).map (pairD F))) (encF A0 dc gates ws) := by
    have e1 : mRng1 (mCons (mc g_CELLS) mNil) [some (.int rows), some (.int rooms), some (dc), some (db), some (.bl gates), some (.ref A0.length), none, none, none] (encF A0 dc gates ws) = .ok (.data ((List.range 64).map fun i : Nat => D.int (i : Int))) (encF A0 dc gates ws) := rng1 (j := 64) rfl (by decide)
    have := lc_all (fin := finF) (g := gmN 7) (tt := mYes) (te := mTup (mCons (mv 7) (mCons (mMeth "Found" "letters" m_Found_letters (mv 5) (mCons (mv 7) mNil)) mNil))) (vs := [7]) (ds := (List.range 64).map fun i : Nat => D.int (i : Int)) (ps := (List.range 64).map fun c : Nat => (true, pairD F c)) e1 nx_data rfl (by rw [List.length_map, List.length_range]; decide) (All2.maps fun c _ => by
        refine ⟨[some (.int rows), some (.int rooms), some (dc), some (db), some (.bl gates), some (.ref A0.length), none, some (.int (c : Int)), none], rfl, rfl, fun _ => ?_⟩
        have h1 : mMeth "Found" "letters" m_Found_letters (mv 5) (mCons (mv 7) mNil) [some (.int rows), some (.int rooms), some (dc), some (db), some (.bl gates), some (.ref A0.length), none, some (.int (c : Int)), none] (encF A0 dc gates ws) = .ok (.str (S (lettersOf F c))) (encF A0 dc gates ws) :=
          val_meth rfl enc_ins (by simp [List.lookup]) (ds := [.int (c : Int)]) rfl (letters_ok hst hF hlen)
        rw [e_tup, meth_args (d1 := .int (c : Int)) rfl h1]
        rfl)
    unfold rL
    rw [this, all_eq]
    rfl
  have e4 : rK [some (.int rows), some (.int rooms), some (dc), some (db), some (.bl gates), some (.ref A0.length), some (.lst ((List.range 64).map (pairD F))), none, none] (encF A0 dc gates ws) = .ok (.lst (told F)) (encF A0 dc gates ws) := by
    have e1 : miAny (mv 6) [some (.int rows), some (.int rooms), some (dc), some (db), some (.bl gates), some (.ref A0.length), some (.lst ((List.range 64).map (pairD F))), none, none] (encF A0 dc gates ws) = .ok (.data ((List.range 64).map (pairD F))) (encF A0 dc gates ws) := rfl
    have := lc_all (fin := finF) (g := gmN 8) (tt := mTb (mBin neD (mBin ixD (mv 8) (mc (.int (1)))) (mc (.str "")))) (te := mv 8) (vs := [8]) (ds := (List.range 64).map (pairD F)) (ps := (List.range 64).map fun c : Nat => (!(lettersOf F c).isEmpty, pairD F c)) e1 nx_data rfl (by rw [List.length_map, List.length_range]; decide) (All2.maps fun c _ => by
        refine ⟨[some (.int rows), some (.int rooms), some (dc), some (db), some (.bl gates), some (.ref A0.length), some (.lst ((List.range 64).map (pairD F))), none, some (pairD F c)], rfl, ?_, fun _ => rfl⟩
        have h1 : ixD (pairD F c) (.int 1) (encF A0 dc gates ws) = .ok (.str (S (lettersOf F c))) (encF A0 dc gates ws) := ix_tup (atI_ok (i := 1) rfl)
        simp only [e_tb, e_bin, e_mvS, e_mv0, kB1_0, e_mc, kB2_0, h1, ne_S, kT_0])
    unfold rK
    rw [this, told_eq]
    rfl
  refine ⟨F, [.ins "Found" [("store", dc), ("gates", .bl gates), ("words", .ref (A0.length + 1))], .lst (ws.map prD)], ?_, rfl, hiff⟩
  rw [e0, e_seq, c1, RS.nxt_nx, e_seq, c2, RS.nxt_nx, e_seq, e_asgN, e3, kAsg_0, RS.nxt_nx, e_ret]
  show finS (kRet _ (rK [some (.int rows), some (.int rooms), some (dc), some (db), some (.bl gates), some (.ref A0.length), some (.lst ((List.range 64).map (pairD F))), none, none] (encF A0 dc gates ws))) = _
  rw [e4]
  rfl
end
end K21


set_option Elab.async false
set_option linter.all false
set_option maxRecDepth 100000
set_option maxHeartbeats 4000000
/-! K21W: words drawn. -/
namespace K21
open PySem Tg L2
open SX (S)
theorem tk : m__law_taken = m_taken := rfl
theorem rInt (a b : Int) : ((a : Int) == b) = decide (a = b) := by
  by_cases h : a = b
  · simp [h]
  · simp [h]
/-- the drawing changes the row alone -/
structure Dr (r : Nat) (ns : List Int) (A A' : AH) : Prop where
  row : RowAt r ns A'
  len : A'.length = A.length
  oth : ∀ n, n ≠ r → A'[n]? = A[n]?
theorem Dr.trans {r : Nat} {ns : List Int} {A B C : AH} (a : Dr r ns A B) (b : Dr r ns B C) : Dr r ns A C := ⟨b.row, b.len.trans a.len, fun n hn => (b.oth n hn).trans (a.oth n hn)⟩
theorem Dr.refl {r : Nat} {ns : List Int} {A : AH} (h : RowAt r ns A) : Dr r ns A A := ⟨h, rfl, fun _ _ => rfl⟩
theorem takenD {r : Nat} {ns : List Int} {A : AH} (many : Int) (h : RowAt r ns A) (hm : 0 < many ∧ many < 1073741824) : ∃ (v : Nat) (A' : AH), m_taken [.ref r, .int many] A = .ok (.int (v : Int)) A' ∧ Dr r ns A A' ∧ (v : Int) < many := by
  obtain ⟨a, b, c, hA, ha⟩ := h
  obtain ⟨v, a', b', c', e, h1, h2, h3⟩ := taken_ok hA ha hm.1 hm.2
  have hr := (List.getElem?_eq_some_iff.mp hA).1
  obtain ⟨n, rfl⟩ := Int.eq_ofNat_of_zero_le h1
  exact ⟨n, _, e, ⟨⟨a', b', c', List.getElem?_set_self hr, h3⟩, List.length_set, fun k hk => List.getElem?_set_ne (Ne.symm hk)⟩, h2⟩
section
variable {r : Nat} {ns : List Int} {A : AH}
theorem number_ok (h : RowAt r ns A) : ∃ v A', m__law_number [.ref r] A = .ok (.int v) A' ∧ Dr r ns A A' ∧ -10000 ≤ v ∧ v < 10000 := by
  have e0 : m__law_number [.ref r] A = finS (b__law_number [some (.ref r), none] A) := rfl
  obtain ⟨w, A1, e1, h1, w1⟩ := takenD 6 h ⟨by omega, by omega⟩
  by_cases h4 : (w : Int) < 4
  · obtain ⟨x, A2, e2, h2, x1⟩ := takenD 5 h1.row ⟨by omega, by omega⟩
    obtain ⟨y, A3, e3, h3, y1⟩ := takenD 70 h2.row ⟨by omega, by omega⟩
    obtain ⟨z, A4, e4, h4', z1⟩ := takenD 40 h3.row ⟨by omega, by omega⟩
    have hD := ((h1.trans h2).trans h3).trans h4'
    have hw : w = 0 ∨ w = 1 ∨ w = 2 ∨ w = 3 := by omega
    rcases hw with rfl | rfl | rfl | rfl
    · exact ⟨x, A4, by rw [e0]; simp at e1; simp [b__law_number, tk, e1, e2, e3, e4], hD, by omega, by omega⟩
    · exact ⟨y, A4, by rw [e0]; simp at e1; simp [b__law_number, tk, e1, e2, e3, e4], hD, by omega, by omega⟩
    · exact ⟨z - 20, A4, by rw [e0]; simp at e1; simp [b__law_number, tk, e1, e2, e3, e4], hD, by omega, by omega⟩
    · exact ⟨1, A4, by rw [e0]; simp at e1; simp [b__law_number, tk, e1, e2, e3, e4], hD, by omega, by omega⟩
  · obtain ⟨x, A2, e2, h2, x1⟩ := takenD 20000 h1.row ⟨by omega, by omega⟩
    obtain ⟨y, A3, e3, h3, y1⟩ := takenD 2 h2.row ⟨by omega, by omega⟩
    have hD := (h1.trans h2).trans h3
    have hw : w = 4 ∨ w = 5 := by omega
    have hy : y = 0 ∨ y = 1 := by omega
    rcases hw with rfl | rfl
    · rcases hy with rfl | rfl
      · exact ⟨x - 10000, A3, by rw [e0]; simp at e1 e3; simp [b__law_number, tk, e1, e2, e3], hD, by omega, by omega⟩
      · exact ⟨x - 10000, A3, by rw [e0]; simp at e1 e3; simp [b__law_number, tk, e1, e2, e3], hD, by omega, by omega⟩
    · rcases hy with rfl | rfl
      · exact ⟨9999, A3, by rw [e0]; simp at e1 e3; simp [b__law_number, tk, e1, e2, e3], hD, by omega, by omega⟩
      · exact ⟨-10000, A3, by rw [e0]; simp at e1 e3; simp [b__law_number, tk, e1, e2, e3], hD, by omega, by omega⟩
theorem sub16 : ∀ l : List Nat, l.Sublist [103, 104, 108, 115] → l ∈ Tg.R16 := by
  intro l h
  cases h <;> rename_i h <;> cases h <;> rename_i h <;> cases h <;> rename_i h <;> cases h <;> rename_i h <;> cases h <;> decide
theorem sub_map {α β : Type} {f : α → β} : ∀ {xs : List α} {ys : List β}, ys.Sublist (xs.map f) → ∃ l : List α, l.Sublist xs ∧ ys = l.map f
  | [], ys, h => ⟨[], .slnil, List.sublist_nil.mp h⟩
  | x :: xs, ys, h => by
    rcases List.sublist_cons_iff.mp h with h5 | ⟨zs, e, h5⟩
    · obtain ⟨l, h1, h2⟩ := sub_map h5
      exact ⟨l, h1.cons x, h2⟩
    · subst e
      obtain ⟨l, h1, h2⟩ := sub_map h5
      exact ⟨x :: l, h1.cons₂ x, by rw [h2]; rfl⟩
def g1 : MS := (mAsg (mBin ixD (mLst (mCons (mc (.int (4))) (mCons (mc (.int (9))) (mCons (mc (.int (2))) mNil)))) (mCall m__law_taken (mCons (mv 0) (mCons (mc (.int (3))) mNil)))) (gmN 1))
def gL : ME := mLc (miAny (mc (.str "ghls"))) (gmN 2) (mTb (mBin gtD (mCall m__law_taken (mCons (mv 0) (mCons (mv 1) mNil))) (mc (.int (0))))) (mv 2) [2] finF
theorem rights_ok (h : RowAt r ns A) : ∃ (l : List Nat) (A' : AH), m__law_rights [.ref r] A = .ok (.str (S l)) A' ∧ Dr r ns A A' ∧ l ∈ Tg.R16 := by
  have e0 : m__law_rights [.ref r] A = finS (mSeq g1 (mRet (mMt "str" joinD (mc (.str "")) (mCons gL mNil))) [some (.ref r), none, none] A) := rfl
  obtain ⟨w, A1, e1, h1, w1⟩ := takenD 3 h ⟨by omega, by omega⟩
  have hk : ∃ i : Int, 0 < i ∧ i < 10 ∧ atI [D.int 4, D.int 9, D.int 2] (w : Int) = some (.int i) := by
    have hk : w = 0 ∨ w = 1 ∨ w = 2 := by omega
    rcases hk with rfl | rfl | rfl
    · exact ⟨4, by omega, by omega, at0⟩
    · exact ⟨9, by omega, by omega, at1⟩
    · exact ⟨2, by omega, by omega, at2⟩
  obtain ⟨i, i0, i1, hi⟩ := hk
  have c1 : g1 [some (.ref r), none, none] A = .nx [some (.ref r), some (.int i), none] A1 := by
    simp [g1, tk, e1, hi]
  have e2 : miAny (mc (.str "ghls")) [some (.ref r), some (.int i), none] A1 = .ok (.data ([103, 104, 108, 115].map fun c => .str ⟨#[c]⟩)) A1 := by
    rw [e_rts]
    rfl
  obtain ⟨ys, A2, e3, h2, hs⟩ := lc_sub (g := gmN 2) (tt := mTb (mBin gtD (mCall m__law_taken (mCons (mv 0) (mCons (mv 1) mNil))) (mc (.int (0))))) (te := mv 2) (vs := [2]) (Dr r ns A1) e2 (by decide) (Dr.refl h1.row) (fun d _ B hB => by
    obtain ⟨v, B', e, hB', _⟩ := takenD i hB.row ⟨i0, by omega⟩
    exact ⟨_, decide (0 < (v : Int)), B', rfl, by simp only [e_tb, e_bin, e_call, e_cons, e_nil, wpD, wp_cons, wp_nil, List.set_cons_succ, List.set_cons_zero, e_mvS, e_mv0, kC1_0, kC2_0, kCall_0, tk, e, kB1_0, e_mc, kB2_0, o_gt, kT_0], hB.trans hB', rfl⟩)
  obtain ⟨l, hl, rfl⟩ := sub_map hs
  have hl16 := sub16 l hl
  have e4 : gL [some (.ref r), some (.int i), none] A1 = .ok (.lst (l.map fun c => .str ⟨#[c]⟩)) A2 := e3
  refine ⟨l, A2, ?_, h1.trans h2, hl16⟩
  rw [e0, e_seq, c1, RS.nxt_nx]
  simp [e4, e_emp, rights_join hl16, tyMD]
def s1 : MS := (mAsg (mCall m__law_taken (mCons (mv 0) (mCons (mv 1) mNil))) (gmN 2))
def s2 : MS := (mAsg (mBin addD (mBin addD (mv 2) (mc (.int (1)))) (mCall m__law_taken (mCons (mv 0) (mCons (mCall minD (mCons (mBin subD (mv 1) (mv 2)) (mCons (mBin ixD (mLst (mCons (mc (.int (4))) (mCons (mc (.int (9))) (mCons (mc (.int (64))) mNil)))) (mCall m__law_taken (mCons (mv 0) (mCons (mc (.int (3))) mNil)))) mNil))) mNil)))) (gmN 3))
def s3 : MS := (mAsg (mBin addD (mv 2) (mCall m__law_taken (mCons (mv 0) (mCons (mBin subD (mv 3) (mv 2)) mNil)))) (gmN 4))
def s4 : MS := (mIfS (mTb (mBin eqD (mCall m__law_taken (mCons (mv 0) (mCons (mc (.int (6))) mNil))) (mc (.int (5))))) (mAsg (mBin ixD (mLst (mCons (mBin subD (mCall m__law_taken (mCons (mv 0) (mCons (mc (.int (20000))) mNil))) (mc (.int (10000)))) (mCons (mv 3) (mCons (mBin subD (mv 2) (mc (.int (1)))) mNil)))) (mCall m__law_taken (mCons (mv 0) (mCons (mc (.int (3))) mNil)))) (gmN 4)) mNx)
def s5 : MS := (mRet (mTup (mCons (mc (.str "key")) (mCons (mv 2) (mCons (mv 3) (mCons (mv 4) (mCons (mCall m__law_rights (mCons (mv 0) mNil)) mNil)))))))

theorem key_made {most : Nat} (h : RowAt r ns A) (hm : 0 < most ∧ most ≤ 64) : ∃ (b e a : Int) (l : List Nat) (A' : AH), m__law_key [.ref r, .int most] A = .ok (Pl.key b e a l).d A' ∧ Dr r ns A A' ∧ Pl.Ok most (.key b e a l) := by
  have e0 : m__law_key [.ref r, .int most] A = finS (mSeq s1 (mSeq s2 (mSeq s3 (mSeq s4 s5))) [some (.ref r), some (.int most), none, none, none] A) := rfl
  obtain ⟨b, A1, e1, h1, b1⟩ := takenD (most : Int) h ⟨by omega, by omega⟩
  obtain ⟨w, A2, e2, h2, w1⟩ := takenD 3 h1.row ⟨by omega, by omega⟩
  have hk : ∃ i : Int, 0 < i ∧ i < 100 ∧ atI [D.int 4, D.int 9, D.int 64] (w : Int) = some (.int i) := by
    have hk : w = 0 ∨ w = 1 ∨ w = 2 := by omega
    rcases hk with rfl | rfl | rfl
    · exact ⟨4, by omega, by omega, at0⟩
    · exact ⟨9, by omega, by omega, at1⟩
    · exact ⟨64, by omega, by omega, at2⟩
  obtain ⟨i, i0, i1, hi⟩ := hk
  have hj : ∃ j : Int, 0 < j ∧ j ≤ most - b ∧ ∀ B, minD [.int ((most : Int) - b), .int i] B = .ok (.int j) B := by
    by_cases q : i < (most : Int) - b
    · exact ⟨i, i0, by omega, fun B => by show R.ok (D.int (if i < (most : Int) - b then i else (most : Int) - b)) B = _; rw [if_pos q]⟩
    · exact ⟨(most : Int) - b, by omega, by omega, fun B => by show R.ok (D.int (if i < (most : Int) - b then i else (most : Int) - b)) B = _; rw [if_neg q]⟩
  obtain ⟨j, j0, j1, hj⟩ := hj
  obtain ⟨t, A3, e3, h3, t1⟩ := takenD j h2.row ⟨by omega, by omega⟩
  obtain ⟨u, A4, e4, h4, u1⟩ := takenD ((b : Int) + 1 + t - b) h3.row ⟨by omega, by omega⟩
  obtain ⟨v, A5, e5, h5, v1⟩ := takenD 6 h4.row ⟨by omega, by omega⟩
  have c1 : s1 [some (.ref r), some (.int most), none, none, none] A = .nx [some (.ref r), some (.int most), some (.int b), none, none] A1 := by
    simp [s1, tk, e1]
  have c2 : s2 [some (.ref r), some (.int most), some (.int b), none, none] A1 = .nx [some (.ref r), some (.int most), some (.int b), some (.int ((b : Int) + 1 + t)), none] A3 := by
    simp [s2, tk, e2, hi, hj, e3]
  have c3 : s3 [some (.ref r), some (.int most), some (.int b), some (.int ((b : Int) + 1 + t)), none] A3 = .nx [some (.ref r), some (.int most), some (.int b), some (.int ((b : Int) + 1 + t)), some (.int ((b : Int) + u))] A4 := by
    simp only [s3, e_asgN, e_bin, e_mvS, e_mv0, kB1_0, e_call, e_cons, e_nil, kB2_0, o_sub, kC1_0, kC2_0, kCall_0, tk, e4, o_add, kAsg_0]
    rfl
  have c4 : ∃ (a : Int) (A6 : AH), s4 [some (.ref r), some (.int most), some (.int b), some (.int ((b : Int) + 1 + t)), some (.int ((b : Int) + u))] A4 = .nx [some (.ref r), some (.int most), some (.int b), some (.int ((b : Int) + 1 + t)), some (.int a)] A6 ∧ Dr r ns A4 A6 ∧ -10000 ≤ a ∧ a < 10000 := by
    by_cases hv : v = 5
    · obtain ⟨f, A6, e6, h6, f1⟩ := takenD 20000 h5.row ⟨by omega, by omega⟩
      obtain ⟨k, A7, e7, h7, k1⟩ := takenD 3 h6.row ⟨by omega, by omega⟩
      have hz : ∃ a : Int, -10000 ≤ a ∧ a < 10000 ∧ atI [D.int ((f : Int) - 10000), D.int ((b : Int) + 1 + t), D.int ((b : Int) - 1)] (k : Int) = some (.int a) := by
        have hk : k = 0 ∨ k = 1 ∨ k = 2 := by omega
        rcases hk with rfl | rfl | rfl
        · exact ⟨f - 10000, by omega, by omega, at0⟩
        · exact ⟨(b : Int) + 1 + t, by omega, by omega, at1⟩
        · exact ⟨(b : Int) - 1, by omega, by omega, at2⟩
      obtain ⟨a, a0, a1, ha⟩ := hz
      subst hv
      simp at e5
      exact ⟨a, A7, by simp [s4, tk, e5, e6, e7, ha], (h5.trans h6).trans h7, a0, a1⟩
    · have hv2 : ¬ (v : Int) = 5 := by omega
      exact ⟨(b : Int) + u, A5, by simp [s4, tk, e5, rInt, hv2], h5, by omega, by omega⟩
  obtain ⟨a, A6, c4, h6, a0, a1⟩ := c4
  obtain ⟨l, A7, e7, h7, hl⟩ := rights_ok h6.row
  have c5 : s5 [some (.ref r), some (.int most), some (.int b), some (.int ((b : Int) + 1 + t)), some (.int a)] A6 = .rt (Pl.key b ((b : Int) + 1 + t) a l).d A7 := by
    simp [s5, e7, Pl.d]
  refine ⟨b, (b : Int) + 1 + t, a, l, A7, ?_, ((((h1.trans h2).trans h3).trans h4).trans h6).trans h7, .key (by omega) (by omega) (by omega) (by omega) a0 a1 hl⟩
  rw [e0, e_seq, c1, RS.nxt_nx, e_seq, c2, RS.nxt_nx, e_seq, c3, RS.nxt_nx, e_seq, c4, RS.nxt_nx, c5, finS_rt]
def o1 : MS := (mAsg (mCall m__law_taken (mCons (mv 0) (mCons (mc (.int (7))) mNil))) (gmN 3))
def o2 : MS := (mIfS (mTb (mBin ltD (mv 3) (mc (.int (3))))) (mRet (mCall m__law_number (mCons (mv 0) mNil))) mNx)
def o3 : MS := (mAsg (mIf (mTb (mBin eqD (mCall m__law_taken (mCons (mv 0) (mCons (mc (.int (4))) mNil))) (mc (.int (3))))) (mCall m__law_number (mCons (mv 0) mNil)) (mCall m__law_key (mCons (mv 0) (mCons (mv 1) mNil)))) (gmN 4))
def o4 : MS := (mRet (mIf (mTb (mBin eqD (mv 3) (mc (.int (6))))) (mTup (mCons (mc (.str "gate")) (mCons (mCall m__law_taken (mCons (mv 0) (mCons (mBin addD (mv 2) (mc (.int (1)))) mNil))) (mCons (mv 4) mNil)))) (mCall m__law_key (mCons (mv 0) (mCons (mv 1) mNil)))))

theorem one_made {most rows : Nat} (h : RowAt r ns A) (hm : 0 < most ∧ most ≤ 64) (hr : rows ≤ 1000) : ∃ (w : Wo) (A' : AH), m__law_one [.ref r, .int most, .int rows] A = .ok w.d A' ∧ Dr r ns A A' ∧ w.Ok rows most := by
  have e0 : m__law_one [.ref r, .int most, .int rows] A = finS (mSeq o1 (mSeq o2 (mSeq o3 o4)) [some (.ref r), some (.int most), some (.int rows), none, none] A) := rfl
  obtain ⟨w, A1, e1, h1, w1⟩ := takenD 7 h ⟨by omega, by omega⟩
  have c1 : o1 [some (.ref r), some (.int most), some (.int rows), none, none] A = .nx [some (.ref r), some (.int most), some (.int rows), some (.int w), none] A1 := by
    simp [o1, tk, e1]
  by_cases hw : (w : Int) < 3
  · obtain ⟨v, A2, e2, h2, v0, v1⟩ := number_ok h1.row
    refine ⟨.pl (.num v), A2, ?_, h1.trans h2, .pl (.num v0 v1)⟩
    have c2 : o2 [some (.ref r), some (.int most), some (.int rows), some (.int w), none] A1 = .rt (.int v) A2 := by
      simp [o2, hw, e2]
    rw [e0, e_seq, c1, RS.nxt_nx, e_seq, c2, RS.nxt_rt, finS_rt]
    rfl
  · have c2 : o2 [some (.ref r), some (.int most), some (.int rows), some (.int w), none] A1 = .nx [some (.ref r), some (.int most), some (.int rows), some (.int w), none] A1 := by
      simp [o2, hw]
    obtain ⟨u, A2, e2, h2, u1⟩ := takenD 4 h1.row ⟨by omega, by omega⟩
    have c3 : ∃ (p : Pl) (A3 : AH), o3 [some (.ref r), some (.int most), some (.int rows), some (.int w), none] A1 = .nx [some (.ref r), some (.int most), some (.int rows), some (.int w), some p.d] A3 ∧ Dr r ns A1 A3 ∧ p.Ok most := by
      by_cases hu : u = 3
      · obtain ⟨v, A3, e3, h3, v0, v1⟩ := number_ok h2.row
        subst hu
        simp at e2
        exact ⟨.num v, A3, by simp [o3, tk, e2, e3, Pl.d], h2.trans h3, .num v0 v1⟩
      · obtain ⟨b, e, a, l, A3, e3, h3, hp⟩ := key_made (most := most) h2.row hm
        have hu2 : ¬ (u : Int) = 3 := by omega
        exact ⟨.key b e a l, A3, by simp [o3, tk, e2, rInt, hu2, e3], h2.trans h3, hp⟩
    obtain ⟨p, A3, c3, h3, hp⟩ := c3
    have pre : m__law_one [.ref r, .int most, .int rows] A = finS (o4 [some (.ref r), some (.int most), some (.int rows), some (.int w), some p.d] A3) := by
      rw [e0, e_seq, c1, RS.nxt_nx, e_seq, c2, RS.nxt_nx, e_seq, c3, RS.nxt_nx]
    by_cases hw6 : w = 6
    · obtain ⟨g, A4, e4, h4, g1⟩ := takenD ((rows : Int) + 1) h3.row ⟨by omega, by omega⟩
      refine ⟨.gate g p, A4, ?_, (h1.trans h3).trans h4, .gate (by omega) g1 hp⟩
      rw [pre]
      subst hw6
      simp [o4, tk, e4, Wo.d]
    · have hw2 : ¬ (w : Int) = 6 := by omega
      obtain ⟨b, e, a, l, A4, e4, h4, hp4⟩ := key_made (most := most) h3.row hm
      refine ⟨.pl (.key b e a l), A4, ?_, (h1.trans h3).trans h4, .pl hp4⟩
      rw [pre]
      simp [o4, rInt, hw2, e4, Wo.d]
def v1 : MS := (mIfS (mNot (mTb (mUn (isiD "tuple") (mv 1)))) (mRet (mIf (mTb (mBin eqD (mCall m__law_taken (mCons (mv 0) (mCons (mc (.int (2))) mNil))) (mc (.int (0))))) (mv 1) (mCall minD (mCons (mc (.int (9999))) (mCons (mBin addD (mv 1) (mc (.int (1)))) mNil))))) mNx)

def vG : MT := (mTb (mBin eqD (mBin ixD (mv 1) (mc (.int (0)))) (mc (.str "gate"))))
def vN : MS := (mIfS (mTb (mUn (isiD "int") (mBin ixD (mv 1) (mc (.int (2)))))) (mRet (mTup (mCons (mc (.str "gate")) (mCons (mCall maxD (mCons (mc (.int (0))) (mCons (mBin subD (mBin ixD (mv 1) (mc (.int (1)))) (mc (.int (1)))) mNil))) (mCons (mBin ixD (mv 1) (mc (.int (2)))) mNil))))) mNx)
def vR (g : List D → AH → R D) : MS := (mRet (mTup (mCons (mc (.str "gate")) (mCons (mBin ixD (mv 1) (mc (.int (1)))) (mCons (mCall g (mCons (mv 0) (mCons (mBin ixD (mv 1) (mc (.int (2)))) mNil))) mNil)))))
def v3 : MS := (mAsg (mSl (mv 1) (mPart (mc (.int (1)))) mNoPart) (gmTup 4 (gmCons (gmN 2) (gmCons (gmN 3) (gmCons (gmN 4) (gmCons (gmN 5) gmNil))))))
def v4 : MS := (mAsg (mCall m__law_taken (mCons (mv 0) (mCons (mc (.int (5))) mNil))) (gmN 6))
def v5 : MS := (mIfS (mTb (mBin ltD (mv 6) (mc (.int (2))))) (mRet (mTup (mCons (mc (.str "key")) (mCons (mv 2) (mCons (mv 3) (mCons (mBin addD (mv 4) (mBin ixD (mLst (mCons (mc (.int (1))) (mCons (mBin subD (mc (.int (0))) (mc (.int (1)))) mNil))) (mCall intD (mCons (mBin gtD (mv 4) (mc (.int (0)))) mNil)))) (mCons (mv 5) mNil))))))) mNx)
def v6 : MS := (mIfS (mAnd (mTb (mBin gtD (mBin subD (mv 3) (mv 2)) (mc (.int (1))))) (mTb (mBin ltD (mv 6) (mc (.int (4)))))) (mRet (mTup (mCons (mc (.str "key")) (mCons (mBin subD (mBin addD (mv 2) (mv 6)) (mc (.int (2)))) (mCons (mBin addD (mBin subD (mv 3) (mc (.int (3)))) (mv 6)) (mCons (mv 4) (mCons (mv 5) mNil))))))) mNx)
def v7 : MS := (mRet (mTup (mCons (mc (.str "key")) (mCons (mv 2) (mCons (mv 3) (mCons (mv 4) (mCons (mSl (mv 5) (mPart (mc (.int (1)))) mNoPart) mNil)))))))
theorem tail16 : ∀ l ∈ Tg.R16, l.drop 1 ∈ Tg.R16 := by decide
theorem nearly_pl {most n : Nat} {p : Pl} (h : RowAt r ns A) (hp : p.Ok most) : ∃ (q : Pl) (A' : AH), m__law_nearly (n + 1) [.ref r, p.d] A = .ok q.d A' ∧ Dr r ns A A' ∧ q.Ok most := by
  have e0 : m__law_nearly (n + 1) [.ref r, p.d] A = finS (mSeq v1 (mSeq (mIfS vG (mSeq vN (vR (m__law_nearly n))) mNx) (mSeq v3 (mSeq v4 (mSeq v5 (mSeq v6 v7))))) [some (.ref r), some p.d, none, none, none, none, none] A) := rfl
  cases hp with
  | @num i i0 i1 =>
    obtain ⟨t, A1, e1, h1, t1⟩ := takenD 2 h ⟨by omega, by omega⟩
    have e0' : m__law_nearly (n + 1) [.ref r, (Pl.num i).d] A = finS ((v1 [some (.ref r), some (.int i), none, none, none, none, none] A).nxt (mSeq (mIfS vG (mSeq vN (vR (m__law_nearly n))) mNx) (mSeq v3 (mSeq v4 (mSeq v5 (mSeq v6 v7)))))) := rfl
    by_cases ht : t = 0
    · subst ht
      simp at e1
      have c1 : v1 [some (.ref r), some (.int i), none, none, none, none, none] A = .rt (.int i) A1 := by
        simp [v1, subTy, tk, e1]
      exact ⟨.num i, A1, by rw [e0', c1, RS.nxt_rt, finS_rt]; rfl, h1, .num i0 i1⟩
    · have ht2 : ¬ (t : Int) = 0 := by omega
      have hmin : ∀ B, minD [.int 9999, .int (i + 1)] B = .ok (.int (if i + 1 < 9999 then i + 1 else 9999)) B := fun B => rfl
      have c1 : v1 [some (.ref r), some (.int i), none, none, none, none, none] A = .rt (.int (if i + 1 < 9999 then i + 1 else 9999)) A1 := by
        simp [v1, subTy, tk, e1, rInt, ht, hmin]
      refine ⟨.num (if i + 1 < 9999 then i + 1 else 9999), A1, by rw [e0', c1, RS.nxt_rt, finS_rt]; rfl, h1, .num ?_ ?_⟩
      · split <;> omega
      · split <;> omega
  | @key b e a l b0 b1 b2 b3 a0 a1 hl =>
    have hd : (Pl.key b e a l).d = .tup [.str "key", .int b, .int e, .int a, .str (S l)] := rfl
    have c1 : v1 [some (.ref r), some (Pl.key b e a l).d, none, none, none, none, none] A = .nx [some (.ref r), some (Pl.key b e a l).d, none, none, none, none, none] A := by
      simp [v1, hd, subTy]
    have c2 : vG [some (.ref r), some (Pl.key b e a l).d, none, none, none, none, none] A = .ok false A := by
      simp [vG, hd]
    have c3 : v3 [some (.ref r), some (Pl.key b e a l).d, none, none, none, none, none] A = .nx [some (.ref r), some (Pl.key b e a l).d, some (.int b), some (.int e), some (.int a), some (.str (S l)), none] A := by
      have : (mSl (mv 1) (mPart (mc (.int (1)))) mNoPart) [some (.ref r), some (Pl.key b e a l).d, none, none, none, none, none] A = .ok (.tup [.int b, .int e, .int a, .str (S l)]) A := by
        have q : slD (Pl.key b e a l).d (some 1) none A = .ok (.tup [.int b, .int e, .int a, .str (S l)]) A := by
          show R.ok (D.tup (cutD _ _ _)) A = _
          rw [cutD1]
        simp [q]
      unfold v3 mAsg
      rw [this]
      rfl
    obtain ⟨w, A1, e1, h1, w1⟩ := takenD 5 h ⟨by omega, by omega⟩
    have c4 : v4 [some (.ref r), some (Pl.key b e a l).d, some (.int b), some (.int e), some (.int a), some (.str (S l)), none] A = .nx [some (.ref r), some (Pl.key b e a l).d, some (.int b), some (.int e), some (.int a), some (.str (S l)), some (.int w)] A1 := by
      simp [v4, tk, e1]
    have pre : m__law_nearly (n + 1) [.ref r, (Pl.key b e a l).d] A = finS (mSeq v5 (mSeq v6 v7) [some (.ref r), some (Pl.key b e a l).d, some (.int b), some (.int e), some (.int a), some (.str (S l)), some (.int w)] A1) := by
      rw [e0, e_seq, c1, RS.nxt_nx, e_seq, e_ifS, c2, kIf_1, e_nx, RS.nxt_nx, e_seq, c3, RS.nxt_nx, e_seq, c4, RS.nxt_nx]
    by_cases hw : (w : Int) < 2
    · by_cases ha : 0 < a
      · refine ⟨.key b e (a + -1) l, A1, ?_, h1, .key b0 b1 b2 b3 (by omega) (by omega) hl⟩
        rw [pre]
        simp [v5, hw, ha, Pl.d]
      · refine ⟨.key b e (a + 1) l, A1, ?_, h1, .key b0 b1 b2 b3 (by omega) (by omega) hl⟩
        rw [pre]
        simp [v5, hw, ha, Pl.d]
    · have c5 : v5 [some (.ref r), some (Pl.key b e a l).d, some (.int b), some (.int e), some (.int a), some (.str (S l)), some (.int w)] A1 = .nx [some (.ref r), some (Pl.key b e a l).d, some (.int b), some (.int e), some (.int a), some (.str (S l)), some (.int w)] A1 := by
        simp [v5, hw]
      by_cases hq : 1 < e - b
      · by_cases hw4 : (w : Int) < 4
        · refine ⟨.key (b + w - 2) (e - 3 + w) a l, A1, ?_, h1, .key (by omega) (by omega) (by omega) (by omega) a0 a1 hl⟩
          rw [pre, e_seq, c5, RS.nxt_nx]
          simp [v6, hq, hw4, Pl.d]
        · refine ⟨.key b e a (l.drop 1), A1, ?_, h1, .key b0 b1 b2 b3 a0 a1 (tail16 l hl)⟩
          have hsl : slD (.str (S l)) (some 1) none A1 = .ok (.str (S (l.drop 1))) A1 := by
            have := (R16_ok l hl).2
            show (if (S l).length ≤ 16777216 then R.ok (D.str (cutS (S l) _ _)) A1 else .bad) = _
            rw [SX.S_len, if_pos (by omega), cut_from1]
          rw [pre, e_seq, c5, RS.nxt_nx]
          simp [v6, v7, hq, hw4, Pl.d, hsl]
      · refine ⟨.key b e a (l.drop 1), A1, ?_, h1, .key b0 b1 b2 b3 a0 a1 (tail16 l hl)⟩
        have hsl : slD (.str (S l)) (some 1) none A1 = .ok (.str (S (l.drop 1))) A1 := by
          have := (R16_ok l hl).2
          show (if (S l).length ≤ 16777216 then R.ok (D.str (cutS (S l) _ _)) A1 else .bad) = _
          rw [SX.S_len, if_pos (by omega), cut_from1]
        rw [pre, e_seq, c5, RS.nxt_nx]
        simp [v6, v7, hq, Pl.d, hsl]
theorem nearly_ok {most rows : Nat} {w : Wo} (h : RowAt r ns A) (hw : w.Ok rows most) : ∃ (q : Wo) (A' : AH), m__law_nearly 2 [.ref r, w.d] A = .ok q.d A' ∧ Dr r ns A A' ∧ q.Ok rows most := by
  cases hw with
  | pl hp =>
    obtain ⟨q, A', e, h1, h2⟩ := nearly_pl (n := 1) h hp
    exact ⟨.pl q, A', e, h1, .pl h2⟩
  | @gate g p g0 g1 hp =>
    have e0 : m__law_nearly 2 [.ref r, (Wo.gate g p).d] A = finS (mSeq v1 (mSeq (mIfS vG (mSeq vN (vR (m__law_nearly 1))) mNx) (mSeq v3 (mSeq v4 (mSeq v5 (mSeq v6 v7))))) [some (.ref r), some (Wo.gate g p).d, none, none, none, none, none] A) := rfl
    have hd : (Wo.gate g p).d = .tup [.str "gate", .int g, p.d] := rfl
    have c1 : v1 [some (.ref r), some (Wo.gate g p).d, none, none, none, none, none] A = .nx [some (.ref r), some (Wo.gate g p).d, none, none, none, none, none] A := by
      simp [v1, hd, subTy]
    have c2 : vG [some (.ref r), some (Wo.gate g p).d, none, none, none, none, none] A = .ok true A := by
      simp [vG, hd]
    cases hp with
    | @num i i0 i1 =>
      have hmax : ∀ B, maxD [.int 0, .int (g - 1)] B = .ok (.int (if g - 1 > 0 then g - 1 else 0)) B := fun B => rfl
      refine ⟨.gate (if g - 1 > 0 then g - 1 else 0) (.num i), A, ?_, Dr.refl h, .gate ?_ ?_ (.num i0 i1)⟩
      · have c3 : vN [some (.ref r), some (Wo.gate g (.num i)).d, none, none, none, none, none] A = .rt (Wo.gate (if g - 1 > 0 then g - 1 else 0) (.num i)).d A := by
          simp [vN, Wo.d, Pl.d, subTy, hmax]
        rw [e0, e_seq, c1, RS.nxt_nx, e_seq, e_ifS, c2, kIf_0, e_seq, c3, RS.nxt_rt, RS.nxt_rt, finS_rt]
      · split <;> omega
      · split <;> omega
    | @key b e a l b0 b1 b2 b3 a0 a1 hl =>
      obtain ⟨q, A', e1, h1, h2⟩ := nearly_pl (n := 0) (p := .key b e a l) h (.key b0 b1 b2 b3 a0 a1 hl)
      refine ⟨.gate g q, A', ?_, h1, .gate g0 g1 h2⟩
      have c3 : vN [some (.ref r), some (Wo.gate g (.key b e a l)).d, none, none, none, none, none] A = .nx [some (.ref r), some (Wo.gate g (.key b e a l)).d, none, none, none, none, none] A := by
        simp [vN, Wo.d, Pl.d, subTy]
      have c4 : vR (m__law_nearly 1) [some (.ref r), some (Wo.gate g (.key b e a l)).d, none, none, none, none, none] A = .rt (Wo.gate g q).d A' := by
        have e1' : m__law_nearly 1 [.ref r, (Pl.key b e a l).d] A = .ok q.d A' := e1
        generalize m__law_nearly 1 = G at e1'
        simp only [vR, e_ret, e_tup, e_cons, e_nil, e_mc, kC1_0, e_bin, e_mvS, e_mv0, kB1_0, kB2_0, hd, ix_tupU, at1, at2, e_call, kC2_0, kCall_0, e1', kTup_0, List.length_cons, List.length_nil]
        rfl
      rw [e0, e_seq, c1, RS.nxt_nx, e_seq, e_ifS, c2, kIf_0, e_seq, c3, RS.nxt_nx, c4, RS.nxt_rt, finS_rt]
end
end K21


set_option Elab.async false
set_option linter.all false
set_option maxRecDepth 100000
set_option maxHeartbeats 4000000
/-! K21X: states drawn. -/
namespace K21
open PySem Tg L2
open SX (S)
section
variable {g : MG} {tt : MT} {te : ME} {mi : Sl → AH → R IT} {vs : List Nat} {s : Sl} {A A1 : AH} {ds : List D}
theorem lc_genN (I : AH → Prop) (P : D → Prop) (h0 : mi s A = .ok (.data ds) A1) (hl : ds.length < 16777216) (hI : I A1) (h : ∀ d ∈ ds, ∀ A, I A → ∃ s1 v A2, g d (wpD s vs) = some s1 ∧ tt s1 A = .ok true A ∧ te s1 A = .ok v A2 ∧ I A2 ∧ P v) :
    ∃ ys A', mLc mi g tt te vs finN s A = .ok (.ref A'.length) (A' ++ [.lst ys]) ∧ I A' ∧ ys.length = ds.length ∧ ∀ y ∈ ys, P y := by
  obtain ⟨ys, A', e1, e2⟩ := lcL_gen (w := wpD s vs) I P hI h
  refine ⟨ys, A', ?_, e2⟩
  rw [mLc_of h0 hl, e1]
  rfl
theorem lcL_genI {w : Sl} (I : Nat → AH → Prop) (P : D → Prop) : ∀ {ds : List D} {A : AH} (k : Nat), I k A → (∀ j d A, ds[j]? = some d → I (k + j) A → ∃ s1 v A2, g d w = some s1 ∧ tt s1 A = .ok true A ∧ te s1 A = .ok v A2 ∧ I (k + j + 1) A2 ∧ P v) →
    ∃ ys A', lcL g tt te w ds A = .ok ys A' ∧ I (k + ds.length) A' ∧ ys.length = ds.length ∧ ∀ y ∈ ys, P y
  | [], A, k, hI, _ => ⟨[], A, rfl, hI, rfl, fun _ h => nomatch h⟩
  | d :: ds, A, k, hI, h => by
    obtain ⟨s1, v, A2, h1, h2, h3, h4, h5⟩ := h 0 d A rfl hI
    obtain ⟨ys, A', e1, e2, e3, e4⟩ := lcL_genI (ds := ds) I P (k + 1) h4 fun j e A hj hI => by
      have := h (j + 1) e A hj (by rw [show k + (j + 1) = k + 1 + j by omega]; exact hI)
      rw [show k + (j + 1) + 1 = k + 1 + j + 1 by omega] at this
      exact this
    refine ⟨v :: ys, A', ?_, by rw [show k + (d :: ds).length = k + 1 + ds.length by simp; omega]; exact e2, by rw [List.length_cons, List.length_cons, e3], fun y hy => ?_⟩
    · unfold lcL
      simp only [h1, h2, R.bindN_ok, if_true, h3, e1, R.bind_ok]
    · rcases List.mem_cons.mp hy with rfl | hy
      · exact h5
      · exact e4 y hy
theorem lc_genI (I : Nat → AH → Prop) (P : D → Prop) (h0 : mi s A = .ok (.data ds) A1) (hl : ds.length < 16777216) (hI : I 0 A1) (h : ∀ j d A, ds[j]? = some d → I j A → ∃ s1 v A2, g d (wpD s vs) = some s1 ∧ tt s1 A = .ok true A ∧ te s1 A = .ok v A2 ∧ I (j + 1) A2 ∧ P v) :
    ∃ ys A', mLc mi g tt te vs finF s A = .ok (.lst ys) A' ∧ I ds.length A' ∧ ys.length = ds.length ∧ ∀ y ∈ ys, P y := by
  obtain ⟨ys, A', e1, e2, e3⟩ := lcL_genI (w := wpD s vs) I P 0 hI (fun j d A hj hI => by
    rw [Nat.zero_add] at hI ⊢
    exact h j d A hj hI)
  rw [Nat.zero_add] at e2
  refine ⟨ys, A', ?_, e2, e3⟩
  rw [mLc_of h0 hl, e1]
  rfl
end
section
variable {r : Nat} {ns : List Int} {A : AH}
def a1 : MS := (mAsg (mBin ixD (mLst (mCons (mc (.int (0))) (mCons (mc (.int (1))) (mCons (mc (.int (2))) (mCons (mc (.int (12))) (mCons (mCall m__law_taken (mCons (mv 0) (mCons (mc (.int (13))) mNil))) mNil)))))) (mCall m__law_taken (mCons (mv 0) (mCons (mc (.int (5))) mNil)))) (gmN 2))
def a2 : MS := (mAsg (mBin subD (mc (.int (64))) (mBin mulD (mc (.int (4))) (mv 2))) (gmN 3))
def a3 : MS := (mAsg (mBin ixD (mLst (mCons (mc (.int (2))) (mCons (mc (.int (5))) (mCons (mc (.int (9))) mNil)))) (mCall m__law_taken (mCons (mv 0) (mCons (mc (.int (3))) mNil)))) (gmN 4))
def a4 : MS := (mAsg (mLc (mRng1 (mCons (mv 3) mNil)) (gmN 8) mYes (mIf (mTb (mBin eqD (mCall m__law_taken (mCons (mv 0) (mCons (mv 4) mNil))) (mc (.int (0))))) (mCall m__law_one (mCons (mv 0) (mCons (mv 3) (mCons (mv 1) mNil)))) (mCall m__law_taken (mCons (mv 0) (mCons (mc (.int (9))) mNil)))) [8] finF) (gmN 5))
def a5 : MS := (mAsg (mLc (mRng1 (mCons (mc (.int (8))) mNil)) (gmN 8) mYes (mCall m__law_one (mCons (mv 0) (mCons (mv 3) (mCons (mv 1) mNil)))) [8] finN) (gmN 6))

def aA : MA := (mCons (mCall m__law_taken (mCons (mv 0) (mCons (mc (.int (4))) mNil))) mNil)
def aB1 : MS := (mAsg (mCall m__law_taken (mCons (mv 0) (mCons (mc (.int (8))) mNil))) (gmN 8))
def aB2 : MS := (mSubS (mv 6) (mCall m__law_taken (mCons (mv 0) (mCons (mc (.int (8))) mNil))) (mCall (m__law_nearly 2) (mCons (mv 0) (mCons (mBin ixD (mv 6) (mv 8)) mNil))))
def a7 : MS := (mRet (mTup (mCons (mv 2) (mCons (mv 5) (mCons (mv 6) mNil)))))
def aB : MS := mSeq aB1 aB2
theorem state_made {rows : Nat} (h : RowAt r ns A) (hr : rows ≤ 100) : ∃ (rooms : Nat) (cells boxes : List Wo) (bx : Nat) (A' : AH), m__law_state [.ref r, .int rows] A = .ok (.tup [.int rooms, .lst (cells.map Wo.d), .ref bx]) A' ∧ RowAt r ns A' ∧ rooms ≤ 12 ∧ cells.length = 64 - 4 * rooms ∧ (∀ w ∈ cells, w.Ok rows (64 - 4 * rooms)) ∧ (∀ w ∈ boxes, w.Ok rows (64 - 4 * rooms)) ∧ boxes.length = 8 ∧ A'[bx]? = some (.lst (boxes.map Wo.d)) ∧ bx ≠ r := by
  have e0 : m__law_state [.ref r, .int rows] A = finS (mSeq a1 (mSeq a2 (mSeq a3 (mSeq a4 (mSeq a5 (mSeq (mFor (mRng1 aA) (gmN 7) aB) a7))))) [some (.ref r), some (.int rows), none, none, none, none, none, none, none] A) := rfl
  obtain ⟨v, A1, e1, h1, v1⟩ := takenD 13 h ⟨by omega, by omega⟩
  obtain ⟨k, A2, e2, h2, k1⟩ := takenD 5 h1.row ⟨by omega, by omega⟩
  have hz : ∃ rooms : Nat, rooms ≤ 12 ∧ atI [D.int 0, D.int 1, D.int 2, D.int 12, D.int (v : Int)] (k : Int) = some (.int (rooms : Int)) := by
    have hk : k = 0 ∨ k = 1 ∨ k = 2 ∨ k = 3 ∨ k = 4 := by omega
    rcases hk with rfl | rfl | rfl | rfl | rfl
    · exact ⟨0, by omega, at0⟩
    · exact ⟨1, by omega, at1⟩
    · exact ⟨2, by omega, at2⟩
    · exact ⟨12, by omega, at3⟩
    · exact ⟨v, by omega, at4⟩
  obtain ⟨rooms, r12, hz⟩ := hz
  have c1 : a1 [some (.ref r), some (.int rows), none, none, none, none, none, none, none] A = .nx [some (.ref r), some (.int rows), some (.int (rooms : Int)), none, none, none, none, none, none] A2 := by
    simp [a1, tk, e1, e2, hz]
  have em : (64 : Int) - 4 * (rooms : Int) = ((64 - 4 * rooms : Nat) : Int) := by omega
  have hm := mul_rooms (A := A2) r12
  generalize hmost : 64 - 4 * rooms = most at em
  have m16 : 16 ≤ most ∧ most ≤ 64 := by omega
  have c2 : a2 [some (.ref r), some (.int rows), some (.int (rooms : Int)), none, none, none, none, none, none] A2 = .nx [some (.ref r), some (.int rows), some (.int (rooms : Int)), some (.int (most : Int)), none, none, none, none, none] A2 := by
    simp only [a2, e_asgN, e_bin, e_mc, kB1_0, e_mvS, e_mv0, kB2_0, hm, o_sub, em]
    rfl
  obtain ⟨w, A3, e3, h3, w1⟩ := takenD 3 h2.row ⟨by omega, by omega⟩
  have hk : ∃ i : Int, 0 < i ∧ i < 10 ∧ atI [D.int 2, D.int 5, D.int 9] (w : Int) = some (.int i) := by
    have hk : w = 0 ∨ w = 1 ∨ w = 2 := by omega
    rcases hk with rfl | rfl | rfl
    · exact ⟨2, by omega, by omega, at0⟩
    · exact ⟨5, by omega, by omega, at1⟩
    · exact ⟨9, by omega, by omega, at2⟩
  obtain ⟨few, f0, f1, hi⟩ := hk
  have c3 : a3 [some (.ref r), some (.int rows), some (.int (rooms : Int)), some (.int (most : Int)), none, none, none, none, none] A2 = .nx [some (.ref r), some (.int rows), some (.int (rooms : Int)), some (.int (most : Int)), some (.int few), none, none, none, none] A3 := by
    simp [a3, tk, e3, hi]
  obtain ⟨ys, A4, e4, h4, l4, P4⟩ := lc_gen (mi := mRng1 (mCons (mv 3) mNil)) (s := [some (.ref r), some (.int rows), some (.int (rooms : Int)), some (.int (most : Int)), some (.int few), none, none, none, none]) (g := gmN 8) (tt := mYes) (te := mIf (mTb (mBin eqD (mCall m__law_taken (mCons (mv 0) (mCons (mv 4) mNil))) (mc (.int (0))))) (mCall m__law_one (mCons (mv 0) (mCons (mv 3) (mCons (mv 1) mNil)))) (mCall m__law_taken (mCons (mv 0) (mCons (mc (.int (9))) mNil)))) (vs := [8]) (RowAt r ns) (fun d => ∃ x : Wo, d = x.d ∧ x.Ok rows most) (rng1 (j := most) (A1 := A3) rfl (by omega)) (by rw [List.length_map, List.length_range]; omega) h3.row (fun d _ B hB => by
    obtain ⟨t, B1, q1, hB1, t1⟩ := takenD few hB ⟨f0, by omega⟩
    by_cases ht : t = 0
    · obtain ⟨x, B2, q2, hB2, hx⟩ := one_made (most := most) (rows := rows) hB1.row ⟨by omega, by omega⟩ (by omega)
      subst ht
      simp at q1
      exact ⟨_, x.d, B2, rfl, rfl, by simp [wpD, tk, q1, q2], hB2.row, x, rfl, hx⟩
    · obtain ⟨u, B2, q2, hB2, u1⟩ := takenD 9 hB1.row ⟨by omega, by omega⟩
      have ht2 : ¬ (t : Int) = 0 := by omega
      exact ⟨_, .int u, B2, rfl, rfl, by simp [wpD, tk, q1, rInt, ht, q2], hB2.row, .pl (.num u), rfl, .pl (.num (by omega) (by omega))⟩)
  obtain ⟨cells, rfl, hcells⟩ := maps_of P4
  rw [List.length_map, List.length_map, List.length_range] at l4
  have c4 : a4 [some (.ref r), some (.int rows), some (.int (rooms : Int)), some (.int (most : Int)), some (.int few), none, none, none, none] A3 = .nx [some (.ref r), some (.int rows), some (.int (rooms : Int)), some (.int (most : Int)), some (.int few), some (.lst (cells.map Wo.d)), none, none, none] A4 := by
    unfold a4
    rw [e_asgN]
    exact congrArg (kAsg 5 _) e4
  obtain ⟨zs, A5, e5, h5, l5, P5⟩ := lc_genN (mi := mRng1 (mCons (mc (.int (8))) mNil)) (s := [some (.ref r), some (.int rows), some (.int (rooms : Int)), some (.int (most : Int)), some (.int few), some (.lst (cells.map Wo.d)), none, none, none]) (g := gmN 8) (tt := mYes) (te := mCall m__law_one (mCons (mv 0) (mCons (mv 3) (mCons (mv 1) mNil)))) (vs := [8]) (RowAt r ns) (fun d => ∃ x : Wo, d = x.d ∧ x.Ok rows most) (rng1 (j := 8) (A1 := A4) rfl (by decide)) (by rw [List.length_map, List.length_range]; decide) h4 (fun d _ B hB => by
    obtain ⟨x, B2, q2, hB2, hx⟩ := one_made (most := most) (rows := rows) hB ⟨by omega, by omega⟩ (by omega)
    exact ⟨_, x.d, B2, rfl, rfl, by simp [wpD, q2], hB2.row, x, rfl, hx⟩)
  obtain ⟨boxes, rfl, hboxes⟩ := maps_of P5
  rw [List.length_map, List.length_map, List.length_range] at l5
  have c5 : a5 [some (.ref r), some (.int rows), some (.int (rooms : Int)), some (.int (most : Int)), some (.int few), some (.lst (cells.map Wo.d)), none, none, none] A4 = .nx [some (.ref r), some (.int rows), some (.int (rooms : Int)), some (.int (most : Int)), some (.int few), some (.lst (cells.map Wo.d)), some (.ref A5.length), none, none] (A5 ++ [.lst (boxes.map Wo.d)]) := by
    unfold a5
    rw [e_asgN]
    exact congrArg (kAsg 6 _) e5
  have hlt := h5.lt
  have hne : A5.length ≠ r := by omega
  obtain ⟨t, A6, e6, h6, t1⟩ := takenD 4 (h5.app [.lst (boxes.map Wo.d)]) ⟨by omega, by omega⟩
  have hb6 : A6[A5.length]? = some (.lst (boxes.map Wo.d)) := by
    rw [h6.oth _ hne]
    simp
  have e7 : aA [some (.ref r), some (.int rows), some (.int (rooms : Int)), some (.int (most : Int)), some (.int few), some (.lst (cells.map Wo.d)), some (.ref A5.length), none, none] (A5 ++ [.lst (boxes.map Wo.d)]) = .ok [.int (t : Int)] A6 := by
    simp only [aA, e_cons, e_call, e_nil, e_mv0, e_mc, kC1_0, kC2_0, kCall_0, tk, e6]
  obtain ⟨s', A7, e8, hrow, bs, hbs1, hbs2, hbs3, o7, o8, rfl⟩ := forL_inv (g := gmN 7) (b := aB) (ds := (List.range t).map fun i : Nat => D.int (i : Int)) (s := [some (.ref r), some (.int rows), some (.int (rooms : Int)), some (.int (most : Int)), some (.int few), some (.lst (cells.map Wo.d)), some (.ref A5.length), none, none]) (A := A6)
    (fun s' B => RowAt r ns B ∧ ∃ bs : List Wo, B[A5.length]? = some (.lst (bs.map Wo.d)) ∧ bs.length = 8 ∧ (∀ x ∈ bs, x.Ok rows most) ∧ ∃ o7 o8, s' = [some (.ref r), some (.int rows), some (.int (rooms : Int)), some (.int (most : Int)), some (.int few), some (.lst (cells.map Wo.d)), some (.ref A5.length), o7, o8])
    ⟨h6.row, boxes, hb6, l5, hboxes, none, none, rfl⟩ (fun d _ s B hB => by
      obtain ⟨q0, bs, q1, q2, q3, p7, p8, rfl⟩ := hB
      obtain ⟨j, B1, x1, y1, j1⟩ := takenD 8 q0 ⟨by omega, by omega⟩
      have hj : j < bs.length := by omega
      have q4 : B1[A5.length]? = some (.lst (bs.map Wo.d)) := by rw [y1.oth _ hne, q1]
      obtain ⟨x, B2, x2, y2, hx⟩ := nearly_ok y1.row (q3 _ (List.getElem_mem hj))
      have q5 : B2[A5.length]? = some (.lst (bs.map Wo.d)) := by rw [y2.oth _ hne, q4]
      obtain ⟨i, B3, x3, y3, i1⟩ := takenD 8 y2.row ⟨by omega, by omega⟩
      have q6 : B3[A5.length]? = some (.lst (bs.map Wo.d)) := by rw [y3.oth _ hne, q5]
      have hi : i < (bs.map Wo.d).length := by rw [List.length_map]; omega
      have d1 : aB1 [some (.ref r), some (.int rows), some (.int (rooms : Int)), some (.int (most : Int)), some (.int few), some (.lst (cells.map Wo.d)), some (.ref A5.length), some d, p8] B = .nx [some (.ref r), some (.int rows), some (.int (rooms : Int)), some (.int (most : Int)), some (.int few), some (.lst (cells.map Wo.d)), some (.ref A5.length), some d, some (.int (j : Int))] B1 := by
        simp [aB1, tk, x1]
      have x4 : ixD (.ref A5.length) (.int (j : Int)) B1 = .ok (bs[j]).d B1 := ix_ref q4 (atI_ok (by rw [List.getElem?_map, List.getElem?_eq_getElem hj]; rfl))
      have x5 : stSub (.ref A5.length) (.int (i : Int)) x.d B3 = some (B3.set A5.length (.lst ((bs.map Wo.d).set i x.d))) := st_lst (j := 0) q6 hi
      have d2 : aB2 [some (.ref r), some (.int rows), some (.int (rooms : Int)), some (.int (most : Int)), some (.int few), some (.lst (cells.map Wo.d)), some (.ref A5.length), some d, some (.int (j : Int))] B1 = .nx [some (.ref r), some (.int rows), some (.int (rooms : Int)), some (.int (most : Int)), some (.int few), some (.lst (cells.map Wo.d)), some (.ref A5.length), some d, some (.int (j : Int))] (B3.set A5.length (.lst ((bs.set i x).map Wo.d))) := by
        simp only [aB2, e_sub, e_call, e_cons, e_nil, e_mv0, e_mvS, kC1_0, kC2_0, e_bin, kB1_0, kB2_0, x4, kCall_0, x2, kSub1_0, kSub2_0, e_mc, tk, x3, kSub3_0, x5, kSub4_0, List.map_set]
      refine ⟨_, _, B3.set A5.length (.lst ((bs.set i x).map Wo.d)), rfl, ?_, y3.row.set hne, bs.set i x, ?_, by rw [List.length_set]; exact q2, fun z hz => ?_, some d, some (.int (j : Int)), rfl⟩
      · show (mSeq aB1 aB2) [some (.ref r), some (.int rows), some (.int (rooms : Int)), some (.int (most : Int)), some (.int few), some (.lst (cells.map Wo.d)), some (.ref A5.length), some d, p8] B = _
        rw [e_seq, d1, RS.nxt_nx, d2]
      · exact List.getElem?_set_self (List.getElem?_eq_some_iff.mp q6).1
      · rcases List.mem_or_eq_of_mem_set hz with z1 | z1
        · exact q3 z z1
        · rw [z1]
          exact hx)
  refine ⟨rooms, cells, bs, A5.length, A7, ?_, hrow, r12, by omega, hmost ▸ hcells, hmost ▸ hbs3, hbs2, hbs1, hne⟩
  rw [e0, e_seq, c1, RS.nxt_nx, e_seq, c2, RS.nxt_nx, e_seq, c3, RS.nxt_nx, e_seq, c4, RS.nxt_nx, e_seq, c5, RS.nxt_nx, e_seq, mFor_data (rng1 e7 (by omega)), e8, RS.nxt_nx]
  simp [a7]

def d1 : MS := (mAsg (mBin mulN (mLst (mCons (mc (.int (0))) mNil)) (mv 1)) (gmN 3))
def d2 : MS := (mAsg (mLRgN (mv 1)) (gmN 4))
def d5 : MS := (mRet (mTup (mCons (mv 3) (mCons (mTup (mCons (mc (.str "key")) (mCons (mBin ixD (mv 5) (mc (.int (0)))) (mCons (mBin addD (mBin ixD (mv 5) (mc (.int (0)))) (mc (.int (1)))) (mCons (mc (.int (0))) (mCons (mc (.str "gh")) mNil)))))) mNil))))
def dA : MA := (mCons (mBin addD (mc (.int (1))) (mCall m__law_taken (mCons (mv 0) (mCons (mCall minD (mCons (mBin subD (mv 1) (mc (.int (1)))) (mCons (mc (.int (12))) mNil))) mNil)))) mNil)
def dT : ME := (mMt "list" popAtD (mv 4) (mCons (mCall m__law_taken (mCons (mv 0) (mCons (mCall lenD (mCons (mv 4) mNil)) mNil))) mNil))
def d3 : MS := mAsg (mLc (mRng1 dA) (gmN 6) mYes dT [6] finF) (gmN 5)
def split_val : ME := (mIf (mTb (mBin gtD (mCall m__law_taken (mCons (mv 0) (mCons (mc (.int (8))) mNil))) (mc (.int (0))))) (mv 8) (mTup (mCons (mc (.str "gate")) (mCons (mCall m__law_taken (mCons (mv 0) (mCons (mBin addD (mv 2) (mc (.int (1)))) mNil))) (mCons (mv 8) mNil)))))
def dR : MA := (mCons (mBin subD (mCall lenD (mCons (mv 5) mNil)) (mc (.int (1)))) mNil)
def e1_ : MS := (mAsg (mBin ixD (mLst (mCons (mc (.str "ghls")) (mCons (mc (.str "gh")) (mCons (mc (.str "ghs")) (mCons (mCall m__law_rights (mCons (mv 0) mNil)) mNil))))) (mCall m__law_taken (mCons (mv 0) (mCons (mc (.int (4))) mNil)))) (gmN 7))
def e2_ : MS := (mAsg (mTup (mCons (mc (.str "key")) (mCons (mBin ixD (mv 5) (mBin addD (mv 6) (mc (.int (1))))) (mCons (mBin addD (mBin ixD (mv 5) (mBin addD (mv 6) (mc (.int (1))))) (mc (.int (1)))) (mCons (mBin ixD (mv 5) (mBin addD (mv 6) (mc (.int (1))))) (mCons (mv 7) mNil)))))) (gmN 8))
def e3_ : MS := (mSubS (mv 3) (mBin ixD (mv 5) (mv 6)) (mIf (mTb (mBin gtD (mCall m__law_taken (mCons (mv 0) (mCons (mc (.int (8))) mNil))) (mc (.int (0))))) (mv 8) (mTup (mCons (mc (.str "gate")) (mCons (mCall m__law_taken (mCons (mv 0) (mCons (mBin addD (mv 2) (mc (.int (1)))) mNil))) (mCons (mv 8) mNil))))))
def dB : MS := mSeq e1_ (mSeq e2_ e3_)
theorem rep_one {d : D} : ∀ n : Nat, repD n [d] = List.replicate n d
  | 0 => rfl
  | n + 1 => by
    have := rep_one (d := d) n
    unfold repD at this ⊢
    rw [List.replicate_succ, List.flatten_cons, this, List.replicate_succ]
    rfl
theorem small63 {i : Int} (h0 : 0 ≤ i) (h1 : i < 1000000) : -(2 ^ 63) ≤ i ∧ i < 2 ^ 63 := by
  have e : (2 : Int) ^ 63 = 9223372036854775808 := by decide
  rw [e]
  exact ⟨by omega, by omega⟩
theorem mulN_zero {most : Nat} (h : most ≤ 64) : mulN (.lst [.int 0]) (.int most) A = .ok (.ref A.length) (A ++ [.lst ((List.replicate most (Wo.pl (.num 0))).map Wo.d)]) := by
  have hs := small63 (i := (most : Int)) (by omega) (by omega)
  have hl : [D.int 0].length * (most : Int).toNat ≤ 16777216 := by simp; omega
  simp only [mulN, lstL]
  rw [if_pos ⟨hs.1, hs.2, hl⟩, Int.toNat_natCast, rep_one, List.map_replicate]
  rfl
theorem pop_at {n : Nat} {xs : List Int} {i : Nat} (hA : A[n]? = some (.lst (xs.map .int))) (hi : i < xs.length) (hl : xs.length ≤ 100) : popAtD (.ref n) [.int (i : Int)] A = .ok (.int xs[i]) (A.set n (.lst ((xs.eraseIdx i).map .int))) := by
  have hs := small63 (i := (i : Int)) (by omega) (by omega)
  have hq : (i : Int) < ((xs.map D.int).length : Nat) := by rw [List.length_map]; omega
  simp only [popAtD, hA]
  rw [if_pos ⟨by omega, hq, hs.2⟩, Int.toNat_natCast, List.getElem?_map, List.getElem?_eq_getElem hi]
  have : (xs.map D.int).eraseIdx i = (xs.eraseIdx i).map D.int := by
    rw [List.eraseIdx_eq_take_drop_succ, List.eraseIdx_eq_take_drop_succ, List.map_append, List.map_take, List.map_drop]
  rw [this]
  rfl
theorem chained_made {most rows : Nat} (h : RowAt r ns A) (hm : 16 ≤ most ∧ most ≤ 64) (hr : rows ≤ 100) : ∃ (cells : List Wo) (first : Wo) (cl : Nat) (A' : AH), m__law_chained [.ref r, .int most, .int rows] A = .ok (.tup [.ref cl, first.d]) A' ∧ RowAt r ns A' ∧ cells.length = most ∧ (∀ w ∈ cells, w.Ok rows most) ∧ first.Ok rows most ∧ A'[cl]? = some (.lst (cells.map Wo.d)) ∧ cl ≠ r ∧ (∀ n, n < A.length → n ≠ r → A'[n]? = A[n]?) ∧ A.length ≤ cl ∧ cl < A'.length := by
  have e0 : m__law_chained [.ref r, .int most, .int rows] A = finS (mSeq d1 (mSeq d2 (mSeq d3 (mSeq (mFor (mRng1 dR) (gmN 6) dB) d5))) [some (.ref r), some (.int most), some (.int rows), none, none, none, none, none, none] A) := rfl
  have hlt := h.lt
  have hne1 : A.length ≠ r := by omega
  have hne2 : A.length + 1 ≠ r := by omega
  have c1 : d1 [some (.ref r), some (.int most), some (.int rows), none, none, none, none, none, none] A = .nx [some (.ref r), some (.int most), some (.int rows), some (.ref A.length), none, none, none, none, none] (A ++ [.lst ((List.replicate most (Wo.pl (.num 0))).map Wo.d)]) := by
    simp only [d1, e_asgN, e_bin, e_lst, e_cons, e_nil, e_mc, kC1_0, kC2_0, kLst_0, List.length_cons, List.length_nil]
    rw [if_pos (by decide), kB1_0, e_mvS, e_mv0, kB2_0, mulN_zero hm.2]
    rfl
  have c2 : d2 [some (.ref r), some (.int most), some (.int rows), some (.ref A.length), none, none, none, none, none] (A ++ [.lst ((List.replicate most (Wo.pl (.num 0))).map Wo.d)]) = .nx [some (.ref r), some (.int most), some (.int rows), some (.ref A.length), some (.ref (A.length + 1)), none, none, none, none] (A ++ [.lst ((List.replicate most (Wo.pl (.num 0))).map Wo.d), .lst (((List.range most).map fun i : Nat => (i : Int)).map .int)]) := by
    have : mLRgN (mv 1) [some (.ref r), some (.int most), some (.int rows), some (.ref A.length), none, none, none, none, none] (A ++ [.lst ((List.replicate most (Wo.pl (.num 0))).map Wo.d)]) = .ok (.ref (A.length + 1)) (A ++ [.lst ((List.replicate most (Wo.pl (.num 0))).map Wo.d), .lst (((List.range most).map fun i : Nat => (i : Int)).map .int)]) := by
      unfold mLRgN
      rw [show mv 1 [some (.ref r), some (.int most), some (.int rows), some (.ref A.length), none, none, none, none, none] (A ++ [.lst ((List.replicate most (Wo.pl (.num 0))).map Wo.d)]) = .ok (.int most) (A ++ [.lst ((List.replicate most (Wo.pl (.num 0))).map Wo.d)]) from rfl, R.bind_ok]
      dsimp only
      rw [if_pos ⟨by omega, by omega⟩, rngY, List.length_append, List.append_assoc, List.map_map]
      rfl
    unfold d2
    rw [e_asgN, this]
    rfl
  obtain ⟨t, A3, e3, h3, t1⟩ := takenD (if (12 : Int) < (most : Int) - 1 then 12 else (most : Int) - 1) (h.app [.lst ((List.replicate most (Wo.pl (.num 0))).map Wo.d), .lst (((List.range most).map fun i : Nat => (i : Int)).map .int)]) ⟨by split <;> omega, by split <;> omega⟩
  have t12 : t < 12 := by
    split at t1 <;> omega
  have hmin : ∀ B, minD [.int ((most : Int) - 1), .int 12] B = .ok (.int (if (12 : Int) < (most : Int) - 1 then 12 else (most : Int) - 1)) B := fun B => rfl
  have e4 : dA [some (.ref r), some (.int most), some (.int rows), some (.ref A.length), some (.ref (A.length + 1)), none, none, none, none] (A ++ [.lst ((List.replicate most (Wo.pl (.num 0))).map Wo.d), .lst (((List.range most).map fun i : Nat => (i : Int)).map .int)]) = .ok [.int ((1 + t : Nat) : Int)] A3 := by
    simp only [dA, e_cons, e_nil, e_bin, e_mc, kB1_0, e_call, e_mvS, e_mv0, kC1_0, kB2_0, o_sub, kC2_0, kCall_0, hmin, tk, e3, o_add]
    rfl
  obtain ⟨ys, A4, e5, ⟨hrow4, ho4, hc4, xs4, hx4, hl4, hr4⟩, l5, P5⟩ := lc_genI (mi := mRng1 dA) (s := [some (.ref r), some (.int most), some (.int rows), some (.ref A.length), some (.ref (A.length + 1)), none, none, none, none]) (g := gmN 6) (tt := mYes) (te := dT) (vs := [6])
    (fun j B => RowAt r ns B ∧ (∀ n, n < A.length → n ≠ r → B[n]? = A[n]?) ∧ B[A.length]? = some (.lst ((List.replicate most (Wo.pl (.num 0))).map Wo.d)) ∧ ∃ xs : List Int, B[A.length + 1]? = some (.lst (xs.map .int)) ∧ xs.length = most - j ∧ ∀ x ∈ xs, 0 ≤ x ∧ x < most)
    (fun d => ∃ v, d = .int v ∧ (0 ≤ v ∧ v < (most : Int))) (rng1 (j := 1 + t) e4 (by omega)) (by rw [List.length_map, List.length_range]; omega)
    ⟨h3.row, (fun n hn hr' => by rw [h3.oth _ hr', List.getElem?_append_left hn]), by rw [h3.oth _ hne1]; simp, (List.range most).map fun i : Nat => (i : Int), by rw [h3.oth _ hne2]; simp, by simp, fun x hx => by
      obtain ⟨i, hi, rfl⟩ := List.mem_map.mp hx
      have := List.mem_range.mp hi
      omega⟩ (fun j d B hj hB => by
      obtain ⟨q0, qo, q1, xs, q2, q3, q4⟩ := hB
      have hjt : j < 1 + t := by
        have := (List.getElem?_eq_some_iff.mp hj).1
        simpa using this
      obtain ⟨i, B1, x1, y1, i1⟩ := takenD (xs.length : Int) q0 ⟨by omega, by omega⟩
      have hi : i < xs.length := by omega
      have q5 : B1[A.length + 1]? = some (.lst (xs.map .int)) := by rw [y1.oth _ hne2, q2]
      have x2 := pop_at (A := B1) q5 hi (by omega)
      have hlen : lenD [.ref (A.length + 1)] B = .ok (.int xs.length) B := by
        rw [len_ref, q2]
        simp
      have hty : tyMD B "list" (.ref (A.length + 1)) = true := by
        rw [ty_list, seq_ref, q2]
        rfl
      refine ⟨_, .int xs[i], B1.set (A.length + 1) (.lst ((xs.eraseIdx i).map .int)), rfl, rfl, ?_, ⟨y1.row.set hne2, (fun n hn hr' => by rw [List.getElem?_set_ne (by omega), y1.oth _ hr', qo n hn hr']), ?_, xs.eraseIdx i, List.getElem?_set_self (List.getElem?_eq_some_iff.mp q5).1, ?_, fun x hx => q4 x (List.mem_of_mem_eraseIdx hx)⟩, xs[i], rfl, q4 _ (List.getElem_mem hi)⟩
      · simp only [dT, wpD, wp_cons, wp_nil, List.set_cons_succ, List.set_cons_zero, e_mt, e_mvS, e_mv0, kM1_0, hty, if_true, e_cons, e_call, e_nil, kC1_0, kC2_0, kCall_0, hlen, tk, x1, kM2_0, x2]
      · rw [List.getElem?_set_ne (by omega), y1.oth _ hne1, q1]
      · rw [List.length_eraseIdx, if_pos hi]
        omega)
  obtain ⟨sm, rfl, hsm⟩ := ints_of P5
  rw [List.length_map, List.length_map, List.length_range] at l5
  have c3 : d3 [some (.ref r), some (.int most), some (.int rows), some (.ref A.length), some (.ref (A.length + 1)), none, none, none, none] (A ++ [.lst ((List.replicate most (Wo.pl (.num 0))).map Wo.d), .lst (((List.range most).map fun i : Nat => (i : Int)).map .int)]) = .nx [some (.ref r), some (.int most), some (.int rows), some (.ref A.length), some (.ref (A.length + 1)), some (.lst (sm.map .int)), none, none, none] A4 := by
    unfold d3
    rw [e_asgN]
    exact congrArg (kAsg 5 _) e5
  have e6 : dR [some (.ref r), some (.int most), some (.int rows), some (.ref A.length), some (.ref (A.length + 1)), some (.lst (sm.map .int)), none, none, none] A4 = .ok [.int (t : Int)] A4 := by
    have : ((1 + t : Nat) : Int) - 1 = t := by omega
    simp only [dR, e_cons, e_nil, e_bin, e_call, e_mvS, e_mv0, kC1_0, kC2_0, kCall_0, len_frz, List.length_map, l5, kB1_0, e_mc, kB2_0, o_sub, this]
  have smi : ∀ i, i < 1 + t → ∃ v : Int, 0 ≤ v ∧ v < most ∧ ∀ B, ixD (.lst (sm.map .int)) (.int (i : Nat)) B = .ok (.int v) B := fun i hi => by
    have hi2 : i < sm.length := by omega
    have := hsm _ (List.getElem_mem hi2)
    exact ⟨sm[i], this.1, this.2, fun B => ix_lst (atI_ok (by rw [List.getElem?_map, List.getElem?_eq_getElem hi2]; rfl))⟩
  obtain ⟨s', A5, e7, ⟨hrow5, ho5⟩, cs, hcs1, hcs2, hcs3, o6, o7, o8, rfl⟩ := forL_inv (g := gmN 6) (b := dB) (ds := (List.range t).map fun i : Nat => D.int (i : Int)) (s := [some (.ref r), some (.int most), some (.int rows), some (.ref A.length), some (.ref (A.length + 1)), some (.lst (sm.map .int)), none, none, none]) (A := A4)
    (fun s' B => (RowAt r ns B ∧ (∀ n, n < A.length → n ≠ r → B[n]? = A[n]?)) ∧ ∃ cs : List Wo, B[A.length]? = some (.lst (cs.map Wo.d)) ∧ cs.length = most ∧ (∀ x ∈ cs, x.Ok rows most) ∧ ∃ o6 o7 o8, s' = [some (.ref r), some (.int most), some (.int rows), some (.ref A.length), some (.ref (A.length + 1)), some (.lst (sm.map .int)), o6, o7, o8])
    ⟨⟨hrow4, ho4⟩, List.replicate most (.pl (.num 0)), hc4, List.length_replicate, fun x hx => by
      rw [List.eq_of_mem_replicate hx]
      exact .pl (.num (by omega) (by omega)), none, none, none, rfl⟩ (fun d hd s B hB => by
      obtain ⟨⟨q0, qo⟩, cs, q1, q2, q3, p6, p7, p8, rfl⟩ := hB
      obtain ⟨k, hk, rfl⟩ := List.mem_map.mp hd
      have hkt := List.mem_range.mp hk
      obtain ⟨l, B1, x1, y1, hl⟩ := rights_ok q0
      obtain ⟨u, B2, x2, y2, u1⟩ := takenD 4 y1.row ⟨by omega, by omega⟩
      have hz : ∃ z : List Nat, z ∈ Tg.R16 ∧ atI [D.str "ghls", D.str "gh", D.str "ghs", D.str (S l)] (u : Int) = some (.str (S z)) := by
        have hu : u = 0 ∨ u = 1 ∨ u = 2 ∨ u = 3 := by omega
        rcases hu with rfl | rfl | rfl | rfl
        · exact ⟨[103, 104, 108, 115], by decide, by rw [← e_rts]; exact at0⟩
        · exact ⟨[103, 104], by decide, by rw [show S [103, 104] = Str.ofString "gh" by decide]; exact at1⟩
        · exact ⟨[103, 104, 115], by decide, by rw [show S [103, 104, 115] = Str.ofString "ghs" by decide]; exact at2⟩
        · exact ⟨l, hl, at3⟩
      obtain ⟨z, hz16, hz⟩ := hz
      obtain ⟨v, v0, v1, hv⟩ := smi (k + 1) (by omega)
      obtain ⟨w, w0, w1, hw⟩ := smi k (by omega)
      have hv' : ∀ B, ixD (.lst (sm.map .int)) (.int ((k : Int) + 1)) B = .ok (.int v) B := fun B => hv B
      have g1 : e1_ [some (.ref r), some (.int most), some (.int rows), some (.ref A.length), some (.ref (A.length + 1)), some (.lst (sm.map .int)), some (.int (k : Int)), p7, p8] B = .nx [some (.ref r), some (.int most), some (.int rows), some (.ref A.length), some (.ref (A.length + 1)), some (.lst (sm.map .int)), some (.int (k : Int)), some (.str (S z)), p8] B2 := by
        simp [e1_, x1, tk, x2, hz]
      have g2 : e2_ [some (.ref r), some (.int most), some (.int rows), some (.ref A.length), some (.ref (A.length + 1)), some (.lst (sm.map .int)), some (.int (k : Int)), some (.str (S z)), p8] B2 = .nx [some (.ref r), some (.int most), some (.int rows), some (.ref A.length), some (.ref (A.length + 1)), some (.lst (sm.map .int)), some (.int (k : Int)), some (.str (S z)), some (Wo.pl (.key v (v + 1) v z)).d] B2 := by
        simp only [e2_, e_asgN, e_tup, e_cons, e_nil, e_mc, kC1_0, e_bin, e_mvS, e_mv0, kB1_0, kB2_0, o_add, hv', kC2_0, kTup_0, List.length_cons, List.length_nil]
        rfl
      have hkey : (Wo.pl (.key v (v + 1) v z)).Ok rows most := .pl (.key v0 v1 (by omega) (by omega) (by omega) (by omega) hz16)
      obtain ⟨f, B3, x3, y3, f1⟩ := takenD 8 y2.row ⟨by omega, by omega⟩
      have hval : ∃ (x : Wo) (B4 : AH), (split_val) [some (.ref r), some (.int most), some (.int rows), some (.ref A.length), some (.ref (A.length + 1)), some (.lst (sm.map .int)), some (.int (k : Int)), some (.str (S z)), some (Wo.pl (.key v (v + 1) v z)).d] B2 = .ok x.d B4 ∧ Dr r ns B2 B4 ∧ x.Ok rows most := by
        by_cases hf : 0 < f
        · have hf2 : 0 < (f : Int) := by omega
          exact ⟨.pl (.key v (v + 1) v z), B3, by simp [split_val, tk, x3, hf], y3, hkey⟩
        · obtain ⟨gg, B4, x4, y4, gg1⟩ := takenD ((rows : Int) + 1) y3.row ⟨by omega, by omega⟩
          exact ⟨.gate gg (.key v (v + 1) v z), B4, by simp [split_val, tk, x3, hf, x4, Wo.d], y3.trans y4, .gate (by omega) gg1 (by cases hkey with | pl hp => exact hp)⟩
      obtain ⟨x, B4, x5, y5, hx⟩ := hval
      have hD := (y1.trans y2).trans y5
      have q6 : B4[A.length]? = some (.lst (cs.map Wo.d)) := by rw [hD.oth _ hne1, q1]
      obtain ⟨j, rfl⟩ := Int.eq_ofNat_of_zero_le w0
      have hj : j < (cs.map Wo.d).length := by rw [List.length_map]; omega
      have x6 : stSub (.ref A.length) (.int (j : Int)) x.d B4 = some (B4.set A.length (.lst ((cs.map Wo.d).set j x.d))) := st_lst (j := 0) q6 hj
      have g3 : e3_ [some (.ref r), some (.int most), some (.int rows), some (.ref A.length), some (.ref (A.length + 1)), some (.lst (sm.map .int)), some (.int (k : Int)), some (.str (S z)), some (Wo.pl (.key v (v + 1) v z)).d] B2 = .nx [some (.ref r), some (.int most), some (.int rows), some (.ref A.length), some (.ref (A.length + 1)), some (.lst (sm.map .int)), some (.int (k : Int)), some (.str (S z)), some (Wo.pl (.key v (v + 1) v z)).d] (B4.set A.length (.lst ((cs.set j x).map Wo.d))) := by
        show (mSubS (mv 3) (mBin ixD (mv 5) (mv 6)) split_val) _ _ = _
        rw [e_sub, x5, kSub1_0]
        simp only [e_mvS, e_mv0, kSub2_0, e_bin, kB1_0, kB2_0, hw, kSub3_0, x6, kSub4_0, List.map_set]
      refine ⟨_, _, B4.set A.length (.lst ((cs.set j x).map Wo.d)), rfl, ?_, ⟨hD.row.set hne1, fun n hn hr' => by rw [List.getElem?_set_ne (by omega), hD.oth _ hr', qo n hn hr']⟩, cs.set j x, List.getElem?_set_self (List.getElem?_eq_some_iff.mp q6).1, by rw [List.length_set]; exact q2, fun y hy => ?_, some (.int (k : Int)), some (.str (S z)), some (Wo.pl (.key v (v + 1) v z)).d, rfl⟩
      · show (mSeq e1_ (mSeq e2_ e3_)) [some (.ref r), some (.int most), some (.int rows), some (.ref A.length), some (.ref (A.length + 1)), some (.lst (sm.map .int)), some (.int (k : Int)), p7, p8] B = _
        rw [e_seq, g1, RS.nxt_nx, e_seq, g2, RS.nxt_nx, g3]
      · rcases List.mem_or_eq_of_mem_set hy with z1 | z1
        · exact q3 y z1
        · rw [z1]
          exact hx)
  obtain ⟨v, v0, v1, hv⟩ := smi 0 (by omega)
  have hv' : ∀ B, ixD (.lst (sm.map .int)) (.int 0) B = .ok (.int v) B := fun B => hv B
  refine ⟨cs, .pl (.key v (v + 1) 0 [103, 104]), A.length, A5, ?_, hrow5, hcs2, hcs3, .pl (.key v0 v1 (by omega) (by omega) (by omega) (by omega) (by decide)), hcs1, hne1, ho5, Nat.le_refl _, (List.getElem?_eq_some_iff.mp hcs1).1⟩
  have c5 : d5 [some (.ref r), some (.int most), some (.int rows), some (.ref A.length), some (.ref (A.length + 1)), some (.lst (sm.map .int)), o6, o7, o8] A5 = .rt (.tup [.ref A.length, (Wo.pl (.key v (v + 1) 0 [103, 104])).d]) A5 := by
    have hd : (Wo.pl (.key v (v + 1) 0 [103, 104])).d = .tup [.str "key", .int v, .int (v + 1), .int 0, .str "gh"] := by
      rw [show Str.ofString "gh" = S [103, 104] by decide]
      rfl
    rw [hd]
    simp only [d5, e_ret, e_tup, e_cons, e_nil, e_mc, kC1_0, e_bin, e_mvS, e_mv0, kB1_0, kB2_0, o_add, hv', kC2_0, kTup_0, List.length_cons, List.length_nil]
    rfl
  rw [e0, e_seq, c1, RS.nxt_nx, e_seq, c2, RS.nxt_nx, e_seq, c3, RS.nxt_nx, e_seq, mFor_data (rng1 e6 (by omega)), e7, RS.nxt_nx, c5, finS_rt]
end
end K21


set_option Elab.async false
set_option linter.all false
set_option maxRecDepth 100000
set_option maxHeartbeats 4000000
/-! K21V: lesser words; together. -/
namespace K21
open PySem Tg L2
open SX (S)
/-! ### lesser words -/
inductive PLe : Pl → Pl → Prop
  | num (i : Int) (q : Pl) : PLe (.num i) q
  | key {b e a b' e' a' : Int} {r r' : List Nat} : b ≤ b' → e' ≤ e → (∀ x ∈ r', x ∈ r) → PLe (.key b' e' a' r') (.key b e a r)
inductive WLe : Wo → Wo → Prop
  | num (i : Int) (w : Wo) : WLe (.pl (.num i)) w
  | pl {p q : Pl} : PLe p q → WLe (.pl p) (.pl q)
  | gate {g g' : Int} {p q : Pl} : PLe p q → WLe (.gate g p) (.gate g' q)
theorem PLe.refl : ∀ p : Pl, PLe p p
  | .num i => .num i _
  | .key .. => .key (Int.le_refl _) (Int.le_refl _) fun _ h => h
theorem WLe.refl : ∀ w : Wo, WLe w w
  | .pl p => .pl (.refl p)
  | .gate _ p => .gate (.refl p)
theorem WLe.num_of {v w : Wo} (h : WLe v w) (hv : v.isNum = false) : w.isNum = false := by
  cases h with
  | num => cases hv
  | pl h => cases h with
    | num => cases hv
    | key => rfl
  | gate => rfl
theorem hasG_sub {r r' : List Nat} (h : ∀ x ∈ r', x ∈ r) (hg : hasG r' = true) : hasG r = true := by
  simp only [hasG, Bool.and_eq_true, decide_eq_true_eq] at hg ⊢
  exact ⟨h _ hg.1, h _ hg.2⟩
theorem at_cut {α : Type} {xs : List α} {b e : Nat} {x : α} (h : x ∈ (xs.drop b).take (e - b)) : ∃ i, b ≤ i ∧ i < e ∧ xs[i]? = some x := by
  obtain ⟨j, hj, rfl⟩ := List.mem_iff_getElem.mp h
  rw [List.length_take, List.length_drop] at hj
  refine ⟨b + j, by omega, by omega, ?_⟩
  rw [List.getElem_take, List.getElem_drop, List.getElem?_eq_getElem (by omega)]
theorem in_cut {α : Type} {xs : List α} {b e i : Nat} {x : α} (h1 : b ≤ i) (h2 : i < e) (h : xs[i]? = some x) : x ∈ (xs.drop b).take (e - b) := by
  obtain ⟨hi, rfl⟩ := List.getElem?_eq_some_iff.mp h
  refine List.mem_iff_getElem.mpr ⟨i - b, by rw [List.length_take, List.length_drop]; omega, ?_⟩
  rw [List.getElem_take, List.getElem_drop]
  congr 1
  omega
/-- of lesser words no more is come to; with gates no less -/
theorem reach_le {g g' : Bool} {cells cells' boxes boxes' : List Wo} (hg : g' = true → g = true) (hc : ∀ (i : Nat) (w : Wo), cells'[i]? = some w → ∃ v : Wo, cells[i]? = some v ∧ WLe w v) (hb : ∀ w ∈ boxes', ∃ v ∈ boxes, WLe w v) {w : Wo} (h : Reach g' cells' boxes' w) :
    ∃ v, Reach g cells boxes v ∧ WLe w v := by
  induction h with
  | box h hn =>
    obtain ⟨v, h1, h2⟩ := hb _ h
    exact ⟨v, .box h1 (h2.num_of hn), h2⟩
  | @step u w _ hs hn ih =>
    obtain ⟨v, h1, h2⟩ := ih
    cases h2 with
    | num => cases hs
    | pl hp => cases hp with
      | num => cases hs
      | @key b e a b' e' a' r r' hb1 he1 hr =>
        simp only [succs] at hs
        split at hs
        · rename_i hg1
          obtain ⟨i, i1, i2, i3⟩ := at_cut hs
          obtain ⟨x, x1, x2⟩ := hc i w i3
          refine ⟨x, .step h1 ?_ (x2.num_of hn), x2⟩
          simp only [succs, hasG_sub hr hg1, if_true]
          exact in_cut (by omega) (by omega) x1
        · cases hs
    | @gate k k' p q hp =>
      simp only [succs] at hs
      split at hs
      · rename_i hg1
        have e := List.mem_singleton.mp hs
        subst e
        refine ⟨.pl q, .step h1 ?_ (WLe.num_of (.pl hp) hn), .pl hp⟩
        simp only [succs, hg hg1, if_true]
        exact List.mem_singleton.mpr rfl
      · cases hs
theorem touch_le {v w : Wo} (h : WLe v w) {c : Int} {l : Nat} (ht : touch c l v = true) : touch c l w = true := by
  cases h with
  | num => cases ht
  | gate => cases ht
  | pl hp => cases hp with
    | num => cases ht
    | key hb he hr =>
      simp only [touch, Bool.and_eq_true, decide_eq_true_eq] at ht ⊢
      exact ⟨by omega, by omega, hr _ ht.2.2⟩
/-! ### letters by two marks -/
def ofB (p : Bool × Bool) : List Nat := (if p.1 then [103] else []) ++ (if p.2 then [115] else [])
def mk (F : List Wo) (c : Nat) : Bool × Bool := (F.any (touch c 103), F.any (touch c 115))
def orB (p q : Bool × Bool) : Bool × Bool := (p.1 || q.1, p.2 || q.2)
theorem letters_mk (F : List Wo) (c : Nat) : lettersOf F c = ofB (mk F c) := rfl
theorem mk_app (F G : List Wo) (c : Nat) : mk (F ++ G) c = orB (mk F c) (mk G c) := by simp [mk, orB]
theorem orB_none (p : Bool × Bool) : orB p (false, false) = p := by simp [orB]
theorem orB_idem (p q : Bool × Bool) : orB (orB p q) q = orB p q := by
  obtain ⟨a, b⟩ := p
  obtain ⟨c, d⟩ := q
  cases a <;> cases b <;> cases c <;> cases d <;> rfl
theorem ofB_empty (p : Bool × Bool) : (ofB p).isEmpty = (!p.1 && !p.2) := by
  obtain ⟨a, b⟩ := p
  cases a <;> cases b <;> rfl
theorem ofB_inj {p q : Bool × Bool} (h : ofB p = ofB q) : p = q := by
  obtain ⟨a, b⟩ := p
  obtain ⟨c, d⟩ := q
  cases a <;> cases b <;> cases c <;> cases d <;> first | rfl | (exact absurd h (by decide))
def tp (L : Nat → Bool × Bool) (c : Nat) : D := .tup [.int c, .str (S (ofB (L c)))]
def some? (p : Bool × Bool) : Bool := p.1 || p.2
def toldL (L : Nat → Bool × Bool) : List D := ((List.range 64).filter fun c => some? (L c)).map (tp L)
theorem told_mk (F : List Wo) : told F = toldL (mk F) := by
  unfold told toldL
  have : (fun c : Nat => !(lettersOf F c).isEmpty) = fun c => some? (mk F c) := by
    funext c
    rw [letters_mk, ofB_empty]
    generalize mk F c = p
    obtain ⟨a, b⟩ := p
    cases a <;> cases b <;> rfl
  rw [this]
  rfl
theorem toldL_same {L M : Nat → Bool × Bool} (h : ∀ c, c < 64 → L c = M c) : toldL L = toldL M := by
  unfold toldL
  have e : (List.range 64).filter (fun c => some? (L c)) = (List.range 64).filter fun c => some? (M c) := List.filter_congr fun c hc => by rw [h c (List.mem_range.mp hc)]
  rw [e]
  refine List.map_congr_left fun c hc => ?_
  unfold tp
  rw [h c (List.mem_range.mp (List.mem_filter.mp hc).1)]
/-! ### the dict that gathers -/
structure Dc (L : Nat → Bool × Bool) (kvs : List (Key × D)) : Prop where
  lk : ∀ c : Nat, c < 64 → lkK kvs (.inl c) = if some? (L c) then some (.str (S (ofB (L c)))) else none
  ks : ∃ cs : List Nat, kvs.map (·.1) = cs.map (fun c : Nat => Sum.inl (c : Int)) ∧ cs.Nodup ∧ ∀ c, c ∈ cs ↔ c < 64 ∧ some? (L c) = true
theorem Dc.nil : Dc (fun _ => (false, false)) [] := ⟨fun _ _ => rfl, [], rfl, .nil, fun c => by simp [some?]⟩
theorem Dc.len {L : Nat → Bool × Bool} {kvs : List (Key × D)} (h : Dc L kvs) : kvs.length ≤ 64 := by
  obtain ⟨cs, h1, h2, h3⟩ := h.ks
  have e : kvs.length = cs.length := by simpa using congrArg List.length h1
  rw [e, ← List.length_range (n := 64)]
  exact nodup_le h2 fun x hx => List.mem_range.mpr ((h3 x).mp hx).1
def upL (L : Nat → Bool × Bool) (c : Nat) (p : Bool × Bool) : Nat → Bool × Bool := fun x => if x = c then p else L x
theorem Dc.put {L : Nat → Bool × Bool} {kvs : List (Key × D)} (h : Dc L kvs) {c : Nat} (hc : c < 64) {p : Bool × Bool} (hp : some? p = true) : Dc (upL L c p) (ptK kvs (.inl c) (.str (S (ofB p)))) := by
  refine ⟨fun x hx => ?_, ?_⟩
  · rw [lkK_put]
    unfold upL
    by_cases e : x = c
    · subst e
      rw [if_pos rfl, if_pos rfl, if_pos hp]
    · rw [if_neg (show ¬ (Sum.inl (x : Int) : Key) = Sum.inl (c : Int) from fun z => e (by have := Sum.inl.inj z; omega)), if_neg e]
      exact h.lk x hx
  · obtain ⟨cs, h1, h2, h3⟩ := h.ks
    rw [keys_put, h.lk c hc]
    by_cases e : some? (L c) = true
    · rw [if_pos e, if_pos (show (some (D.str (S (ofB (L c))))).isSome = true from rfl)]
      refine ⟨cs, h1, h2, fun x => (h3 x).trans ?_⟩
      unfold upL
      by_cases q : x = c
      · subst q
        rw [if_pos rfl]
        exact ⟨fun z => ⟨z.1, hp⟩, fun z => ⟨z.1, e⟩⟩
      · rw [if_neg q]
    · rw [if_neg e, if_neg (by simp)]
      refine ⟨cs ++ [c], by rw [h1, List.map_append]; rfl, List.nodup_append.mpr ⟨h2, by simp, fun a ha b hb => ?_⟩, fun x => ?_⟩
      · rw [List.mem_singleton.mp hb]
        exact fun z => e (z ▸ ((h3 a).mp ha).2)
      · rw [List.mem_append, h3 x, List.mem_singleton]
        unfold upL
        by_cases q : x = c
        · subst q
          rw [if_pos rfl]
          exact ⟨fun _ => ⟨hc, hp⟩, fun _ => .inr rfl⟩
        · rw [if_neg q]
          exact ⟨fun z => z.elim id fun z => absurd z q, .inl⟩
/-- the keys, sorted -/
theorem Dc.sorted {L : Nat → Bool × Bool} {kvs : List (Key × D)} (h : Dc L kvs) : ∃ ks, keysI kvs = some ks ∧ ks.length ≤ 64 ∧ srtI ks = ((List.range 64).filter fun c => some? (L c)).map fun c : Nat => (c : Int) := by
  obtain ⟨cs, h1, h2, h3⟩ := h.ks
  have key : ∀ (kvs : List (Key × D)) (cs : List Nat), kvs.map (·.1) = cs.map (fun c : Nat => Sum.inl (c : Int)) → keysI kvs = some (cs.map fun c : Nat => (c : Int)) := by
    intro kvs
    induction kvs with
    | nil =>
      intro cs h
      cases cs with
      | nil => rfl
      | cons => cases h
    | cons p kvs ih =>
      intro cs h
      cases cs with
      | nil => cases h
      | cons c cs =>
        obtain ⟨k, d⟩ := p
        simp only [List.map_cons, List.cons.injEq] at h
        obtain ⟨rfl, h⟩ := h
        show (keysI kvs).map _ = _
        rw [ih cs h]
        rfl
  have hl := h.len
  have e : kvs.length = cs.length := by simpa using congrArg List.length h1
  refine ⟨_, key kvs cs h1, by rw [List.length_map]; omega, sorted_one (srtI_sorted _) ?_ ((srtI_perm _).trans ?_)⟩
  · refine List.pairwise_map.mpr ((List.pairwise_lt_range.sublist List.filter_sublist).imp fun {a b} z => ?_)
    omega
  · refine List.Perm.map _ ?_
    refine (List.perm_ext_iff_of_nodup h2 (List.nodup_range.sublist List.filter_sublist)).mpr fun c => ?_
    rw [h3, List.mem_filter, List.mem_range]
def u1 : MS := (mAsg (mDctN mPNil) (gmN 1))
def uI : MS := (mFor (miAny (mv 2)) (gmTup 2 (gmCons (gmN 3) (gmCons (gmN 4) gmNil))) (mSeq (mAsg (mBin addD (mGet2 (mv 1) (mv 3) (mc (.str ""))) (mv 4)) (gmN 5))
  (mSubS (mv 1) (mv 3) (mMt "str" joinD (mc (.str "")) (mCons (mLc (miAny (mc (.str "gs"))) (gmN 6) (mTb (mBin inD (mv 6) (mv 5))) (mv 6) [6] finF) mNil)))))
def ub1 : MS := (mAsg (mBin addD (mGet2 (mv 1) (mv 3) (mc (.str ""))) (mv 4)) (gmN 5))
def ub2 : MS := (mSubS (mv 1) (mv 3) (mMt "str" joinD (mc (.str "")) (mCons (mLc (miAny (mc (.str "gs"))) (gmN 6) (mTb (mBin inD (mv 6) (mv 5))) (mv 6) [6] finF) mNil)))
def u3 : MS := (mRet (mLc (miAny (mCall sortKD (mCons (mv 1) mNil))) (gmN 3) mYes (mTup (mCons (mv 3) (mCons (mBin ixD (mv 1) (mv 3)) mNil))) [3] finF))
def uL : ME := (mLc (miAny (mCall sortKD (mCons (mv 1) mNil))) (gmN 3) mYes (mTup (mCons (mv 3) (mCons (mBin ixD (mv 1) (mv 3)) mNil))) [3] finF)
def uJ : ME := mLc (miAny (mc (.str "gs"))) (gmN 6) (mTb (mBin inD (mv 6) (mv 5))) (mv 6) [6] finF
section
variable {A : AH} {n : Nat} {kvs : List (Key × D)} {L : Nat → Bool × Bool} {d0 o2 o3 o4 o5 o6 : Option D}
theorem uJ_ok {p q : Bool × Bool} {A : AH} {o1 o3 o4 : Option D} : uJ [d0, o1, o2, o3, o4, some (.str (S (ofB p ++ ofB q))), o6] A = .ok (.lst ((ofB (orB p q)).map fun c => .str ⟨#[c]⟩)) A := by
  have e1 : miAny (mc (.str "gs")) [d0, o1, o2, o3, o4, some (.str (S (ofB p ++ ofB q))), o6] A = .ok (.data [.str ⟨#[103]⟩, .str ⟨#[115]⟩]) A := by
    rw [show Str.ofString "gs" = S [103, 115] by decide]
    rfl
  have := lc_all (fin := finF) (g := gmN 6) (tt := mTb (mBin inD (mv 6) (mv 5))) (te := mv 6) (vs := [6]) (ds := [.str ⟨#[103]⟩, .str ⟨#[115]⟩]) (ps := [(decide (103 ∈ ofB p ++ ofB q), .str ⟨#[103]⟩), (decide (115 ∈ ofB p ++ ofB q), .str ⟨#[115]⟩)]) e1 nx_data rfl (by decide)
    (.cons ⟨_, rfl, by simp [in_S], fun _ => rfl⟩ (.cons ⟨_, rfl, by simp [in_S], fun _ => rfl⟩ .nil))
  unfold uJ
  rw [this]
  obtain ⟨a, b⟩ := p
  obtain ⟨c, d⟩ := q
  cases a <;> cases b <;> cases c <;> cases d <;> rfl
theorem ofB_len (p : Bool × Bool) : (ofB p).length ≤ 2 := by
  obtain ⟨a, b⟩ := p
  cases a <;> cases b <;> decide
theorem ofB_r16 (p : Bool × Bool) : ofB p ∈ Tg.R16 := by
  obtain ⟨a, b⟩ := p
  cases a <;> cases b <;> decide
theorem some_or {p q : Bool × Bool} (h : some? q = true) : some? (orB p q) = true := by
  obtain ⟨a, b⟩ := p
  obtain ⟨c, d⟩ := q
  cases a <;> cases b <;> cases c <;> cases d <;> first | rfl | cases h
theorem some_not {p : Bool × Bool} (h : ¬ some? p = true) : p = (false, false) := by
  obtain ⟨a, b⟩ := p
  cases a <;> cases b <;> first | rfl | exact absurd rfl h
/-- one cell's letters are gathered -/
theorem ub_ok (hA : A[n]? = some (.dct kvs)) (h : Dc L kvs) {c : Nat} (hc : c < 64) {q : Bool × Bool} (hq : some? q = true) :
    (mSeq ub1 ub2) [d0, some (.ref n), o2, some (.int c), some (.str (S (ofB q))), o5, o6] A = .nx [d0, some (.ref n), o2, some (.int c), some (.str (S (ofB q))), some (.str (S (ofB (L c) ++ ofB q))), o6] (A.set n (.dct (ptK kvs (.inl c) (.str (S (ofB (orB (L c) q))))))) := by
  have hg : mGet2 (mv 1) (mv 3) (mc (.str "")) [d0, some (.ref n), o2, some (.int c), some (.str (S (ofB q))), o5, o6] A = .ok (.str (S (ofB (L c)))) A := by
    have hlk := h.lk c hc
    have e0 : getD2 (.ref n) (.int c) (.str "") A = .ok (.str (S (ofB (L c)))) A := by
      have e1 : dctD A (.ref n) = some kvs := by rw [dct_ref, hA]
      by_cases e : some? (L c) = true
      · rw [if_pos e] at hlk
        simp only [getD2, e1, keyD, hlk]
        rfl
      · rw [if_neg e] at hlk
        simp only [getD2, e1, keyD, hlk]
        rw [some_not e, e_emp]
        rfl
    have e2 : (dctD A (.ref n)).isSome = true := by rw [dct_ref, hA]; rfl
    unfold mGet2
    rw [show (mv 1) [d0, some (.ref n), o2, some (.int c), some (.str (S (ofB q))), o5, o6] A = .ok (.ref n) A from rfl, R.bind_ok, if_pos e2]
    exact e0
  have hadd : addD (.str (S (ofB (L c)))) (.str (S (ofB q))) A = .ok (.str (S (ofB (L c) ++ ofB q))) A := by
    have := ofB_len (L c)
    have := ofB_len q
    show (if (S (ofB (L c))).length + (S (ofB q)).length ≤ 16777216 then R.ok (D.str (S (ofB (L c)) ++ S (ofB q))) _ else .bad) = _
    rw [SX.S_len, SX.S_len, if_pos (by omega), SX.S_cat]
  have c1 : ub1 [d0, some (.ref n), o2, some (.int c), some (.str (S (ofB q))), o5, o6] A = .nx [d0, some (.ref n), o2, some (.int c), some (.str (S (ofB q))), some (.str (S (ofB (L c) ++ ofB q))), o6] A := by
    unfold ub1
    rw [e_asgN, e_bin, hg, kB1_0]
    simp only [e_mvS, e_mv0, kB2_0, hadd, kAsg_0]
    rfl
  have hj := uJ_ok (d0 := d0) (o1 := some (.ref n)) (o2 := o2) (o3 := some (.int c)) (o4 := some (.str (S (ofB q)))) (o6 := o6) (p := L c) (q := q) (A := A)
  have hjoin : (mMt "str" joinD (mc (.str "")) (mCons uJ mNil)) [d0, some (.ref n), o2, some (.int c), some (.str (S (ofB q))), some (.str (S (ofB (L c) ++ ofB q))), o6] A = .ok (.str (S (ofB (orB (L c) q)))) A := by
    simp [hj, e_emp, rights_join (ofB_r16 (orB (L c) q)), tyMD]
  have hst : stSub (.ref n) (.int c) (.str (S (ofB (orB (L c) q)))) A = some (A.set n (.dct (ptK kvs (.inl c) (.str (S (ofB (orB (L c) q))))))) := by
    have := h.len
    simp only [stSub, hA, keyD]
    rw [if_pos (by omega)]
  have c2 : ub2 [d0, some (.ref n), o2, some (.int c), some (.str (S (ofB q))), some (.str (S (ofB (L c) ++ ofB q))), o6] A = .nx [d0, some (.ref n), o2, some (.int c), some (.str (S (ofB q))), some (.str (S (ofB (L c) ++ ofB q))), o6] (A.set n (.dct (ptK kvs (.inl c) (.str (S (ofB (orB (L c) q))))))) := by
    show (mSubS (mv 1) (mv 3) (mMt "str" joinD (mc (.str "")) (mCons uJ mNil))) _ _ = _
    rw [e_sub, hjoin, kSub1_0]
    simp only [e_mvS, e_mv0, kSub2_0, kSub3_0, hst, kSub4_0]
  rw [e_seq, c1, RS.nxt_nx, c2]
def upF (M : Nat → Bool × Bool) (L : Nat → Bool × Bool) (cs : List Nat) : Nat → Bool × Bool := fun x => if x ∈ cs then orB (L x) (M x) else L x
theorem in_ok {M : Nat → Bool × Bool} : ∀ (cs : List Nat) (L : Nat → Bool × Bool) (kvs : List (Key × D)) (A : AH) (o3 o4 o5 : Option D), A[n]? = some (.dct kvs) → Dc L kvs → (∀ c ∈ cs, c < 64 ∧ some? (M c) = true) →
    ∃ kvs' o3' o4' o5', forL (gmTup 2 (gmCons (gmN 3) (gmCons (gmN 4) gmNil))) (mSeq ub1 ub2) (cs.map (tp M)) [d0, some (.ref n), o2, o3, o4, o5, o6] A = .nx [d0, some (.ref n), o2, o3', o4', o5', o6] (A.set n (.dct kvs')) ∧ Dc (upF M L cs) kvs'
  | [], L, kvs, A, o3, o4, o5, hA, h, _ => ⟨kvs, o3, o4, o5, by
      have e : A.set n (.dct kvs) = A := by
        obtain ⟨hi, e⟩ := List.getElem?_eq_some_iff.mp hA
        rw [← e, List.set_getElem_self]
      rw [e]
      rfl, by
      have e : upF M L [] = L := by
        funext x
        simp [upF]
      rw [e]
      exact h⟩
  | c :: cs, L, kvs, A, o3, o4, o5, hA, h, hcs => by
    obtain ⟨hc, hm⟩ := hcs c List.mem_cons_self
    have e1 := ub_ok (d0 := d0) (o2 := o2) (o5 := o5) (o6 := o6) hA h hc hm
    have h2 := h.put hc (p := orB (L c) (M c)) (some_or hm)
    have hn := (List.getElem?_eq_some_iff.mp hA).1
    obtain ⟨kvs', p3, p4, p5, e2, h3⟩ := in_ok cs _ _ (A.set n (.dct (ptK kvs (.inl c) (.str (S (ofB (orB (L c) (M c)))))))) (some (.int c)) (some (.str (S (ofB (M c))))) (some (.str (S (ofB (L c) ++ ofB (M c))))) (List.getElem?_set_self hn) h2 fun x hx => hcs x (List.mem_cons_of_mem _ hx)
    refine ⟨kvs', p3, p4, p5, ?_, ?_⟩
    · have e3 : ∀ (X : MS), forL (gmTup 2 (gmCons (gmN 3) (gmCons (gmN 4) gmNil))) X ((c :: cs).map (tp M)) [d0, some (.ref n), o2, o3, o4, o5, o6] A = (match X [d0, some (.ref n), o2, some (.int c), some (.str (S (ofB (M c)))), o5, o6] A with
        | .nx s2 A2 => forL (gmTup 2 (gmCons (gmN 3) (gmCons (gmN 4) gmNil))) X (cs.map (tp M)) s2 A2
        | .ct s2 A2 => forL (gmTup 2 (gmCons (gmN 3) (gmCons (gmN 4) gmNil))) X (cs.map (tp M)) s2 A2
        | .bk s2 A2 => .nx s2 A2
        | r => r) := fun _ => rfl
      rw [e3, e1]
      dsimp only
      rw [e2, List.set_set]
    · have e : upF M (upL L c (orB (L c) (M c))) cs = upF M L (c :: cs) := by
        funext x
        unfold upF upL
        by_cases q : x = c
        · subst q
          by_cases z : x ∈ cs
          · rw [if_pos z, if_pos rfl, if_pos List.mem_cons_self, orB_idem]
          · rw [if_neg z, if_pos rfl, if_pos List.mem_cons_self]
        · by_cases z : x ∈ cs
          · rw [if_pos z, if_neg q, if_pos (List.mem_cons_of_mem _ z)]
          · rw [if_neg z, if_neg q, if_neg (fun y => (List.mem_cons.mp y).elim q z)]
      rw [← e]
      exact h3
theorem Dc.same {M : Nat → Bool × Bool} (h : Dc L kvs) (e : ∀ c, c < 64 → L c = M c) : Dc M kvs := by
  refine ⟨fun c hc => by rw [← e c hc]; exact h.lk c hc, ?_⟩
  obtain ⟨cs, h1, h2, h3⟩ := h.ks
  exact ⟨cs, h1, h2, fun c => (h3 c).trans ⟨fun z => ⟨z.1, e c z.1 ▸ z.2⟩, fun z => ⟨z.1, e c z.1 ▸ z.2⟩⟩⟩
theorem uI_ok {M : Nat → Bool × Bool} (hA : A[n]? = some (.dct kvs)) (h : Dc L kvs) :
    ∃ kvs' o3' o4' o5', uI [d0, some (.ref n), some (.lst (toldL M)), o3, o4, o5, o6] A = .nx [d0, some (.ref n), some (.lst (toldL M)), o3', o4', o5', o6] (A.set n (.dct kvs')) ∧ Dc (fun c => orB (L c) (M c)) kvs' := by
  obtain ⟨kvs', p3, p4, p5, e, h2⟩ := in_ok (d0 := d0) (o2 := some (.lst (toldL M))) (o6 := o6) (M := M) ((List.range 64).filter fun c => some? (M c)) L kvs A o3 o4 o5 hA h fun c hc => ⟨List.mem_range.mp (List.mem_filter.mp hc).1, (List.mem_filter.mp hc).2⟩
  refine ⟨kvs', p3, p4, p5, ?_, h2.same fun c hc => ?_⟩
  · have e1 : miAny (mv 2) [d0, some (.ref n), some (.lst (toldL M)), o3, o4, o5, o6] A = .ok (.data (toldL M)) A := rfl
    show (mFor (miAny (mv 2)) (gmTup 2 (gmCons (gmN 3) (gmCons (gmN 4) gmNil))) (mSeq ub1 ub2)) _ _ = _
    rw [mFor_data e1]
    exact e
  · unfold upF
    by_cases z : some? (M c) = true
    · rw [if_pos (List.mem_filter.mpr ⟨List.mem_range.mpr hc, z⟩)]
    · rw [if_neg (show ¬ c ∈ (List.range 64).filter (fun c => some? (M c)) from fun y => z (List.mem_filter.mp y).2), some_not z, orB_none]
def foldM (Ms : List (Nat → Bool × Bool)) : Nat → Bool × Bool := fun c => Ms.foldl (fun p M => orB p (M c)) (false, false)
theorem together_ok {d : D} {Ms : List (Nat → Bool × Bool)} (hd : seqL A d = some (Ms.map fun M => .lst (toldL M))) : ∃ B, m__law_together [d] A = .ok (.lst (toldL (foldM Ms))) (A ++ [B]) := by
  have e0 : m__law_together [d] A = finS (mSeq u1 (mSeq (mFor (miAny (mv 0)) (gmN 2) uI) u3) [some d, none, none, none, none, none, none] A) := rfl
  have c1 : u1 [some d, none, none, none, none, none, none] A = .nx [some d, some (.ref A.length), none, none, none, none, none] (A ++ [.dct []]) := rfl
  have hseq : ∀ o : AO, seqL (A ++ [o]) d = some (Ms.map fun M => .lst (toldL M)) := fun o => seq_app hd
  have hit : ∃ it, miAny (mv 0) [some d, some (.ref A.length), none, none, none, none, none] (A ++ [.dct []]) = .ok it (A ++ [.dct []]) ∧ itLen it (A ++ [.dct []]) = (Ms.map fun M => D.lst (toldL M)).length ∧ ∀ j (o : AO), itNext it j (A ++ [o]) = some (Ms.map fun M => D.lst (toldL M))[j]? := by
    cases d with
    | lst ds =>
      cases (show some ds = _ from hd)
      exact ⟨.data _, rfl, rfl, fun _ _ => rfl⟩
    | scr ns =>
      have e : ns.map D.int = Ms.map fun M => D.lst (toldL M) := Option.some.inj hd
      exact ⟨.data (ns.map .int), rfl, by rw [← e]; rfl, fun j o => by rw [← e]; rfl⟩
    | ref k =>
      have q : ∀ o : AO, (A ++ [o])[k]? = some (.lst (Ms.map fun M => D.lst (toldL M))) := fun o => by
        have := hseq o
        rw [seq_ref] at this
        cases z : (A ++ [o])[k]? with
        | none =>
          rw [z] at this
          cases this
        | some u =>
          rw [z] at this
          cases u with
          | lst ds => cases this; rfl
          | _ => cases this
      refine ⟨.ref k, it_ref rfl (q _), ln_ref (q _), fun j o => nx_ref (q o) j⟩
    | _ => cases (show none = some _ from hd)
  obtain ⟨it, i1, i2, i3⟩ := hit
  obtain ⟨s', A', c2, kvs, rfl, hD, o2, o3, o4, o5, rfl⟩ := mFor_at (g := gmN 2) (b := uI) (fun j s B => ∃ kvs, B = A ++ [.dct kvs] ∧ Dc (foldM (Ms.take j)) kvs ∧ ∃ o2 o3 o4 o5, s = [some d, some (.ref A.length), o2, o3, o4, o5, none]) i1 i2 ⟨[], rfl, Dc.nil, none, none, none, none, rfl⟩
    (fun j s B ⟨kvs, e, _⟩ => by rw [e]; exact i3 j _) (fun j d' s B hj hB => by
      obtain ⟨kvs, rfl, hD, o2, o3, o4, o5, rfl⟩ := hB
      rw [List.getElem?_map] at hj
      obtain ⟨M, hM, rfl⟩ := Option.map_eq_some_iff.mp hj
      obtain ⟨kvs', p3, p4, p5, e, h2⟩ := uI_ok (d0 := some d) (n := A.length) (A := A ++ [.dct kvs]) (o3 := o3) (o4 := o4) (o5 := o5) (o6 := none) (M := M) (by simp) hD
      refine ⟨_, _, _, rfl, e, kvs', by simp, ?_, _, _, _, _, rfl⟩
      have : foldM (Ms.take (j + 1)) = fun c => orB (foldM (Ms.take j) c) (M c) := by
        funext c
        unfold foldM
        rw [List.take_add_one, hM, List.foldl_append]
        rfl
      rw [this]
      exact h2)
  rw [List.length_map, List.take_length] at hD
  obtain ⟨ks, k1, k2, k3⟩ := hD.sorted
  have hA' : (A ++ [AO.dct kvs])[A.length]? = some (.dct kvs) := by simp
  have e3 : uL [some d, some (.ref A.length), o2, o3, o4, o5, none] (A ++ [.dct kvs]) = .ok (.lst (toldL (foldM Ms))) (A ++ [.dct kvs]) := by
    have es : sortKD [.ref A.length] (A ++ [.dct kvs]) = .ok (.lst ((srtI ks).map D.int)) (A ++ [.dct kvs]) := by
      show (match (dctD (A ++ [AO.dct kvs]) (.ref A.length)).bind keysI with
        | some ks => if ks.length ≤ 1000 then R.ok (D.lst ((srtI ks).map D.int)) (A ++ [AO.dct kvs]) else .bad
        | none => .bad) = _
      rw [dct_ref, hA']
      dsimp only [Option.bind]
      rw [k1]
      dsimp only
      rw [if_pos (by omega)]
    have e1 : miAny (mCall sortKD (mCons (mv 1) mNil)) [some d, some (.ref A.length), o2, o3, o4, o5, none] (A ++ [.dct kvs]) = .ok (.data (((List.range 64).filter fun c => some? (foldM Ms c)).map fun c : Nat => D.int c)) (A ++ [.dct kvs]) := by
      unfold miAny
      rw [e_call, show (mCons (mv 1) mNil) [some d, some (.ref A.length), o2, o3, o4, o5, none] (A ++ [.dct kvs]) = .ok [.ref A.length] (A ++ [.dct kvs]) from rfl, kCall_0, es, k3, R.bind_ok, List.map_map]
      rfl
    have := lc_all (fin := finF) (g := gmN 3) (tt := mYes) (te := mTup (mCons (mv 3) (mCons (mBin ixD (mv 1) (mv 3)) mNil))) (vs := [3]) (ps := ((List.range 64).filter fun c => some? (foldM Ms c)).map fun c : Nat => (true, tp (foldM Ms) c)) e1 nx_data rfl (by
        rw [List.length_map]
        exact Nat.lt_of_le_of_lt (List.length_filter_le _ _) (by rw [List.length_range]; decide)) (All2.maps fun c hc => by
        obtain ⟨c1, c2⟩ := List.mem_filter.mp hc
        have hlk := hD.lk c (List.mem_range.mp c1)
        rw [if_pos c2] at hlk
        have x1 : ixD (.ref A.length) (.int (c : Nat)) (A ++ [.dct kvs]) = .ok (.str (S (ofB (foldM Ms c)))) (A ++ [.dct kvs]) := by
          unfold ixD
          simp only [dct_ref, hA', keyD, Option.bind, hlk]
        refine ⟨[some d, some (.ref A.length), o2, some (.int c), o4, o5, none], rfl, rfl, fun _ => ?_⟩
        simp only [e_tup, e_cons, e_nil, e_mvS, e_mv0, kC1_0, e_bin, kB1_0, kB2_0, x1, kC2_0, kTup_0, List.length_cons, List.length_nil]
        rfl)
    unfold uL
    rw [this]
    have e4 : ((((List.range 64).filter fun c => some? (foldM Ms c)).map fun c : Nat => (true, tp (foldM Ms) c)).filter (·.1)).map (·.2) = toldL (foldM Ms) := by
      rw [List.filter_eq_self.mpr (fun b hb => by
        obtain ⟨x, _, rfl⟩ := List.mem_map.mp hb
        rfl), List.map_map]
      rfl
    rw [e4]
    rfl
  refine ⟨.dct kvs, ?_⟩
  have c3 : u3 [some d, some (.ref A.length), o2, o3, o4, o5, none] (A ++ [.dct kvs]) = .rt (.lst (toldL (foldM Ms))) (A ++ [.dct kvs]) := by
    show (mRet uL) _ _ = _
    rw [e_ret, e3]
    rfl
  rw [e0, e_seq, c1, RS.nxt_nx, e_seq, c2, RS.nxt_nx, c3, finS_rt]
end
end K21

set_option Elab.async false
set_option linter.all false
set_option maxRecDepth 100000
set_option maxHeartbeats 4000000
/-! K21Y: lesser words drawn; touching; a dict asked. -/
namespace K21
open PySem Tg L2
open SX (S)
def z1 : MS := (mIfS (mOr (mTb (mUn (isiD "int") (mv 1))) (mTb (mBin eqD (mCall m__law_taken (mCons (mv 0) (mCons (mc (.int (3))) mNil))) (mc (.int (0)))))) (mRet (mIf (mTb (mBin gtD (mCall m__law_taken (mCons (mv 0) (mCons (mc (.int (4))) mNil))) (mc (.int (0))))) (mv 1) (mCall m__law_number (mCons (mv 0) mNil)))) mNx)
def z2 : MS := (mAsg (mBin addD (mBin ixD (mv 1) (mc (.int (1)))) (mCall m__law_taken (mCons (mv 0) (mCons (mBin subD (mBin ixD (mv 1) (mc (.int (2)))) (mBin ixD (mv 1) (mc (.int (1))))) mNil)))) (gmN 2))
def z3 : MS := (mAsg (mBin addD (mBin addD (mv 2) (mc (.int (1)))) (mCall m__law_taken (mCons (mv 0) (mCons (mBin subD (mBin ixD (mv 1) (mc (.int (2)))) (mv 2)) mNil)))) (gmN 3))
def z4 : MS := (mAsg (mMt "str" joinD (mc (.str "")) (mCons (mLc (miAny (mBin ixD (mv 1) (mc (.int (4))))) (gmN 5) (mTb (mBin gtD (mCall m__law_taken (mCons (mv 0) (mCons (mc (.int (4))) mNil))) (mc (.int (0))))) (mv 5) [5] finF) mNil)) (gmN 4))
def z5 : MS := (mRet (mTup (mCons (mc (.str "key")) (mCons (mv 2) (mCons (mv 3) (mCons (mBin ixD (mLst (mCons (mBin ixD (mv 1) (mc (.int (3)))) (mCons (mCall m__law_number (mCons (mv 0) mNil)) mNil))) (mCall m__law_taken (mCons (mv 0) (mCons (mc (.int (2))) mNil)))) (mCons (mv 4) mNil)))))))

def zG : MT := (mTb (mBin eqD (mBin ixD (mv 1) (mc (.int (0)))) (mc (.str "gate"))))
def zN (g : List D → AH → R D) : MS := (mRet (mTup (mCons (mc (.str "gate")) (mCons (mBin ixD (mv 1) (mc (.int (1)))) (mCons (mCall g (mCons (mv 0) (mCons (mBin ixD (mv 1) (mc (.int (2)))) mNil))) mNil)))))
theorem subs16 : ∀ l ∈ Tg.R16, l.Sublist [103, 104, 108, 115] := by decide
section
variable {r : Nat} {ns : List Int} {A : AH}
def zL : ME := mLc (miAny (mBin ixD (mv 1) (mc (.int (4))))) (gmN 5) (mTb (mBin gtD (mCall m__law_taken (mCons (mv 0) (mCons (mc (.int (4))) mNil))) (mc (.int (0))))) (mv 5) [5] finF
theorem lesser_pl {most n : Nat} {p : Pl} (h : RowAt r ns A) (hp : p.Ok most) (hm : most ≤ 64) : ∃ (q : Pl) (A' : AH), m__law_lesser (n + 1) [.ref r, p.d] A = .ok q.d A' ∧ Dr r ns A A' ∧ q.Ok most ∧ PLe q p := by
  have e0 : m__law_lesser (n + 1) [.ref r, p.d] A = finS (mSeq z1 (mSeq (mIfS zG (zN (m__law_lesser n)) mNx) (mSeq z2 (mSeq z3 (mSeq z4 z5)))) [some (.ref r), some p.d, none, none, none, none] A) := rfl
  cases hp with
  | @num i i0 i1 =>
    obtain ⟨t, A1, e1, h1, t1⟩ := takenD 4 h ⟨by omega, by omega⟩
    have e0' : m__law_lesser (n + 1) [.ref r, (Pl.num i).d] A = finS ((z1 [some (.ref r), some (.int i), none, none, none, none] A).nxt (mSeq (mIfS zG (zN (m__law_lesser n)) mNx) (mSeq z2 (mSeq z3 (mSeq z4 z5))))) := rfl
    by_cases ht : 0 < t
    · have c1 : z1 [some (.ref r), some (.int i), none, none, none, none] A = .rt (.int i) A1 := by
        simp [z1, subTy, tk, e1, ht]
      exact ⟨.num i, A1, by rw [e0', c1, RS.nxt_rt, finS_rt]; rfl, h1, .num i0 i1, .num _ _⟩
    · obtain ⟨v, A2, e2, h2, v0, v1⟩ := number_ok h1.row
      have c1 : z1 [some (.ref r), some (.int i), none, none, none, none] A = .rt (.int v) A2 := by
        simp [z1, subTy, tk, e1, ht, e2]
      exact ⟨.num v, A2, by rw [e0', c1, RS.nxt_rt, finS_rt]; rfl, h1.trans h2, .num v0 v1, .num _ _⟩
  | @key b e a l b0 b1 b2 b3 a0 a1 hl =>
    have hd : (Pl.key b e a l).d = .tup [.str "key", .int b, .int e, .int a, .str (S l)] := rfl
    obtain ⟨x, A1, e1, h1, x1⟩ := takenD 3 h ⟨by omega, by omega⟩
    by_cases hx : x = 0
    · subst hx
      simp at e1
      obtain ⟨t, A2, e2, h2, t1⟩ := takenD 4 h1.row ⟨by omega, by omega⟩
      by_cases ht : 0 < t
      · have c1 : z1 [some (.ref r), some (Pl.key b e a l).d, none, none, none, none] A = .rt (Pl.key b e a l).d A2 := by
          simp [z1, hd, subTy, tk, e1, e2, ht]
        exact ⟨.key b e a l, A2, by rw [e0, e_seq, c1, RS.nxt_rt, finS_rt], h1.trans h2, .key b0 b1 b2 b3 a0 a1 hl, .refl _⟩
      · obtain ⟨v, A3, e3, h3, v0, v1⟩ := number_ok h2.row
        have c1 : z1 [some (.ref r), some (Pl.key b e a l).d, none, none, none, none] A = .rt (.int v) A3 := by
          simp [z1, hd, subTy, tk, e1, e2, ht, e3]
        exact ⟨.num v, A3, by rw [e0, e_seq, c1, RS.nxt_rt, finS_rt]; rfl, (h1.trans h2).trans h3, .num v0 v1, .num _ _⟩
    · have hx2 : ¬ (x : Int) = 0 := by omega
      have c1 : z1 [some (.ref r), some (Pl.key b e a l).d, none, none, none, none] A = .nx [some (.ref r), some (Pl.key b e a l).d, none, none, none, none] A1 := by
        simp [z1, hd, subTy, tk, e1, rInt, hx]
      have c2 : zG [some (.ref r), some (Pl.key b e a l).d, none, none, none, none] A1 = .ok false A1 := by
        simp [zG, hd]
      obtain ⟨t, A2, e2, h2, t1⟩ := takenD (e - b) h1.row ⟨by omega, by omega⟩
      obtain ⟨u, A3, e3, h3, u1⟩ := takenD (e - (b + t)) h2.row ⟨by omega, by omega⟩
      have c3 : z2 [some (.ref r), some (Pl.key b e a l).d, none, none, none, none] A1 = .nx [some (.ref r), some (Pl.key b e a l).d, some (.int (b + t)), none, none, none] A2 := by
        simp [z2, hd, tk, e2]
      have c4 : z3 [some (.ref r), some (Pl.key b e a l).d, some (.int (b + t)), none, none, none] A2 = .nx [some (.ref r), some (Pl.key b e a l).d, some (.int (b + t)), some (.int (b + t + 1 + u)), none, none] A3 := by
        simp [z3, hd, tk, e3]
      have e4 : miAny (mBin ixD (mv 1) (mc (.int (4)))) [some (.ref r), some (Pl.key b e a l).d, some (.int (b + t)), some (.int (b + t + 1 + u)), none, none] A3 = .ok (.data (l.map fun c => .str ⟨#[c]⟩)) A3 := by
        have x1 : ixD (Pl.key b e a l).d (.int 4) A3 = .ok (.str (S l)) A3 := ix_tup (atI_ok (i := 4) rfl)
        unfold miAny
        rw [e_bin, show mv 1 [some (.ref r), some (Pl.key b e a l).d, some (.int (b + t)), some (.int (b + t + 1 + u)), none, none] A3 = .ok (Pl.key b e a l).d A3 from rfl, kB1_0, e_mc, kB2_0, x1, R.bind_ok]
        show R.ok (IT.data (signs (S l))) A3 = _
        congr 2
      obtain ⟨ys, A4, e5, h4, hs⟩ := lc_sub (g := gmN 5) (tt := mTb (mBin gtD (mCall m__law_taken (mCons (mv 0) (mCons (mc (.int (4))) mNil))) (mc (.int (0))))) (te := mv 5) (vs := [5]) (Dr r ns A3) e4 (by rw [List.length_map]; have := (R16_ok l hl).2; omega) (Dr.refl h3.row) (fun d _ B hB => by
        obtain ⟨v, B', e, hB', _⟩ := takenD 4 hB.row ⟨by omega, by omega⟩
        exact ⟨_, decide (0 < (v : Int)), B', rfl, by simp only [e_tb, e_bin, e_call, e_cons, e_nil, e_mc, wpD, wp_cons, wp_nil, List.set_cons_succ, List.set_cons_zero, e_mvS, e_mv0, kC1_0, kC2_0, kCall_0, tk, e, kB1_0, kB2_0, o_gt, kT_0], hB.trans hB', rfl⟩)
      obtain ⟨l', hl', rfl⟩ := sub_map hs
      have hl16 := sub16 l' (hl'.trans (subs16 l hl))
      have e6 : zL [some (.ref r), some (Pl.key b e a l).d, some (.int (b + t)), some (.int (b + t + 1 + u)), none, none] A3 = .ok (.lst (l'.map fun c => .str ⟨#[c]⟩)) A4 := e5
      have c5 : z4 [some (.ref r), some (Pl.key b e a l).d, some (.int (b + t)), some (.int (b + t + 1 + u)), none, none] A3 = .nx [some (.ref r), some (Pl.key b e a l).d, some (.int (b + t)), some (.int (b + t + 1 + u)), some (.str (S l')), none] A4 := by
        show (mAsg (mMt "str" joinD (mc (.str "")) (mCons zL mNil)) (gmN 4)) _ _ = _
        simp [e6, e_emp, rights_join hl16, tyMD]
      obtain ⟨v, A5, e7, h5, v0, v1⟩ := number_ok h4.row
      obtain ⟨w, A6, e8, h6, w1⟩ := takenD 2 h5.row ⟨by omega, by omega⟩
      have hk : ∃ k : Int, -10000 ≤ k ∧ k < 10000 ∧ atI [D.int a, D.int v] (w : Int) = some (.int k) := by
        have hw : w = 0 ∨ w = 1 := by omega
        rcases hw with rfl | rfl
        · exact ⟨a, a0, a1, at0⟩
        · exact ⟨v, v0, v1, at1⟩
      obtain ⟨k, k0, k1, hk⟩ := hk
      have c6 : z5 [some (.ref r), some (Pl.key b e a l).d, some (.int (b + t)), some (.int (b + t + 1 + u)), some (.str (S l')), none] A4 = .rt (Pl.key (b + t) (b + t + 1 + u) k l').d A6 := by
        simp [z5, hd, e7, tk, e8, hk, Pl.d]
      refine ⟨.key (b + t) (b + t + 1 + u) k l', A6, ?_, ((((h1.trans h2).trans h3).trans h4).trans h5).trans h6, .key (by omega) (by omega) (by omega) (by omega) k0 k1 hl16, .key (by omega) (by omega) fun x hx => hl'.subset hx⟩
      rw [e0, e_seq, c1, RS.nxt_nx, e_seq, e_ifS, c2, kIf_1, e_nx, RS.nxt_nx, e_seq, c3, RS.nxt_nx, e_seq, c4, RS.nxt_nx, e_seq, c5, RS.nxt_nx, c6, finS_rt]
theorem lesser_ok {most rows : Nat} {w : Wo} (h : RowAt r ns A) (hw : w.Ok rows most) (hm : most ≤ 64) : ∃ (v : Wo) (A' : AH), m__law_lesser 2 [.ref r, w.d] A = .ok v.d A' ∧ Dr r ns A A' ∧ v.Ok rows most ∧ WLe v w := by
  cases hw with
  | pl hp =>
    obtain ⟨q, A', e, h1, h2, h3⟩ := lesser_pl (n := 1) h hp hm
    exact ⟨.pl q, A', e, h1, .pl h2, .pl h3⟩
  | @gate g p g0 g1 hp =>
    have e0 : m__law_lesser 2 [.ref r, (Wo.gate g p).d] A = finS (mSeq z1 (mSeq (mIfS zG (zN (m__law_lesser 1)) mNx) (mSeq z2 (mSeq z3 (mSeq z4 z5)))) [some (.ref r), some (Wo.gate g p).d, none, none, none, none] A) := rfl
    have hd : (Wo.gate g p).d = .tup [.str "gate", .int g, p.d] := rfl
    obtain ⟨x, A1, e1, h1, x1⟩ := takenD 3 h ⟨by omega, by omega⟩
    by_cases hx : x = 0
    · subst hx
      simp at e1
      obtain ⟨t, A2, e2, h2, t1⟩ := takenD 4 h1.row ⟨by omega, by omega⟩
      by_cases ht : 0 < t
      · have c1 : z1 [some (.ref r), some (Wo.gate g p).d, none, none, none, none] A = .rt (Wo.gate g p).d A2 := by
          simp [z1, hd, subTy, tk, e1, e2, ht]
        exact ⟨.gate g p, A2, by rw [e0, e_seq, c1, RS.nxt_rt, finS_rt], h1.trans h2, .gate g0 g1 hp, .refl _⟩
      · obtain ⟨v, A3, e3, h3, v0, v1⟩ := number_ok h2.row
        have c1 : z1 [some (.ref r), some (Wo.gate g p).d, none, none, none, none] A = .rt (.int v) A3 := by
          simp [z1, hd, subTy, tk, e1, e2, ht, e3]
        exact ⟨.pl (.num v), A3, by rw [e0, e_seq, c1, RS.nxt_rt, finS_rt]; rfl, (h1.trans h2).trans h3, .pl (.num v0 v1), .num _ _⟩
    · have hx2 : ¬ (x : Int) = 0 := by omega
      have c1 : z1 [some (.ref r), some (Wo.gate g p).d, none, none, none, none] A = .nx [some (.ref r), some (Wo.gate g p).d, none, none, none, none] A1 := by
        simp [z1, hd, subTy, tk, e1, rInt, hx]
      have c2 : zG [some (.ref r), some (Wo.gate g p).d, none, none, none, none] A1 = .ok true A1 := by
        simp [zG, hd]
      obtain ⟨q, A2, e2, h2, hq, hle⟩ := lesser_pl (n := 0) h1.row hp hm
      have e2' : m__law_lesser 1 [.ref r, p.d] A1 = .ok q.d A2 := e2
      have c3 : zN (m__law_lesser 1) [some (.ref r), some (Wo.gate g p).d, none, none, none, none] A1 = .rt (Wo.gate g q).d A2 := by
        generalize m__law_lesser 1 = G at e2'
        simp only [zN, e_ret, e_tup, e_cons, e_nil, e_mc, kC1_0, e_bin, e_mvS, e_mv0, kB1_0, kB2_0, hd, ix_tupU, at1, at2, e_call, kC2_0, kCall_0, e2', kTup_0, List.length_cons, List.length_nil]
        rfl
      refine ⟨.gate g q, A2, ?_, h1.trans h2, .gate g0 g1 hq, .gate hle⟩
      rw [e0, e_seq, c1, RS.nxt_nx, e_seq, e_ifS, c2, kIf_0, c3, RS.nxt_rt, finS_rt]
end
/-! ### a dict asked -/
theorem pairs_tp {M : Nat → Bool × Bool} : ∀ cs : List Nat, pairsD (cs.map (tp M)) = some (cs.map fun c : Nat => (Sum.inl (c : Int), D.str (S (ofB (M c)))))
  | [] => rfl
  | c :: cs => by
    show (match keyD (.int (c : Int)), pairsD (cs.map (tp M)) with
      | some k, some kvs => some ((k, D.str (S (ofB (M c)))) :: kvs)
      | _, _ => none) = _
    rw [pairs_tp cs]
    rfl
theorem lk_merge {M : Nat → Bool × Bool} {x : Nat} : ∀ (cs : List Nat) (acc : List (Key × D)), lkK (mergeD acc (cs.map fun c : Nat => (Sum.inl (c : Int), D.str (S (ofB (M c)))))) (.inl (x : Int)) = if x ∈ cs then some (.str (S (ofB (M x)))) else lkK acc (.inl (x : Int))
  | [], acc => by simp [mergeD]
  | c :: cs, acc => by
    show lkK (mergeD (ptK acc (.inl (c : Int)) (.str (S (ofB (M c))))) (cs.map fun c : Nat => (Sum.inl (c : Int), D.str (S (ofB (M c)))))) (.inl (x : Int)) = _
    rw [lk_merge cs, lkK_put]
    by_cases h : x ∈ cs
    · rw [if_pos h, if_pos (List.mem_cons_of_mem _ h)]
    · rw [if_neg h]
      by_cases h2 : x = c
      · subst h2
        rw [if_pos rfl, if_pos List.mem_cons_self]
      · rw [if_neg (show ¬ (Sum.inl (x : Int) : Key) = Sum.inl (c : Int) from fun z => h2 (by have := Sum.inl.inj z; omega)), if_neg (fun y => (List.mem_cons.mp y).elim h2 h)]
theorem zip_same : ∀ l : List (Key × D), (l.map (·.1)).zip (l.map (·.2)) = l
  | [] => rfl
  | p :: l => by
    rw [List.map_cons, List.map_cons, List.zip_cons_cons, zip_same l]
theorem dict_get {A : AH} {s : Sl} {M : Nat → Bool × Bool} {a b : ME} {c : Nat} (hc : c < 64) (ha : a s A = .ok (.lst (toldL M)) A) (hb : b s A = .ok (.int c) A) : mGet2 (mCall dictPD (mCons a mNil)) b (mc (.str "")) s A = .ok (.str (S (ofB (M c)))) A := by
  have e1 : dictPD [.lst (toldL M)] A = .ok (.dct ((mergeD [] (((List.range 64).filter fun c => some? (M c)).map fun c : Nat => (Sum.inl (c : Int), D.str (S (ofB (M c)))))).map (·.1)) ((mergeD [] (((List.range 64).filter fun c => some? (M c)).map fun c : Nat => (Sum.inl (c : Int), D.str (S (ofB (M c)))))).map (·.2))) A := by
    show (match (some (toldL M)).bind pairsD with
      | some kvs => R.ok (D.dct ((mergeD [] kvs).map (fun kv : Key × D => kv.1)) ((mergeD [] kvs).map (fun kv : Key × D => kv.2))) A
      | none => .bad) = _
    show (match pairsD (((List.range 64).filter fun c => some? (M c)).map (tp M)) with
      | some kvs => R.ok (D.dct ((mergeD [] kvs).map (fun kv : Key × D => kv.1)) ((mergeD [] kvs).map (fun kv : Key × D => kv.2))) A
      | none => .bad) = _
    rw [pairs_tp]
  have hlk := lk_merge (M := M) (x := c) ((List.range 64).filter fun c => some? (M c)) []
  generalize mergeD [] (((List.range 64).filter fun c => some? (M c)).map fun c : Nat => (Sum.inl (c : Int), D.str (S (ofB (M c))))) = kvs at e1 hlk
  have e2 : mCall dictPD (mCons a mNil) s A = .ok (.dct (kvs.map (·.1)) (kvs.map (·.2))) A := by
    rw [e_call, e_cons, ha, kC1_0, e_nil, kC2_0, kCall_0, e1]
  have e3 : dctD A (.dct (kvs.map (·.1)) (kvs.map (·.2))) = some kvs := by
    show some ((kvs.map (·.1)).zip (kvs.map (·.2))) = _
    rw [zip_same]
  have e4 : getD2 (.dct (kvs.map (·.1)) (kvs.map (·.2))) (.int c) (.str "") A = .ok (.str (S (ofB (M c)))) A := by
    by_cases z : some? (M c) = true
    · rw [if_pos (List.mem_filter.mpr ⟨List.mem_range.mpr hc, z⟩)] at hlk
      simp only [getD2, e3, keyD, hlk]
      rfl
    · rw [if_neg (show ¬ c ∈ (List.range 64).filter (fun c => some? (M c)) from fun y => z (List.mem_filter.mp y).2)] at hlk
      simp only [getD2, e3, keyD, hlk]
      rw [some_not z, e_emp]
      rfl
  unfold mGet2
  rw [e2, R.bind_ok, if_pos (by rw [e3]; rfl), hb, R.bind_ok]
  exact e4
/-! ### touching -/
def tY1 : MS := (mDrop (mCall m_need_state (mCons (mv 0) (mCons (mv 1) (mCons (mv 2) (mCons (mv 3) mNil))))))
def tY2 : MS := (mIfS (mOr (mNot (mTb (mCall m_is_within (mCons (mv 4) (mCons (mc (.int (0))) (mCons (mc g_CELLS) mNil)))))) (mTb (mBin ninD (mv 5) (mTup (mCons (mc (.str "g")) (mCons (mc (.str "s")) mNil)))))) mNever mNx)
def tY3 : MS := (mAsg (mMake "Found" m_Found___init__ (mCons (mv 2) (mCons (mv 3) (mCons (mc (.bl false)) mNil)))) (gmN 6))

def tYB : MS := (mIfS (mAnd (mTb (mCall m_may_touch (mCons (mv 7) (mCons (mv 4) (mCons (mv 5) mNil))))) (mTb (mBin ltD (mCall lenD (mCons (mLc (miAny (mv 8)) (gmN 9) (mTb (mBin eqD (mBin ixD (mv 9) (mc (.int (0)))) (mc (.str "get")))) (mv 9) [9] finF) mNil)) (mc g_MOST_KEYS)))) (mSeq (mAsg (mBin addD (mBin addD (mv 8) (mCall m_to_cell (mCons (mv 7) (mCons (mv 4) (mCons (mv 5) mNil))))) (mTup (mCons (mTup (mCons (mc (.str "end")) mNil)) mNil))) (gmN 6))
  (mRet (mBin addD (mv 6) (mBin mulT (mTup (mCons (mTup (mCons (mc (.str "end")) mNil)) mNil)) (mBin subD (mv 0) (mCall lenD (mCons (mv 6) mNil))))))) mNx)
def tYm : MT := (mTb (mCall m_may_touch (mCons (mv 7) (mCons (mv 4) (mCons (mv 5) mNil)))))
def tYr : MT := (mTb (mBin ltD (mCall lenD (mCons (mLc (miAny (mv 8)) (gmN 9) (mTb (mBin eqD (mBin ixD (mv 9) (mc (.int (0)))) (mc (.str "get")))) (mv 9) [9] finF) mNil)) (mc g_MOST_KEYS)))
def tYa : MS := (mAsg (mBin addD (mBin addD (mv 8) (mCall m_to_cell (mCons (mv 7) (mCons (mv 4) (mCons (mv 5) mNil))))) (mTup (mCons (mTup (mCons (mc (.str "end")) mNil)) mNil))) (gmN 6))
def tYx : MS := (mRet (mBin addD (mv 6) (mBin mulT (mTup (mCons (mTup (mCons (mc (.str "end")) mNil)) mNil)) (mBin subD (mv 0) (mCall lenD (mCons (mv 6) mNil))))))
def tY5 : MS := (mRet (mc .non))
def tYL : ME := mLc (miAny (mv 8)) (gmN 9) (mTb (mBin eqD (mBin ixD (mv 9) (mc (.int (0)))) (mc (.str "get")))) (mv 9) [9] finF
section
variable {A0 A : AH} {dc db : D} {cells boxes : List Wo} {rows rooms : Nat} {o6 o9 : Option D}
theorem tYL_ok {s : Sl} {l : List D} (hl : RowsOk l) (hn : l.length ≤ 1000) (h8 : s[8]? = some (some (.tup l))) (h9 : s.length = 10) : ∃ ys : List D, tYL s A = .ok (.lst ys) A ∧ ys.length ≤ l.length := by
  have e1 : miAny (mv 8) s A = .ok (.data l) A := by
    unfold miAny
    rw [show mv 8 s A = .ok (.tup l) A by simp only [mv, h8]]
    rfl
  have e2 : ∀ d, (wpD s [9]).set 9 (some d) = (wpD s [9]).set 9 (some d) := fun _ => rfl
  have hlen : (wpD s [9]).length = 10 := by
    show (s.set 9 none).length = 10
    rw [List.length_set, h9]
  have h2 : ∃ ps : List (Bool × D), All2 (fun d b => ∃ s1, (gmN 9) d (wpD s [9]) = some s1 ∧ (mTb (mBin eqD (mBin ixD (mv 9) (mc (.int (0)))) (mc (.str "get")))) s1 A = .ok b.1 A ∧ (b.1 = true → (mv 9) s1 A = .ok b.2 A)) l ps ∧ ps.length = l.length := by
    clear e1 h8
    induction l with
    | nil => exact ⟨[], .nil, rfl⟩
    | cons d l ih =>
      obtain ⟨ps, h1, h2⟩ := ih (fun x hx => hl x (List.mem_cons_of_mem _ hx)) (by rw [List.length_cons] at hn; omega)
      obtain ⟨z, ds, rfl⟩ := hl d List.mem_cons_self
      have hg : mv 9 ((wpD s [9]).set 9 (some (.tup (.str z :: ds)))) A = .ok (.tup (.str z :: ds)) A := by
        simp only [mv]
        rw [List.getElem?_set_self (by omega)]
      refine ⟨(Str.ofString z == Str.ofString "get", .tup (.str z :: ds)) :: ps, .cons ⟨_, rfl, ?_, fun _ => hg⟩ h1, by rw [List.length_cons, List.length_cons, h2]⟩
      rw [e_tb, e_bin, e_bin, hg, kB1_0, e_mc, kB2_0, ix_tupU, at0]
      simp
  obtain ⟨ps, h2, h3⟩ := h2
  have := lc_all (fin := finF) (g := gmN 9) (tt := mTb (mBin eqD (mBin ixD (mv 9) (mc (.int (0)))) (mc (.str "get")))) (te := mv 9) (vs := [9]) (ds := l) (ps := ps) e1 nx_data rfl (by omega) h2
  refine ⟨List.map Prod.snd (List.filter Prod.fst ps), this, ?_⟩
  rw [List.length_map, ← h3]
  exact List.length_filter_le _ _
theorem touching_ok (hdc : seqL A0 dc = some (cells.map Wo.d)) (hdb : seqL A0 db = some (boxes.map Wo.d)) (hr : rooms ≤ 12) (hrows : rows ≤ 100) (hc : ∀ w ∈ cells, w.Ok rows (64 - 4 * rooms)) (hb : ∀ w ∈ boxes, w.Ok rows (64 - 4 * rooms)) (lc : cells.length = 64 - 4 * rooms) (lb : boxes.length = 8) {c l : Nat} {z : String} (hc64 : c < 64) (hz : (z = "g" ∧ l = 103) ∨ (z = "s" ∧ l = 115)) :
    ∃ (F : List Wo) (d : D) (A1 : AH), m_touching [.int rows, .int rooms, dc, db, .int c, .str z] A0 = .ok d (A0 ++ A1) ∧ (isNon d = false → F.any (touch c l) = true) ∧ ∀ w, w ∈ F ↔ Reach false cells boxes w := by
  have ez : Str.ofString z = ⟨#[l]⟩ := by
    rcases hz with ⟨rfl, rfl⟩ | ⟨rfl, rfl⟩
    · exact k_g
    · exact k_s
  have e0 : m_touching [.int rows, .int rooms, dc, db, .int c, .str z] A0 = finS (mSeq tY1 (mSeq tY2 (mSeq tY3 (mSeq (mFor (miAny (mFld cs_words "words" (mv 6))) (gmTup 2 (gmCons (gmN 7) (gmCons (gmN 8) gmNil))) tYB) tY5))) [some (.int rows), some (.int rooms), some dc, some db, some (.int c), some (.str z), none, none, none, none] A0) := rfl
  have c1 : tY1 [some (.int rows), some (.int rooms), some dc, some db, some (.int c), some (.str z), none, none, none, none] A0 = .nx [some (.int rows), some (.int rooms), some dc, some db, some (.int c), some (.str z), none, none, none, none] A0 := drop_call rfl (state_ok hdc hdb hr hc hb lc lb)
  have c2 : tY2 [some (.int rows), some (.int rooms), some dc, some db, some (.int c), some (.str z), none, none, none, none] A0 = .nx [some (.int rows), some (.int rooms), some dc, some db, some (.int c), some (.str z), none, none, none, none] A0 := by
    have w1 := within_ok (A := A0) (show (0 : Int) ≤ (c : Int) by omega) (show (c : Int) < 64 by omega)
    rcases hz with ⟨rfl, rfl⟩ | ⟨rfl, rfl⟩
    · simp [tY2, g_CELLS, w1, nin_str]
    · simp [tY2, g_CELLS, w1, nin_str]
  obtain ⟨F, k, ws, i1, ⟨hk, hst⟩, hI, hiff⟩ := init_ok (A0 := A0) (gates := false) hdc hdb hc hb lc.symm (by omega) (by omega)
  have hlen : F.length ≤ 1000 := by
    have := hI.len
    omega
  have hF : ∀ w ∈ F, w.Ok rows (64 - 4 * rooms) ∧ w.isNum = false := fun w hw => ⟨reach_ok hc hb (hI.re w hw), (hI.re w hw).num⟩
  have c3 : tY3 [some (.int rows), some (.int rooms), some dc, some db, some (.int c), some (.str z), none, none, none, none] A0 = .nx [some (.int rows), some (.int rooms), some dc, some db, some (.int c), some (.str z), some (.ref A0.length), none, none, none] (encF A0 dc false ws) := mk_asg rfl i1
  have hl2 : ws.length = F.length := by
    have := congrArg List.length hst.f
    rwa [List.length_map] at this
  have e1 : miAny (mFld cs_words "words" (mv 6)) [some (.int rows), some (.int rooms), some dc, some db, some (.int c), some (.str z), some (.ref A0.length), none, none, none] (encF A0 dc false ws) = .ok (.ref (A0.length + 1)) (encF A0 dc false ws) := by
    refine it_ref ?_ enc_ws
    rw [e_fld, e_mvS, e_mvS, e_mvS, e_mvS, e_mvS, e_mvS, e_mv0, kF_0, f_words]
  have main := mFor_or (g := gmTup 2 (gmCons (gmN 7) (gmCons (gmN 8) gmNil))) (b := tYB) (ds := ws.map prD) (fun _ s B => B = encF A0 dc false ws ∧ ∃ o7 o8, s = [some (.int rows), some (.int rooms), some dc, some db, some (.int c), some (.str z), some (.ref A0.length), o7, o8, none])
    (fun x B => B = encF A0 dc false ws ∧ F.any (touch c l) = true) e1 (ln_ref enc_ws) ⟨rfl, none, none, rfl⟩ (fun j s B hB => by rw [hB.1]; exact nx_ref enc_ws j) (fun j d s B hj hB => by
      obtain ⟨rfl, o7, o8, rfl⟩ := hB
      rw [List.getElem?_map] at hj
      obtain ⟨x, hx, rfl⟩ := Option.map_eq_some_iff.mp hj
      have hxm := List.mem_of_getElem? hx
      have hxF : x.1 ∈ F := by rw [← hst.f]; exact List.mem_map_of_mem hxm
      obtain ⟨hxo, hxn⟩ := hF _ hxF
      have hsome := hst.s rfl x hxm
      obtain ⟨w, o⟩ := x
      cases o with
      | none => exact absurd rfl hsome
      | some ah =>
        obtain ⟨r1, r2⟩ := hst.r _ hxm ah rfl
        refine ⟨[some (.int rows), some (.int rooms), some dc, some db, some (.int c), some (.str z), some (.ref A0.length), some w.d, some (.tup ah), none], rfl, ?_⟩
        have m1 := may_ok (A := encF A0 dc false ws) (w := w) (c := (c : Int)) (l := l) hxn
        rw [← ez] at m1
        have t1 : tYm [some (.int rows), some (.int rooms), some dc, some db, some (.int c), some (.str z), some (.ref A0.length), some w.d, some (.tup ah), none] (encF A0 dc false ws) = .ok (touch c l w) (encF A0 dc false ws) := by
          simp only [tYm, e_tb, e_call, e_cons, e_nil, e_mvS, e_mv0, kC1_0, kC2_0, kCall_0, m1, kT_0]
        cases ht : touch (c : Int) l w with
        | false =>
          refine .inl ⟨_, _, ?_, rfl, some w.d, some (.tup ah), rfl⟩
          show (mIfS (mAnd tYm tYr) (mSeq tYa tYx) mNx) _ _ = _
          rw [e_ifS, e_and, t1, ht]
          rfl
        | true =>
          obtain ⟨ys, q1, q2⟩ := tYL_ok (A := encF A0 dc false ws) (s := [some (.int rows), some (.int rooms), some dc, some db, some (.int c), some (.str z), some (.ref A0.length), some w.d, some (.tup ah), none]) r2 (by omega) rfl rfl
          have t2 : tYr [some (.int rows), some (.int rooms), some dc, some db, some (.int c), some (.str z), some (.ref A0.length), some w.d, some (.tup ah), none] (encF A0 dc false ws) = .ok (decide ((ys.length : Int) < 9)) (encF A0 dc false ws) := by
            show mTb (mBin ltD (mCall lenD (mCons tYL mNil)) (mc g_MOST_KEYS)) _ _ = _
            rw [e_tb, e_bin, e_call, e_cons, q1, kC1_0, e_nil, kC2_0, kCall_0, len_frz, kB1_0, e_mc, kB2_0]
            simp [g_MOST_KEYS]
          by_cases h9 : (ys.length : Int) < 9
          · cases w with
            | gate g p => cases ht
            | pl p =>
              cases p with
              | num i => cases ht
              | key b e a r =>
                have ha : -10000 ≤ a ∧ a < 10000 := by
                  cases hxo with
                  | pl h => cases h with
                    | key _ _ _ _ h5 h6 _ => exact ⟨h5, h6⟩
                obtain ⟨tl, p1, p2, p3⟩ := to_cell_ok (b := b) (e := e) (a := a) (r := r) (c := (c : Int)) (z := z) (A := encF A0 dc false ws) (hz.elim (fun h => .inl h.1) fun h => .inr h.1) ha ⟨by omega, by omega⟩
                have a1 : addD (.tup ah) (.tup tl) (encF A0 dc false ws) = .ok (.tup (ah ++ tl)) (encF A0 dc false ws) := by
                  show (if ah.length + tl.length ≤ 16777216 then R.ok (D.tup (ah ++ tl)) (encF A0 dc false ws) else .bad) = _
                  rw [if_pos (by omega)]
                have a2 : addD (.tup (ah ++ tl)) (.tup [.tup [.str "end"]]) (encF A0 dc false ws) = .ok (.tup (ah ++ tl ++ [.tup [.str "end"]])) (encF A0 dc false ws) := by
                  show (if (ah ++ tl).length + [D.tup [.str "end"]].length ≤ 16777216 then R.ok (D.tup (ah ++ tl ++ [.tup [.str "end"]])) (encF A0 dc false ws) else .bad) = _
                  rw [if_pos (by rw [List.length_append]; simp only [List.length_cons, List.length_nil]; omega)]
                generalize hG : ah ++ tl ++ [D.tup [.str "end"]] = G at a2
                have hGl : G.length ≤ 1000 - 100 + 7 - 0 := by
                  rw [← hG, List.length_append, List.length_append]
                  simp only [List.length_cons, List.length_nil]
                  have : k ≤ 865 := by omega
                  omega
                have t3 : tYa [some (.int rows), some (.int rooms), some dc, some db, some (.int c), some (.str z), some (.ref A0.length), some (Wo.pl (.key b e a r)).d, some (.tup ah), none] (encF A0 dc false ws) = .nx [some (.int rows), some (.int rooms), some dc, some db, some (.int c), some (.str z), some (.tup G), some (Wo.pl (.key b e a r)).d, some (.tup ah), none] (encF A0 dc false ws) := by
                  have p1' : m_to_cell [(Wo.pl (.key b e a r)).d, .int c, .str z] (encF A0 dc false ws) = .ok (.tup tl) (encF A0 dc false ws) := p1
                  simp only [tYa, e_asgN, e_bin, e_mvS, e_mv0, kB1_0, e_call, e_cons, e_nil, kC1_0, kC2_0, kCall_0, p1', kB2_0, a1, e_tup, e_mc, kTup_0, List.length_cons, List.length_nil]
                  rw [if_pos (by decide), kC1_0, e_nil, kC2_0, kTup_0, if_pos (by decide), kB2_0, a2]
                  rfl
                have a3 : mulT (.tup [.tup [.str "end"]]) (.int ((rows : Int) - (G.length : Nat))) (encF A0 dc false ws) = .ok (.tup (repD ((rows : Int) - (G.length : Nat)).toNat [.tup [.str "end"]])) (encF A0 dc false ws) := by
                  show (if [D.tup [.str "end"]] ≠ [] ∧ -1000 ≤ (rows : Int) - (G.length : Nat) ∧ (rows : Int) - (G.length : Nat) ≤ 1000 ∧ [D.tup [.str "end"]].length ≤ 1000 then _ else _) = _
                  rw [if_pos ⟨by simp, by omega, by omega, by simp⟩]
                have a4 : addD (.tup G) (.tup (repD ((rows : Int) - (G.length : Nat)).toNat [.tup [.str "end"]])) (encF A0 dc false ws) = .ok (.tup (G ++ repD ((rows : Int) - (G.length : Nat)).toNat [.tup [.str "end"]])) (encF A0 dc false ws) := by
                  show (if G.length + (repD ((rows : Int) - (G.length : Nat)).toNat [D.tup [.str "end"]]).length ≤ 16777216 then R.ok (D.tup _) (encF A0 dc false ws) else .bad) = _
                  rw [if_pos (by rw [rep_one, List.length_replicate]; omega)]
                have t4 : tYx [some (.int rows), some (.int rooms), some dc, some db, some (.int c), some (.str z), some (.tup G), some (Wo.pl (.key b e a r)).d, some (.tup ah), none] (encF A0 dc false ws) = .rt (.tup (G ++ repD ((rows : Int) - (G.length : Nat)).toNat [.tup [.str "end"]])) (encF A0 dc false ws) := by
                  have hlG : lenD [.tup G] (encF A0 dc false ws) = .ok (.int G.length) (encF A0 dc false ws) := rfl
                  simp only [tYx, e_ret, e_bin, e_mvS, e_mv0, kB1_0, e_tup, e_cons, e_nil, e_mc, kC1_0, kC2_0, kTup_0, List.length_cons, List.length_nil]
                  rw [if_pos (by decide), kC1_0, e_nil, kC2_0, kTup_0, if_pos (by decide), kB1_0]
                  simp only [e_bin, e_mvS, e_mv0, kB1_0, e_call, e_cons, e_nil, kC1_0, kC2_0, kCall_0, hlG, kB2_0, o_sub, a3, a4]
                  rfl
                refine .inr ⟨.tup (G ++ repD ((rows : Int) - (G.length : Nat)).toNat [.tup [.str "end"]]), encF A0 dc false ws, ?_, rfl, List.any_eq_true.mpr ⟨_, hxF, ht⟩⟩
                show (mIfS (mAnd tYm tYr) (mSeq tYa tYx) mNx) _ _ = _
                rw [e_ifS, e_and, t1, ht, kAnd_0, t2, decide_eq_true h9, kIf_0, e_seq, t3, RS.nxt_nx, t4]
          · refine .inl ⟨_, _, ?_, rfl, some w.d, some (.tup ah), rfl⟩
            show (mIfS (mAnd tYm tYr) (mSeq tYa tYx) mNx) _ _ = _
            rw [e_ifS, e_and, t1, ht, kAnd_0, t2, decide_eq_false h9]
            rfl)
  have pre : m_touching [.int rows, .int rooms, dc, db, .int c, .str z] A0 = finS ((mFor (miAny (mFld cs_words "words" (mv 6))) (gmTup 2 (gmCons (gmN 7) (gmCons (gmN 8) gmNil))) tYB [some (.int rows), some (.int rooms), some dc, some db, some (.int c), some (.str z), some (.ref A0.length), none, none, none] (encF A0 dc false ws)).nxt tY5) := by
    rw [e0, e_seq, c1, RS.nxt_nx, e_seq, c2, RS.nxt_nx, e_seq, c3, RS.nxt_nx, e_seq]
  rcases main with ⟨s', A', q1, rfl, o7, o8, rfl⟩ | ⟨x, A', q1, rfl, q2⟩
  · refine ⟨F, .non, [.ins "Found" [("store", dc), ("gates", .bl false), ("words", .ref (A0.length + 1))], .lst (ws.map prD)], ?_, (fun h => nomatch h), hiff⟩
    rw [pre, q1, RS.nxt_nx]
    rfl
  · refine ⟨F, x, [.ins "Found" [("store", dc), ("gates", .bl false), ("words", .ref (A0.length + 1))], .lst (ws.map prD)], ?_, fun _ => q2, hiff⟩
    rw [pre, q1, RS.nxt_rt]
    rfl
end
end K21

set_option Elab.async false
set_option linter.all false
set_option maxRecDepth 100000
set_option maxHeartbeats 4000000
/-! K21Z: the law. -/
namespace K21
open PySem Tg L2
open SX (S)
theorem val_call {g : List D → AH → R D} {ma : MA} {s : Sl} {A A1 : AH} {ds : List D} {x : D} (ha : ma s A = .ok ds A) (hg : g ds A = .ok x A1) : mCall g ma s A = .ok x A1 := by
  rw [e_call, ha, kCall_0, hg]
theorem bin_ok {f : D → D → AH → R D} {a b : ME} {s : Sl} {A A1 A2 A3 : AH} {x y z : D} (ha : a s A = .ok x A1) (hb : b s A1 = .ok y A2) (hf : f x y A2 = .ok z A3) : mBin f a b s A = .ok z A3 := by
  rw [e_bin, ha, kB1_0, hb, kB2_0, hf]
theorem cons_ok {e : ME} {m : MA} {s : Sl} {A A1 A2 : AH} {d : D} {ds : List D} (h1 : e s A = .ok d A1) (h2 : m s A1 = .ok ds A2) : mCons e m s A = .ok (d :: ds) A2 := by
  rw [e_cons, h1, kC1_0, h2, kC2_0]
theorem asgT_call {g : List D → AH → R D} {ma : MA} {tg : MG} {s s2 : Sl} {A A0 A1 : AH} {ds : List D} {x : D} (ha : ma s A = .ok ds A0) (hg : g ds A0 = .ok x A1) (ht : tg x s = some s2) : mAsg (mCall g ma) tg s A = .nx s2 A1 := by
  unfold mAsg
  rw [e_call, ha, kCall_0, hg]
  show (match tg x s with
    | some s1 => RS.nx s1 A1
    | none => .bad) = _
  rw [ht]
/-! ### what reach tells, by cells and letters -/
def Rch (g : Bool) (cells boxes : List Wo) (c : Nat) (l : Nat) : Prop := ∃ w, Reach g cells boxes w ∧ touch c l w = true
def RM (g : Bool) (cells boxes : List Wo) (M : Nat → Bool × Bool) : Prop := ∀ c : Nat, ((M c).1 = true ↔ Rch g cells boxes c 103) ∧ ((M c).2 = true ↔ Rch g cells boxes c 115)
theorem rm_mk {g : Bool} {cells boxes F : List Wo} (h : ∀ w, w ∈ F ↔ Reach g cells boxes w) : RM g cells boxes (mk F) := fun c => by
  have e : ∀ l, F.any (touch c l) = true ↔ Rch g cells boxes c l := fun l => by
    rw [List.any_eq_true]
    exact ⟨fun ⟨w, a, b⟩ => ⟨w, (h w).mp a, b⟩, fun ⟨w, a, b⟩ => ⟨w, (h w).mpr a, b⟩⟩
  exact ⟨e 103, e 115⟩
theorem bool_iff {a b : Bool} (h : a = true ↔ b = true) : a = b := by
  cases a <;> cases b <;> simp_all
theorem pair_eq {p q : Bool × Bool} (h1 : p.1 = true ↔ q.1 = true) (h2 : p.2 = true ↔ q.2 = true) : p = q := by
  obtain ⟨a, b⟩ := p
  obtain ⟨c, d⟩ := q
  rw [show a = c from bool_iff h1, show b = d from bool_iff h2]
theorem rm_same {g g' : Bool} {cells boxes cells' boxes' : List Wo} {M M' : Nat → Bool × Bool} (h : RM g cells boxes M) (h' : RM g' cells' boxes' M') (e : ∀ c l, Rch g cells boxes c l ↔ Rch g' cells' boxes' c l) : toldL M = toldL M' :=
  toldL_same fun c _ => pair_eq ((h c).1.trans ((e c 103).trans (h' c).1.symm)) ((h c).2.trans ((e c 115).trans (h' c).2.symm))
theorem rch_le {g g' : Bool} {cells cells' boxes boxes' : List Wo} (hg : g' = true → g = true) (hc : ∀ (i : Nat) (w : Wo), cells'[i]? = some w → ∃ v : Wo, cells[i]? = some v ∧ WLe w v) (hb : ∀ w ∈ boxes', ∃ v ∈ boxes, WLe w v) {c l : Nat} (h : Rch g' cells' boxes' c l) : Rch g cells boxes c l := by
  obtain ⟨w, h1, h2⟩ := h
  obtain ⟨v, h3, h4⟩ := reach_le hg hc hb h1
  exact ⟨v, h3, touch_le h4 h2⟩
theorem cells_refl {cells : List Wo} : ∀ (i : Nat) (w : Wo), cells[i]? = some w → ∃ v : Wo, cells[i]? = some v ∧ WLe w v := fun i w h => ⟨w, h, .refl w⟩
theorem rch_mem {g : Bool} {cells boxes boxes' : List Wo} (h : ∀ w, w ∈ boxes ↔ w ∈ boxes') {c l : Nat} : Rch g cells boxes c l ↔ Rch g cells boxes' c l :=
  ⟨rch_le id cells_refl fun w hw => ⟨w, (h w).mp hw, .refl w⟩, rch_le id cells_refl fun w hw => ⟨w, (h w).mpr hw, .refl w⟩⟩
/-- one box alone -/
def boxOne (boxes : List Wo) (k : Nat) : List Wo := List.replicate k (.pl (.num 0)) ++ (boxes.drop k).take 1 ++ List.replicate (7 - k) (.pl (.num 0))
theorem one_mem {boxes : List Wo} {k : Nat} {w : Wo} (h : w ∈ boxOne boxes k) : w = .pl (.num 0) ∨ w ∈ boxes := by
  unfold boxOne at h
  rcases List.mem_append.mp h with h | h
  · rcases List.mem_append.mp h with h | h
    · exact .inl (List.eq_of_mem_replicate h)
    · exact .inr (List.mem_of_mem_drop (List.mem_of_mem_take h))
  · exact .inl (List.eq_of_mem_replicate h)
theorem one_in {boxes : List Wo} {k : Nat} {w : Wo} (h : boxes[k]? = some w) : w ∈ boxOne boxes k := by
  unfold boxOne
  refine List.mem_append_left _ (List.mem_append_right _ ?_)
  obtain ⟨hk, rfl⟩ := List.getElem?_eq_some_iff.mp h
  rw [List.drop_eq_getElem_cons hk, List.take_succ_cons]
  exact List.mem_cons_self
theorem one_len {boxes : List Wo} {k : Nat} (h : k < 8) (hl : boxes.length = 8) : (boxOne boxes k).length = 8 := by
  unfold boxOne
  simp only [List.length_append, List.length_replicate, List.length_take, List.length_drop]
  omega
theorem one_ok {rows most : Nat} {boxes : List Wo} {k : Nat} (h : ∀ w ∈ boxes, w.Ok rows most) : ∀ w ∈ boxOne boxes k, w.Ok rows most := fun w hw => by
  rcases one_mem hw with rfl | hw
  · exact .pl (.num (by omega) (by omega))
  · exact h w hw
theorem reach_one {g : Bool} {cells boxes : List Wo} (hl : boxes.length = 8) {w : Wo} (h : Reach g cells boxes w) : ∃ k, k < 8 ∧ Reach g cells (boxOne boxes k) w := by
  induction h with
  | box h hn =>
    obtain ⟨k, hk, rfl⟩ := List.mem_iff_getElem.mp h
    exact ⟨k, by omega, .box (one_in (List.getElem?_eq_getElem hk)) hn⟩
  | step _ hs hn ih =>
    obtain ⟨k, hk, h1⟩ := ih
    exact ⟨k, hk, .step h1 hs hn⟩
theorem rch_one {g : Bool} {cells boxes : List Wo} (hl : boxes.length = 8) {c l : Nat} : Rch g cells boxes c l ↔ ∃ k, k < 8 ∧ Rch g cells (boxOne boxes k) c l := by
  refine ⟨fun ⟨w, h1, h2⟩ => ?_, fun ⟨k, _, h⟩ => rch_le id cells_refl (fun w hw => ?_) h⟩
  · obtain ⟨k, hk, h3⟩ := reach_one hl h1
    exact ⟨k, hk, w, h3, h2⟩
  · rcases one_mem hw with rfl | hw
    · have h0 : 0 < boxes.length := by omega
      exact ⟨boxes[0], List.getElem_mem h0, .num _ _⟩
    · exact ⟨w, hw, .refl w⟩
theorem fold_or1 {c : Nat} : ∀ (Ms : List (Nat → Bool × Bool)) (p : Bool × Bool), ((Ms.foldl (fun p M => orB p (M c)) p).1 = true ↔ p.1 = true ∨ ∃ M ∈ Ms, (M c).1 = true) ∧ ((Ms.foldl (fun p M => orB p (M c)) p).2 = true ↔ p.2 = true ∨ ∃ M ∈ Ms, (M c).2 = true)
  | [], p => by simp
  | M :: Ms, p => by
    obtain ⟨h1, h2⟩ := fold_or1 (c := c) Ms (orB p (M c))
    rw [List.foldl_cons]
    refine ⟨h1.trans ?_, h2.trans ?_⟩
    · simp only [orB, Bool.or_eq_true, List.mem_cons, exists_eq_or_imp, or_assoc]
    · simp only [orB, Bool.or_eq_true, List.mem_cons, exists_eq_or_imp, or_assoc]
theorem together_one {g : Bool} {cells boxes : List Wo} {M : Nat → Bool × Bool} {Ms : List (Nat → Bool × Bool)} (hl : boxes.length = 8) (h : RM g cells boxes M) (h8 : Ms.length = 8) (hM : ∀ (k : Nat) (N : Nat → Bool × Bool), Ms[k]? = some N → RM g cells (boxOne boxes k) N) : toldL (foldM Ms) = toldL M := by
  refine toldL_same fun c _ => ?_
  obtain ⟨f1, f2⟩ := fold_or1 (c := c) Ms (false, false)
  have key : ∀ (l : Nat) (pr : Bool × Bool → Bool), (∀ (k : Nat) (N : Nat → Bool × Bool), Ms[k]? = some N → (pr (N c) = true ↔ Rch g cells (boxOne boxes k) c l)) → ((∃ N ∈ Ms, pr (N c) = true) ↔ Rch g cells boxes c l) := fun l pr hp => by
    rw [rch_one hl]
    constructor
    · rintro ⟨N, hN, e⟩
      obtain ⟨k, hk, rfl⟩ := List.mem_iff_getElem.mp hN
      exact ⟨k, by omega, (hp k _ (List.getElem?_eq_getElem hk)).mp e⟩
    · rintro ⟨k, hk, e⟩
      have hk' : k < Ms.length := by omega
      exact ⟨Ms[k], List.getElem_mem hk', (hp k _ (List.getElem?_eq_getElem hk')).mpr e⟩
  refine pair_eq (f1.trans ?_) (f2.trans ?_)
  · rw [key 103 (·.1) fun k N e => (hM k N e c).1, (h c).1]
    simp
  · rw [key 115 (·.2) fun k N e => (hM k N e c).2, (h c).2]
    simp
theorem together_le {g g' : Bool} {cells boxes cells' boxes' : List Wo} {M N : Nat → Bool × Bool} (h : RM g cells boxes M) (h' : RM g' cells' boxes' N) (e : ∀ c l, Rch g' cells' boxes' c l → Rch g cells boxes c l) : toldL (foldM [M, N]) = toldL M := by
  refine toldL_same fun c _ => ?_
  obtain ⟨f1, f2⟩ := fold_or1 (c := c) [M, N] (false, false)
  refine pair_eq (f1.trans ?_) (f2.trans ?_)
  · simp only [List.mem_cons, List.not_mem_nil, or_false, exists_eq_or_imp, exists_eq_left]
    refine ⟨fun z => ?_, fun z => .inr (.inl z)⟩
    rcases z with z | z | z
    · cases z
    · exact z
    · exact (h c).1.mpr (e c 103 ((h' c).1.mp z))
  · simp only [List.mem_cons, List.not_mem_nil, or_false, exists_eq_or_imp, exists_eq_left]
    refine ⟨fun z => ?_, fun z => .inr (.inl z)⟩
    rcases z with z | z | z
    · cases z
    · exact z
    · exact (h c).2.mpr (e c 115 ((h' c).2.mp z))
/-! ### lists compared -/
theorem dat_told (L : Nat → Bool × Bool) : datD (.lst (toldL L)) = true ∧ depD (.lst (toldL L)) ≤ 3 := by
  have h1 : datL (toldL L) = true := datL_all fun d hd => by
    obtain ⟨c, _, rfl⟩ := List.mem_map.mp hd
    simp [tp, datD, datL, (R16_ok _ (ofB_r16 (L c))).1]
  have h2 : depL (toldL L) ≤ 2 := depL_all fun d hd => by
    obtain ⟨c, _, rfl⟩ := List.mem_map.mp hd
    simp [tp, depD, depL]
  refine ⟨by simpa [datD] using h1, ?_⟩
  simp only [depD]
  omega
theorem ne_told {L M : Nat → Bool × Bool} {A : AH} (h : toldL L = toldL M) : neD (.lst (toldL L)) (.lst (toldL M)) A = .ok (.bl false) A := by
  obtain ⟨h1, h2⟩ := dat_told M
  rw [h, ne_dat (by rw [h1]; rfl) (by simp only [Bool.and_eq_true, decide_eq_true_eq]; omega), eqB_refl h1]
  rfl
/-! ### where things stand -/
structure H21 (ns : List Int) (cD : D) (cells : List Wo) (bx : Nat) (boxes : List Wo) (A : AH) : Prop where
  row : RowAt 0 ns A
  c : seqL A cD = some (cells.map Wo.d)
  b : A[bx]? = some (.lst (boxes.map Wo.d))
  b0 : bx ≠ 0
  c0 : cD ≠ .ref 0
section
variable {ns : List Int} {cD : D} {cells boxes : List Wo} {bx rows rooms : Nat} {A B : AH}
theorem H21.app (h : H21 ns cD cells bx boxes A) (l : AH) : H21 ns cD cells bx boxes (A ++ l) :=
  ⟨h.row.app l, seq_app h.c, by rw [List.getElem?_append_left (List.getElem?_eq_some_iff.mp h.b).1]; exact h.b, h.b0, h.c0⟩
theorem seq_keep {d : D} {ds : List D} {n : Nat} (h : seqL A d = some ds) (hn : d ≠ .ref n) (ho : ∀ k, k ≠ n → B[k]? = A[k]?) : seqL B d = some ds := by
  cases d with
  | ref k =>
    have hk : k ≠ n := fun e => hn (by rw [e])
    rw [seq_ref] at h ⊢
    rw [ho k hk]
    exact h
  | _ => exact h
theorem H21.dr (h : H21 ns cD cells bx boxes A) (d : Dr 0 ns A B) : H21 ns cD cells bx boxes B :=
  ⟨d.row, seq_keep h.c h.c0 d.oth, by rw [d.oth _ h.b0]; exact h.b, h.b0, h.c0⟩
theorem H21.bs (h : H21 ns cD cells bx boxes A) : seqL A (.ref bx) = some (boxes.map Wo.d) := by
  rw [seq_ref, h.b]
theorem seq_lt {n : Nat} {ds : List D} (h : seqL A (.ref n) = some ds) : n < A.length := by
  rw [seq_ref] at h
  by_cases q : n < A.length
  · exact q
  · rw [List.getElem?_eq_none_iff.mpr (Nat.le_of_not_lt q)] at h
    cases h
/-- a thing made later changes -/
theorem H21.set (h : H21 ns cD cells bx boxes A) {n : Nat} {o : AO} (h0 : n ≠ 0) (h1 : n ≠ bx) (h2 : cD ≠ .ref n) : H21 ns cD cells bx boxes (A.set n o) :=
  ⟨h.row.set h0, seq_keep h.c h2 fun k hk => List.getElem?_set_ne (Ne.symm hk), by rw [List.getElem?_set_ne h1]; exact h.b, h.b0, h.c0⟩
theorem reach_L {dc db : D} {bs : List Wo} {g : Bool} (hdc : seqL A dc = some (cells.map Wo.d)) (hdb : seqL A db = some (bs.map Wo.d)) (hr : rooms ≤ 12) (hc : ∀ w ∈ cells, w.Ok rows (64 - 4 * rooms)) (hb : ∀ w ∈ bs, w.Ok rows (64 - 4 * rooms)) (lc : cells.length = 64 - 4 * rooms) (lb : bs.length = 8) :
    ∃ (M : Nat → Bool × Bool) (A1 : AH), m_reach [.int rows, .int rooms, dc, db, .bl g] A = .ok (.lst (toldL M)) (A ++ A1) ∧ RM g cells bs M := by
  obtain ⟨F, A1, e, _, h⟩ := reach_told (gates := g) hdc hdb hr hc hb lc lb
  exact ⟨mk F, A1, by rw [e, told_mk], rm_mk h⟩
theorem cut_be {ds : List D} {b e : Int} (h0 : 0 ≤ b) (h1 : b ≤ ds.length) (h2 : b ≤ e) (h3 : e ≤ ds.length) : cutD ds (some b) (some e) = (ds.drop b.toNat).take (e.toNat - b.toNat) := by
  have e1 : HT.sIx ds.length 0 (some b) = b.toNat := by
    have := HT.sIx_nat ds.length 0 b.toNat
    rw [Int.toNat_of_nonneg h0] at this
    rw [this]
    omega
  have e2 : HT.sIx ds.length ds.length (some e) = e.toNat := by
    have := HT.sIx_nat ds.length ds.length e.toNat
    rw [Int.toNat_of_nonneg (by omega)] at this
    rw [this]
    omega
  unfold cutD
  rw [e1, e2]
theorem cut_b {ds : List D} {b : Int} (h0 : 0 ≤ b) (h1 : b ≤ ds.length) : cutD ds (some b) none = ds.drop b.toNat := by
  have e1 : HT.sIx ds.length 0 (some b) = b.toNat := by
    have := HT.sIx_nat ds.length 0 b.toNat
    rw [Int.toNat_of_nonneg h0] at this
    rw [this]
    omega
  unfold cutD
  rw [e1]
  show (ds.drop b.toNat).take (ds.length - b.toNat) = _
  rw [List.take_of_length_le (by rw [List.length_drop]; omega)]
theorem cut_e {ds : List D} {e : Int} (h0 : 0 ≤ e) (h1 : e ≤ ds.length) : cutD ds none (some e) = ds.take e.toNat := by
  have e2 : HT.sIx ds.length ds.length (some e) = e.toNat := by
    have := HT.sIx_nat ds.length ds.length e.toNat
    rw [Int.toNat_of_nonneg h0] at this
    rw [this]
    omega
  unfold cutD
  rw [e2]
  rfl
theorem sl_ref {n : Nat} {ds : List D} {lo hi : Option Int} (h : A[n]? = some (.lst ds)) : slD (.ref n) lo hi A = .ok (.lst (cutD ds lo hi)) A := by
  show (match seqL A (.ref n) with
    | some ds => R.ok (D.lst (cutD ds lo hi)) A
    | none => .bad) = _
  rw [seq_ref, h]
theorem mul_zero {n : Nat} (h : n ≤ 64) : mulD (.lst [.int 0]) (.int n) A = .ok (.lst ((List.replicate n (Wo.pl (.num 0))).map Wo.d)) A := by
  have hs := small63 (i := (n : Int)) (by omega) (by omega)
  have hl : [D.int 0].length * (n : Int).toNat ≤ 16777216 := by simp; omega
  show (match lstL A (.lst [.int 0]) with
    | some ds => if -(2 ^ 63) ≤ (n : Int) ∧ (n : Int) < 2 ^ 63 ∧ ds.length * (n : Int).toNat ≤ 16777216 then R.ok (D.lst (repD (n : Int).toNat ds)) A else .bad
    | none => .bad) = _
  dsimp only [lstL]
  rw [if_pos ⟨hs.1, hs.2, hl⟩, Int.toNat_natCast, rep_one, List.map_replicate]
  rfl
theorem add_ll {a b : List D} (h : a.length + b.length ≤ 16777216) : addD (.lst a) (.lst b) A = .ok (.lst (a ++ b)) A := by
  show (if a.length + b.length ≤ 16777216 then R.ok (D.lst (a ++ b)) A else .bad) = _
  rw [if_pos h]
end
def lA : MS := (mAsg (mLstN (mCons (mv 0) (mCons (mc (.int (0))) (mCons (mc (.int (0))) (mCons (mc (.int (0))) mNil))))) (gmN 1))
def b1 : MS := (mAsg (mBin addD (mc (.int (1))) (mCall m__law_taken (mCons (mv 1) (mCons (mc (.int (60))) mNil)))) (gmN 3))
def b2 : MS := (mAsg (mCall m__law_state (mCons (mv 1) (mCons (mv 3) mNil))) (gmTup 3 (gmCons (gmN 4) (gmCons (gmN 5) (gmCons (gmN 6) gmNil)))))
def b3 : MS := (mIfS (mTb (mBin eqD (mCall m__law_taken (mCons (mv 1) (mCons (mc (.int (2))) mNil))) (mc (.int (1))))) (mAsgTS 5 (mCall m__law_chained (mCons (mv 1) (mCons (mCall lenD (mCons (mv 5) mNil)) (mCons (mv 3) mNil)))) (mv 6) (mCall m__law_taken (mCons (mv 1) (mCons (mc (.int (8))) mNil)))) mNx)
def b4 : MS := (mAsg (mBin eqD (mCall m__law_taken (mCons (mv 1) (mCons (mc (.int (2))) mNil))) (mc (.int (1)))) (gmN 7))
def b5 : MS := (mAsg (mCall m_reach (mCons (mv 3) (mCons (mv 4) (mCons (mv 5) (mCons (mv 6) (mCons (mv 7) mNil)))))) (gmN 8))
def b6 : MS := (mAsg (mLstN mNil) (gmN 9))
def b7 : MS := (mFor (mRng1 (mCons (mc (.int (8))) mNil)) (gmN 10) (mDrop (mMt "list" appD (mv 9) (mCons (mCall m_reach (mCons (mv 3) (mCons (mv 4) (mCons (mv 5) (mCons (mBin addD (mBin addD (mBin mulD (mLst (mCons (mc (.int (0))) mNil)) (mv 10)) (mSl (mv 6) (mPart (mv 10)) (mPart (mBin addD (mv 10) (mc (.int (1))))))) (mBin mulD (mLst (mCons (mc (.int (0))) mNil)) (mBin subD (mc (.int (7))) (mv 10)))) (mCons (mv 7) mNil)))))) mNil))))
def b8 : MS := (mAsg (mCall m__law_taken (mCons (mv 1) (mCons (mc (.int (8))) mNil))) (gmN 10))
def b9 : MS := (mIfS (mTb (mBin neD (mCall m__law_together (mCons (mv 9) mNil)) (mv 8))) (mRet (mc (.bl false))) mNx)
def b10 : MS := (mIfS (mTb (mBin neD (mCall m_reach (mCons (mv 3) (mCons (mv 4) (mCons (mv 5) (mCons (mBin addD (mSl (mv 6) (mPart (mv 10)) mNoPart) (mSl (mv 6) mNoPart (mPart (mv 10)))) (mCons (mv 7) mNil)))))) (mv 8))) (mRet (mc (.bl false))) mNx)
def b11 : MS := (mAsg (mCall m_reach (mCons (mv 3) (mCons (mv 4) (mCons (mv 5) (mCons (mv 6) (mCons (mc (.bl false)) mNil)))))) (gmN 11))
def b12 : MS := (mAsg (mLc (miAny (mLst (mCons (mv 5) (mCons (mv 6) mNil)))) (gmN 16) mYes (mLc (miAny (mv 16)) (gmN 17) mYes (mCall (m__law_lesser 2) (mCons (mv 1) (mCons (mv 17) mNil))) [17] finF) [16] finF) (gmN 12))
def b13 : MS := (mAsg (mCall m_reach (mCons (mv 3) (mCons (mv 4) (mCons (mBin ixD (mv 12) (mc (.int (0)))) (mCons (mBin ixD (mv 12) (mc (.int (1)))) (mCons (mv 7) mNil)))))) (gmN 13))
def b14 : MS := (mIfS (mOr (mTb (mBin neD (mCall m__law_together (mCons (mLst (mCons (mv 8) (mCons (mv 13) mNil))) mNil)) (mv 8))) (mTb (mBin neD (mCall m__law_together (mCons (mLst (mCons (mv 8) (mCons (mv 11) mNil))) mNil)) (mIf (mTb (mv 7)) (mv 8) (mv 11))))) (mRet (mc (.bl false))) mNx)
def b15 : MS := (mPar [14, 15] (mCons (mCall m__law_taken (mCons (mv 1) (mCons (mc (.int (64))) mNil))) (mCons (mBin ixD (mLst (mCons (mc (.str "g")) (mCons (mc (.str "s")) mNil))) (mCall m__law_taken (mCons (mv 1) (mCons (mc (.int (2))) mNil)))) mNil)))
def b16 : MS := (mIfS (mAnd (mTb (mBin isntD (mCall m_touching (mCons (mv 3) (mCons (mv 4) (mCons (mv 5) (mCons (mv 6) (mCons (mv 14) (mCons (mv 15) mNil))))))) (mc .non))) (mTb (mBin ninD (mv 15) (mGet2 (mCall dictPD (mCons (mv 11) mNil)) (mv 14) (mc (.str "")))))) (mRet (mc (.bl false))) mNx)

def bA : MS := (mDrop (mMt "list" appD (mv 9) (mCons (mCall m_reach (mCons (mv 3) (mCons (mv 4) (mCons (mv 5) (mCons (mBin addD (mBin addD (mBin mulD (mLst (mCons (mc (.int (0))) mNil)) (mv 10)) (mSl (mv 6) (mPart (mv 10)) (mPart (mBin addD (mv 10) (mc (.int (1))))))) (mBin mulD (mLst (mCons (mc (.int (0))) mNil)) (mBin subD (mc (.int (7))) (mv 10)))) (mCons (mv 7) mNil)))))) mNil)))
def bAr : MA := (mCons (mv 3) (mCons (mv 4) (mCons (mv 5) (mCons (mBin addD (mBin addD (mBin mulD (mLst (mCons (mc (.int (0))) mNil)) (mv 10)) (mSl (mv 6) (mPart (mv 10)) (mPart (mBin addD (mv 10) (mc (.int (1))))))) (mBin mulD (mLst (mCons (mc (.int (0))) mNil)) (mBin subD (mc (.int (7))) (mv 10)))) (mCons (mv 7) mNil)))))
def bE : ME := (mBin addD (mBin addD (mBin mulD (mLst (mCons (mc (.int (0))) mNil)) (mv 10)) (mSl (mv 6) (mPart (mv 10)) (mPart (mBin addD (mv 10) (mc (.int (1))))))) (mBin mulD (mLst (mCons (mc (.int (0))) mNil)) (mBin subD (mc (.int (7))) (mv 10))))
def bR10 : ME := (mCall m_reach (mCons (mv 3) (mCons (mv 4) (mCons (mv 5) (mCons (mBin addD (mSl (mv 6) (mPart (mv 10)) mNoPart) (mSl (mv 6) mNoPart (mPart (mv 10)))) (mCons (mv 7) mNil))))))
def bR10a : MA := (mCons (mv 3) (mCons (mv 4) (mCons (mv 5) (mCons (mBin addD (mSl (mv 6) (mPart (mv 10)) mNoPart) (mSl (mv 6) mNoPart (mPart (mv 10)))) (mCons (mv 7) mNil)))))
def lI : ME := (mLc (miAny (mv 16)) (gmN 17) mYes (mCall (m__law_lesser 2) (mCons (mv 1) (mCons (mv 17) mNil))) [17] finF)
def lO : ME := (mLc (miAny (mLst (mCons (mv 5) (mCons (mv 6) mNil)))) (gmN 16) mYes (mLc (miAny (mv 16)) (gmN 17) mYes (mCall (m__law_lesser 2) (mCons (mv 1) (mCons (mv 17) mNil))) [17] finF) [16] finF)
def bT : MT := (mTb (mBin isntD (mCall m_touching (mCons (mv 3) (mCons (mv 4) (mCons (mv 5) (mCons (mv 6) (mCons (mv 14) (mCons (mv 15) mNil))))))) (mc .non)))
def bN : MT := (mTb (mBin ninD (mv 15) (mGet2 (mCall dictPD (mCons (mv 11) mNil)) (mv 14) (mc (.str "")))))
section
variable {ns : List Int} {cD : D} {cells boxes : List Wo} {bx rows rooms al : Nat} {A B : AH} {g : Bool} {M : Nat → Bool × Bool} {o2 o8 o9 o10 o11 o12 o13 o14 o15 o16 o17 : Option D}
theorem one_args {k : Nat} (h : H21 ns cD cells bx boxes A) (lb : boxes.length = 8) (hk : k < 8) : bAr [some (.scr ns), some (.ref 0), o2, some (.int rows), some (.int rooms), some cD, some (.ref bx), some (.bl g), some (.lst (toldL M)), some (.ref al), some (.int (k : Nat)), o11, o12, o13, o14, o15, o16, o17] A = .ok [.int rows, .int rooms, cD, .lst ((boxOne boxes k).map Wo.d), .bl g] A := by
  have e1 := mul_zero (A := A) (n := k) (by omega)
  have e2 := mul_zero (A := A) (n := 7 - k) (by omega)
  have ek : (7 : Int) - (k : Int) = ((7 - k : Nat) : Int) := by omega
  have e3 : slD (.ref bx) (some (k : Int)) (some ((k : Int) + 1)) A = .ok (.lst (((boxes.drop k).take 1).map Wo.d)) A := by
    rw [sl_ref h.b, cut_be (by omega) (by rw [List.length_map]; omega) (by omega) (by rw [List.length_map]; omega), ← List.map_drop, ← List.map_take]
    have q : ((k : Int) + 1).toNat - (k : Int).toNat = 1 := by omega
    rw [q, Int.toNat_natCast]
  have hl1 : ((boxes.drop k).take 1).length ≤ 1 := by rw [List.length_take]; omega
  have e4 : addD (.lst ((List.replicate k (Wo.pl (.num 0))).map Wo.d)) (.lst (((boxes.drop k).take 1).map Wo.d)) A = .ok (.lst ((List.replicate k (Wo.pl (.num 0)) ++ (boxes.drop k).take 1).map Wo.d)) A := by
    rw [add_ll (by simp only [List.length_map, List.length_replicate]; omega), List.map_append]
  have e5 : addD (.lst ((List.replicate k (Wo.pl (.num 0)) ++ (boxes.drop k).take 1).map Wo.d)) (.lst ((List.replicate (7 - k) (Wo.pl (.num 0))).map Wo.d)) A = .ok (.lst ((boxOne boxes k).map Wo.d)) A := by
    rw [add_ll (by simp only [List.length_map, List.length_append, List.length_replicate]; omega), ← List.map_append]
    rfl
  have hL : (mLst (mCons (mc (.int (0))) mNil)) [some (.scr ns), some (.ref 0), o2, some (.int rows), some (.int rooms), some cD, some (.ref bx), some (.bl g), some (.lst (toldL M)), some (.ref al), some (.int (k : Nat)), o11, o12, o13, o14, o15, o16, o17] A = .ok (.lst [.int 0]) A := rfl
  have hS : (mSl (mv 6) (mPart (mv 10)) (mPart (mBin addD (mv 10) (mc (.int (1)))))) [some (.scr ns), some (.ref 0), o2, some (.int rows), some (.int rooms), some cD, some (.ref bx), some (.bl g), some (.lst (toldL M)), some (.ref al), some (.int (k : Nat)), o11, o12, o13, o14, o15, o16, o17] A = .ok (.lst (((boxes.drop k).take 1).map Wo.d)) A := by
    simp only [e_sl, e_mvS, e_mv0, e_part, e_bin, e_mc, kB1_0, kB2_0, kP_0, kS1_0, kS2_0, kS3_0, o_add, e3]
  have h7 : (mBin subD (mc (.int (7))) (mv 10)) [some (.scr ns), some (.ref 0), o2, some (.int rows), some (.int rooms), some cD, some (.ref bx), some (.bl g), some (.lst (toldL M)), some (.ref al), some (.int (k : Nat)), o11, o12, o13, o14, o15, o16, o17] A = .ok (.int ((7 - k : Nat) : Int)) A := by
    rw [← ek]
    rfl
  have hE : bE [some (.scr ns), some (.ref 0), o2, some (.int rows), some (.int rooms), some cD, some (.ref bx), some (.bl g), some (.lst (toldL M)), some (.ref al), some (.int (k : Nat)), o11, o12, o13, o14, o15, o16, o17] A = .ok (.lst ((boxOne boxes k).map Wo.d)) A := bin_ok (bin_ok (bin_ok hL rfl e1) hS e4) (bin_ok hL h7 e2) e5
  show (mCons (mv 3) (mCons (mv 4) (mCons (mv 5) (mCons bE (mCons (mv 7) mNil))))) [some (.scr ns), some (.ref 0), o2, some (.int rows), some (.int rooms), some cD, some (.ref bx), some (.bl g), some (.lst (toldL M)), some (.ref al), some (.int (k : Nat)), o11, o12, o13, o14, o15, o16, o17] A = _
  exact cons_ok rfl (cons_ok rfl (cons_ok rfl (cons_ok hE (cons_ok rfl rfl))))
theorem b7_ok (h : H21 ns cD cells bx boxes A) (hal : A[al]? = some (.lst [])) (hr : rooms ≤ 12) (hc : ∀ w ∈ cells, w.Ok rows (64 - 4 * rooms)) (hb : ∀ w ∈ boxes, w.Ok rows (64 - 4 * rooms)) (lc : cells.length = 64 - 4 * rooms) (lb : boxes.length = 8) (a0 : al ≠ 0) (a1 : al ≠ bx) (a2 : cD ≠ .ref al) :
    ∃ (Ms : List (Nat → Bool × Bool)) (A' : AH) (p10 : Option D), b7 [some (.scr ns), some (.ref 0), o2, some (.int rows), some (.int rooms), some cD, some (.ref bx), some (.bl g), some (.lst (toldL M)), some (.ref al), o10, o11, o12, o13, o14, o15, o16, o17] A = .nx [some (.scr ns), some (.ref 0), o2, some (.int rows), some (.int rooms), some cD, some (.ref bx), some (.bl g), some (.lst (toldL M)), some (.ref al), p10, o11, o12, o13, o14, o15, o16, o17] A' ∧ H21 ns cD cells bx boxes A' ∧ A'[al]? = some (.lst (Ms.map fun M => .lst (toldL M))) ∧ Ms.length = 8 ∧ ∀ (k : Nat) (N : Nat → Bool × Bool), Ms[k]? = some N → RM g cells (boxOne boxes k) N := by
  have e1 : mRng1 (mCons (mc (.int (8))) mNil) [some (.scr ns), some (.ref 0), o2, some (.int rows), some (.int rooms), some cD, some (.ref bx), some (.bl g), some (.lst (toldL M)), some (.ref al), o10, o11, o12, o13, o14, o15, o16, o17] A = .ok (.data ((List.range 8).map fun i : Nat => D.int (i : Int))) A := rng1 (j := 8) rfl (by decide)
  obtain ⟨s', A', e2, hH, Ms, m1, m2, m3, p10, rfl⟩ := forL_at (g := gmN 10) (b := bA) (ds := (List.range 8).map fun i : Nat => D.int (i : Int)) (s := [some (.scr ns), some (.ref 0), o2, some (.int rows), some (.int rooms), some cD, some (.ref bx), some (.bl g), some (.lst (toldL M)), some (.ref al), o10, o11, o12, o13, o14, o15, o16, o17]) (A := A)
    (fun j s B => H21 ns cD cells bx boxes B ∧ ∃ Ms : List (Nat → Bool × Bool), B[al]? = some (.lst (Ms.map fun M => .lst (toldL M))) ∧ Ms.length = j ∧ (∀ (k : Nat) (N : Nat → Bool × Bool), Ms[k]? = some N → RM g cells (boxOne boxes k) N) ∧ ∃ p10, s = [some (.scr ns), some (.ref 0), o2, some (.int rows), some (.int rooms), some cD, some (.ref bx), some (.bl g), some (.lst (toldL M)), some (.ref al), p10, o11, o12, o13, o14, o15, o16, o17]) 0
    ⟨h, [], hal, rfl, fun k N e => by simp at e, o10, rfl⟩ (fun j d s B hj hB => by
      obtain ⟨q0, Ms, q1, q2, q3, p10, rfl⟩ := hB
      rw [Nat.zero_add] at q2 ⊢
      rw [List.getElem?_map] at hj
      obtain ⟨k, hk, rfl⟩ := Option.map_eq_some_iff.mp hj
      have hjl : j < 8 := by
        have := (List.getElem?_eq_some_iff.mp hk).1
        simpa using this
      rw [List.getElem?_range hjl] at hk
      cases hk
      obtain ⟨N, A1, x1, x2⟩ := reach_L (rows := rows) (rooms := rooms) (g := g) (A := B) (db := .lst ((boxOne boxes j).map Wo.d)) q0.c rfl hr hc (one_ok hb) lc (one_len hjl lb)
      have hlt := (List.getElem?_eq_some_iff.mp q1).1
      have q4 : (B ++ A1)[al]? = some (.lst (Ms.map fun M => .lst (toldL M))) := by rw [List.getElem?_append_left hlt]; exact q1
      have hty : tyMD B "list" (.ref al) = true := by
        rw [ty_list, seq_ref, q1]
        rfl
      have x3 : mCall m_reach bAr [some (.scr ns), some (.ref 0), o2, some (.int rows), some (.int rooms), some cD, some (.ref bx), some (.bl g), some (.lst (toldL M)), some (.ref al), some (.int (j : Nat)), o11, o12, o13, o14, o15, o16, o17] B = .ok (.lst (toldL N)) (B ++ A1) := val_call (one_args (k := j) q0 lb hjl) x1
      have x4 : appD (.ref al) [.lst (toldL N)] (B ++ A1) = .ok .non ((B ++ A1).set al (.lst ((Ms ++ [N]).map fun M => .lst (toldL M)))) := by
        rw [app_ref, q4]
        dsimp only
        rw [List.length_map, if_pos (by omega), List.map_append]
        rfl
      refine ⟨_, _, (B ++ A1).set al (.lst ((Ms ++ [N]).map fun M => .lst (toldL M))), rfl, ?_, (q0.app A1).set a0 a1 a2, Ms ++ [N], List.getElem?_set_self (List.getElem?_eq_some_iff.mp q4).1, by rw [List.length_append, q2]; rfl, fun k N' e => ?_, some (.int (j : Nat)), rfl⟩
      · show (mDrop (mMt "list" appD (mv 9) (mCons (mCall m_reach bAr) mNil))) [some (.scr ns), some (.ref 0), o2, some (.int rows), some (.int rooms), some cD, some (.ref bx), some (.bl g), some (.lst (toldL M)), some (.ref al), some (.int (j : Nat)), o11, o12, o13, o14, o15, o16, o17] B = _
        rw [e_drop, e_mt, show mv 9 [some (.scr ns), some (.ref 0), o2, some (.int rows), some (.int rooms), some cD, some (.ref bx), some (.bl g), some (.lst (toldL M)), some (.ref al), some (.int (j : Nat)), o11, o12, o13, o14, o15, o16, o17] B = .ok (.ref al) B from rfl, kM1_0, hty, if_pos rfl, e_cons, x3, kC1_0, e_nil, kC2_0, kM2_0, x4, kDrop_0]
      · by_cases z : k < Ms.length
        · rw [List.getElem?_append_left z] at e
          exact q3 k N' e
        · rw [List.getElem?_append_right (Nat.le_of_not_lt z)] at e
          have hk0 : k - Ms.length = 0 := by
            have := (List.getElem?_eq_some_iff.mp e).1
            simp only [List.length_cons, List.length_nil] at this
            omega
          rw [hk0] at e
          cases e
          rw [show k = j by omega]
          exact x2)
  rw [Nat.zero_add, List.length_map, List.length_range] at m2
  refine ⟨Ms, A', p10, ?_, hH, m1, m2, m3⟩
  show (mFor (mRng1 (mCons (mc (.int (8))) mNil)) (gmN 10) bA) _ _ = _
  rw [mFor_data e1]
  exact e2
theorem aux_vs {Q : Nat → Wo → Prop} : ∀ (ys : List D), (∀ (j : Nat) (y : D), ys[j]? = some y → ∃ v : Wo, y = v.d ∧ Q j v) → ∃ vs : List Wo, ys = vs.map Wo.d ∧ ∀ (j : Nat) (v : Wo), vs[j]? = some v → Q j v
  | [], _ => ⟨[], rfl, fun j v e => by simp at e⟩
  | y :: ys, h => by
    obtain ⟨v, rfl, hv⟩ := h 0 y rfl
    obtain ⟨vs, rfl, hvs⟩ := aux_vs (Q := fun j v => Q (j + 1) v) ys fun j y e => h (j + 1) y (by simpa using e)
    refine ⟨v :: vs, rfl, fun j u e => ?_⟩
    cases j with
    | zero =>
      cases (show some v = some u from e)
      exact hv
    | succ j => exact hvs j u (by simpa using e)
/-- lesser words of a list -/
theorem lI_ok {s : Sl} {d : D} {ws : List Wo} {most : Nat} (hrow : RowAt 0 ns A) (hs : s.length = 18) (h1 : s[1]? = some (some (.ref 0))) (h16 : s[16]? = some (some d)) (hd : seqL A d = some (ws.map Wo.d)) (hd0 : d ≠ .ref 0) (hw : ∀ w ∈ ws, w.Ok rows most) (hm : most ≤ 64) (hl : ws.length ≤ 1000) :
    ∃ (vs : List Wo) (A' : AH), lI s A = .ok (.lst (vs.map Wo.d)) A' ∧ Dr 0 ns A A' ∧ vs.length = ws.length ∧ (∀ v ∈ vs, v.Ok rows most) ∧ ∀ (i : Nat) (v : Wo), vs[i]? = some v → ∃ w : Wo, ws[i]? = some w ∧ WLe v w := by
  have hmv : mv 16 s A = .ok d A := by simp only [mv, h16]
  have hit : ∃ it, miAny (mv 16) s A = .ok it A ∧ itLen it A = (ws.map Wo.d).length ∧ ∀ j (B : AH), Dr 0 ns A B → itNext it j B = some (ws.map Wo.d)[j]? := by
    cases d with
    | lst ds =>
      cases (show some ds = _ from hd)
      refine ⟨.data (ws.map Wo.d), ?_, rfl, fun _ _ _ => rfl⟩
      unfold miAny
      rw [hmv]
      rfl
    | scr ks =>
      have e : ks.map D.int = ws.map Wo.d := Option.some.inj hd
      refine ⟨.data (ks.map .int), ?_, by rw [← e]; rfl, fun j o _ => by rw [← e]; rfl⟩
      unfold miAny
      rw [hmv]
      rfl
    | ref k =>
      have hk : k ≠ 0 := fun e => hd0 (by rw [e])
      have q : A[k]? = some (.lst (ws.map Wo.d)) := by
        rw [seq_ref] at hd
        cases z : A[k]? with
        | none =>
          rw [z] at hd
          cases hd
        | some u =>
          rw [z] at hd
          cases u with
          | lst ds => cases hd; rfl
          | _ => cases hd
      exact ⟨.ref k, it_ref hmv q, ln_ref q, fun j B hB => nx_ref (by rw [hB.oth k hk]; exact q) j⟩
    | _ => cases (show none = some _ from hd)
  obtain ⟨it, i1, i2, i3⟩ := hit
  have hw0 : (wpD s [17]).length = 18 := by
    show (s.set 17 none).length = 18
    rw [List.length_set, hs]
  obtain ⟨ys, A', e1, e2, e3, e4⟩ := lc_genR (g := gmN 17) (tt := mYes) (te := mCall (m__law_lesser 2) (mCons (mv 1) (mCons (mv 17) mNil))) (vs := [17]) (fin := finF) (fun j B => Dr 0 ns A B) (fun j y => ∃ v w : Wo, y = v.d ∧ ws[j]? = some w ∧ WLe v w ∧ v.Ok rows most) i1 i2 (by rw [List.length_map]; omega) (Dr.refl hrow) i3 (fun j d B hj hB => by
    rw [List.getElem?_map] at hj
    obtain ⟨w, hj', rfl⟩ := Option.map_eq_some_iff.mp hj
    obtain ⟨v, B', x1, x2, x3, x4⟩ := lesser_ok hB.row (hw w (List.mem_of_getElem? hj')) hm
    refine ⟨_, v.d, B', rfl, rfl, ?_, hB.trans x2, v, w, rfl, hj', x4, x3⟩
    have g1 : mv 1 ((wpD s [17]).set 17 (some w.d)) B = .ok (.ref 0) B := by
      simp only [mv]
      rw [List.getElem?_set_ne (by decide), show (wpD s [17])[1]? = s[1]? from List.getElem?_set_ne (by decide), h1]
    have g2 : mv 17 ((wpD s [17]).set 17 (some w.d)) B = .ok w.d B := by
      simp only [mv]
      rw [List.getElem?_set_self (by omega)]
    exact val_call (meth_args g1 g2) x1)
  obtain ⟨vs, rfl, hvs⟩ := aux_vs (Q := fun j v => ∃ w : Wo, ws[j]? = some w ∧ WLe v w ∧ v.Ok rows most) ys (fun j y hy => by
    obtain ⟨v, w, z1, z2⟩ := e4 j y hy
    exact ⟨v, z1, w, z2⟩)
  rw [List.length_map, List.length_map] at e3
  refine ⟨vs, A', e1, e2, e3, fun v hv => ?_, fun i v hv => ?_⟩
  · obtain ⟨i, hi, rfl⟩ := List.mem_iff_getElem.mp hv
    obtain ⟨w, _, _, z⟩ := hvs i _ (List.getElem?_eq_getElem hi)
    exact z
  · obtain ⟨w, z1, z2, _⟩ := hvs i v hv
    exact ⟨w, z1, z2⟩
theorem lO_ok {s : Sl} {most : Nat} (h : H21 ns cD cells bx boxes A) (hs : s.length = 18) (h1 : s[1]? = some (some (.ref 0))) (h5 : s[5]? = some (some cD)) (h6 : s[6]? = some (some (.ref bx))) (hc : ∀ w ∈ cells, w.Ok rows most) (hb : ∀ w ∈ boxes, w.Ok rows most) (hm : most ≤ 64) (lc : cells.length ≤ 1000) (lb : boxes.length ≤ 1000) :
    ∃ (cs bs : List Wo) (A' : AH), lO s A = .ok (.lst [.lst (cs.map Wo.d), .lst (bs.map Wo.d)]) A' ∧ H21 ns cD cells bx boxes A' ∧ cs.length = cells.length ∧ bs.length = boxes.length ∧ (∀ v ∈ cs, v.Ok rows most) ∧ (∀ v ∈ bs, v.Ok rows most) ∧
      (∀ (i : Nat) (v : Wo), cs[i]? = some v → ∃ w : Wo, cells[i]? = some w ∧ WLe v w) ∧ ∀ (i : Nat) (v : Wo), bs[i]? = some v → ∃ w : Wo, boxes[i]? = some w ∧ WLe v w := by
  have e1 : miAny (mLst (mCons (mv 5) (mCons (mv 6) mNil))) s A = .ok (.data [cD, .ref bx]) A := by
    have g1 : mv 5 s A = .ok cD A := by simp only [mv, h5]
    have g2 : mv 6 s A = .ok (.ref bx) A := by simp only [mv, h6]
    unfold miAny
    rw [e_lst, meth_args g1 g2]
    rfl
  have hw0 : (wpD s [16]).length = 18 := by
    show (s.set 16 none).length = 18
    rw [List.length_set, hs]
  have sl : ∀ d : D, ((wpD s [16]).set 16 (some d)).length = 18 ∧ ((wpD s [16]).set 16 (some d))[1]? = some (some (.ref 0)) ∧ ((wpD s [16]).set 16 (some d))[16]? = some (some d) := fun d => by
    refine ⟨by rw [List.length_set, hw0], ?_, List.getElem?_set_self (by omega)⟩
    rw [List.getElem?_set_ne (by decide), show (wpD s [16])[1]? = s[1]? from List.getElem?_set_ne (by decide), h1]
  obtain ⟨cs, A1, x1, x2, x3, x4, x5⟩ := lI_ok (ws := cells) (most := most) h.row (sl cD).1 (sl cD).2.1 (sl cD).2.2 h.c h.c0 hc hm lc
  have hH1 := h.dr x2
  have hb0 : D.ref bx ≠ .ref 0 := fun e => h.b0 (by cases e; rfl)
  obtain ⟨bs, A2, y1, y2, y3, y4, y5⟩ := lI_ok (ws := boxes) (most := most) hH1.row (sl (.ref bx)).1 (sl (.ref bx)).2.1 (sl (.ref bx)).2.2 hH1.bs hb0 hb hm lb
  refine ⟨cs, bs, A2, ?_, hH1.dr y2, x3, y3, x4, y4, x5, y5⟩
  have e2 : lO s A = mLc (miAny (mLst (mCons (mv 5) (mCons (mv 6) mNil)))) (gmN 16) mYes lI [16] finF s A := rfl
  rw [e2, mLc_of e1 (by simp)]
  have z1 : gmN 16 cD (wpD s [16]) = some ((wpD s [16]).set 16 (some cD)) := rfl
  have z2 : gmN 16 (.ref bx) (wpD s [16]) = some ((wpD s [16]).set 16 (some (.ref bx))) := rfl
  have z3 : ∀ s A, mYes s A = .ok true A := fun _ _ => rfl
  unfold lcL
  rw [z1]
  dsimp only
  rw [z3, R.bindN_ok, if_pos rfl, x1, R.bindN_ok]
  unfold lcL
  rw [z2]
  dsimp only
  rw [z3, R.bindN_ok, if_pos rfl, y1, R.bindN_ok]
  rfl
end
end K21

set_option Elab.async false
set_option linter.all false
set_option maxRecDepth 100000
set_option maxHeartbeats 4000000
/-! K21L: the law, joined. -/
namespace K21
open PySem Tg L2
open SX (S)
theorem if_nx {t : ME} {a : MS} {s : Sl} {A A1 : AH} (h : t s A = .ok (.bl false) A1) : mIfS (mTb t) a mNx s A = .nx s A1 := by
  rw [e_ifS, e_tb, h, kT_0, kIf_1, e_nx]
def bX14 : ME := (mBin neD (mCall m__law_together (mCons (mLst (mCons (mv 8) (mCons (mv 13) mNil))) mNil)) (mv 8))
def bY14 : ME := (mBin neD (mCall m__law_together (mCons (mLst (mCons (mv 8) (mCons (mv 11) mNil))) mNil)) (mIf (mTb (mv 7)) (mv 8) (mv 11)))
def bA14 : MS := (mRet (mc (.bl false)))
def bA9 : MS := (mRet (mc (.bl false)))
def bA10 : MS := (mRet (mc (.bl false)))
def bA16 : MS := (mRet (mc (.bl false)))
def b3T : ME := (mBin eqD (mCall m__law_taken (mCons (mv 1) (mCons (mc (.int (2))) mNil))) (mc (.int (1))))
def b3A : MS := (mAsgTS 5 (mCall m__law_chained (mCons (mv 1) (mCons (mCall lenD (mCons (mv 5) mNil)) (mCons (mv 3) mNil)))) (mv 6) (mCall m__law_taken (mCons (mv 1) (mCons (mc (.int (8))) mNil))))
def bTail : MS := (mSeq b4 (mSeq b5 (mSeq b6 (mSeq b7 (mSeq b8 (mSeq b9 (mSeq b10 (mSeq b11 (mSeq b12 (mSeq b13 (mSeq b14 (mSeq b15 b16))))))))))))
def bAll : MS := mSeq b1 (mSeq b2 (mSeq b3 bTail))
def lG : MS := mFor (mRng1 (mCons (mc (.int (3))) mNil)) (gmN 2) bAll
section
variable {ns : List Int} {cD : D} {cells boxes : List Wo} {bx rows rooms : Nat} {A : AH} {o2 o3 o4 o5 o6 o7 o8 o9 o10 o11 o12 o13 o14 o15 o16 o17 : Option D}
theorem tail_ok (h : H21 ns cD cells bx boxes A) (hrows : rows ≤ 100) (hr : rooms ≤ 12) (hc : ∀ w ∈ cells, w.Ok rows (64 - 4 * rooms)) (hb : ∀ w ∈ boxes, w.Ok rows (64 - 4 * rooms)) (lc : cells.length = 64 - 4 * rooms) (lb : boxes.length = 8) :
    ∃ (q7 q8 q9 q10 q11 q12 q13 q14 q15 q16 q17 : Option D) (A' : AH), bTail [some (.scr ns), some (.ref 0), o2, some (.int rows), some (.int rooms), some cD, some (.ref bx), o7, o8, o9, o10, o11, o12, o13, o14, o15, o16, o17] A = .nx [some (.scr ns), some (.ref 0), o2, some (.int rows), some (.int rooms), some cD, some (.ref bx), q7, q8, q9, q10, q11, q12, q13, q14, q15, q16, q17] A' ∧ RowAt 0 ns A' := by
  obtain ⟨v, A1, e4, h4, _⟩ := takenD 2 h.row ⟨by omega, by omega⟩
  have hA1 := h.dr h4
  obtain ⟨g, c4⟩ : ∃ g : Bool, b4 [some (.scr ns), some (.ref 0), o2, some (.int rows), some (.int rooms), some cD, some (.ref bx), o7, o8, o9, o10, o11, o12, o13, o14, o15, o16, o17] A = .nx [some (.scr ns), some (.ref 0), o2, some (.int rows), some (.int rooms), some cD, some (.ref bx), some (.bl g), o8, o9, o10, o11, o12, o13, o14, o15, o16, o17] A1 := ⟨(v : Int) == 1, by
    simp only [b4, e_asgN, e_bin, e_call, e_cons, e_nil, e_mvS, e_mv0, e_mc, kC1_0, kC2_0, kCall_0, tk, e4, kB1_0, kB2_0, o_eqI, kAsg_0]
    rfl⟩
  obtain ⟨M, X1, e5, hM⟩ := reach_L (rows := rows) (rooms := rooms) (g := g) hA1.c hA1.bs hr hc hb lc lb
  have c5 : b5 [some (.scr ns), some (.ref 0), o2, some (.int rows), some (.int rooms), some cD, some (.ref bx), some (.bl g), o8, o9, o10, o11, o12, o13, o14, o15, o16, o17] A1 = .nx [some (.scr ns), some (.ref 0), o2, some (.int rows), some (.int rooms), some cD, some (.ref bx), some (.bl g), some (.lst (toldL M)), o9, o10, o11, o12, o13, o14, o15, o16, o17] (A1 ++ X1) := asg_call rfl e5
  have hA2 := hA1.app X1
  generalize A1 ++ X1 = A2 at c5 hA2
  have c6 : b6 [some (.scr ns), some (.ref 0), o2, some (.int rows), some (.int rooms), some cD, some (.ref bx), some (.bl g), some (.lst (toldL M)), o9, o10, o11, o12, o13, o14, o15, o16, o17] A2 = .nx [some (.scr ns), some (.ref 0), o2, some (.int rows), some (.int rooms), some cD, some (.ref bx), some (.bl g), some (.lst (toldL M)), some (.ref A2.length), o10, o11, o12, o13, o14, o15, o16, o17] (A2 ++ [.lst []]) := rfl
  have hrl := hA2.row.lt
  have hbl := (List.getElem?_eq_some_iff.mp hA2.b).1
  have ha2 : cD ≠ .ref A2.length := fun e => by
    have := hA2.c
    rw [e] at this
    exact absurd (seq_lt this) (by omega)
  obtain ⟨Ms, A3, p10, c7, hA3, m1, m2, m3⟩ := b7_ok (M := M) (al := A2.length) (o2 := o2) (o10 := o10) (o11 := o11) (o12 := o12) (o13 := o13) (o14 := o14) (o15 := o15) (o16 := o16) (o17 := o17) (g := g) (hA2.app [.lst []]) (by simp) hr hc hb lc lb (by omega) (by omega) ha2
  obtain ⟨k, A4, e8, h8, k8⟩ := takenD 8 hA3.row ⟨by omega, by omega⟩
  have c8 : b8 [some (.scr ns), some (.ref 0), o2, some (.int rows), some (.int rooms), some cD, some (.ref bx), some (.bl g), some (.lst (toldL M)), some (.ref A2.length), p10, o11, o12, o13, o14, o15, o16, o17] A3 = .nx [some (.scr ns), some (.ref 0), o2, some (.int rows), some (.int rooms), some cD, some (.ref bx), some (.bl g), some (.lst (toldL M)), some (.ref A2.length), some (.int (k : Nat)), o11, o12, o13, o14, o15, o16, o17] A4 := asg_call (ds := [.ref 0, .int 8]) rfl (by rw [tk]; exact e8)
  have hA4 := hA3.dr h8
  have m4 : A4[A2.length]? = some (.lst (Ms.map fun M => .lst (toldL M))) := by rw [h8.oth _ (by omega)]; exact m1
  obtain ⟨Y9, e9⟩ := together_ok (A := A4) (d := .ref A2.length) (Ms := Ms) (by rw [seq_ref, m4])
  have c9 : b9 [some (.scr ns), some (.ref 0), o2, some (.int rows), some (.int rooms), some cD, some (.ref bx), some (.bl g), some (.lst (toldL M)), some (.ref A2.length), some (.int (k : Nat)), o11, o12, o13, o14, o15, o16, o17] A4 = .nx [some (.scr ns), some (.ref 0), o2, some (.int rows), some (.int rooms), some cD, some (.ref bx), some (.bl g), some (.lst (toldL M)), some (.ref A2.length), some (.int (k : Nat)), o11, o12, o13, o14, o15, o16, o17] (A4 ++ [Y9]) := by
    show (mIfS (mTb (mBin neD (mCall m__law_together (mCons (mv 9) mNil)) (mv 8))) bA9 mNx) _ _ = _
    exact if_nx (bin_ok (val_call (ds := [.ref A2.length]) rfl e9) rfl (ne_told (together_one lb hM m2 m3)))
  have hA5 := hA4.app [Y9]
  generalize A4 ++ [Y9] = A5 at c9 hA5
  obtain ⟨M10, X10, e10, hM10⟩ := reach_L (rows := rows) (rooms := rooms) (g := g) (A := A5) (db := .lst ((boxes.drop k ++ boxes.take k).map Wo.d)) hA5.c rfl hr hc (fun w hw => hb w ((List.mem_append.mp hw).elim List.mem_of_mem_drop List.mem_of_mem_take)) lc (by simp only [List.length_append, List.length_drop, List.length_take]; omega)
  have c10 : b10 [some (.scr ns), some (.ref 0), o2, some (.int rows), some (.int rooms), some cD, some (.ref bx), some (.bl g), some (.lst (toldL M)), some (.ref A2.length), some (.int (k : Nat)), o11, o12, o13, o14, o15, o16, o17] A5 = .nx [some (.scr ns), some (.ref 0), o2, some (.int rows), some (.int rooms), some cD, some (.ref bx), some (.bl g), some (.lst (toldL M)), some (.ref A2.length), some (.int (k : Nat)), o11, o12, o13, o14, o15, o16, o17] (A5 ++ X10) := by
    have s1 : (mSl (mv 6) (mPart (mv 10)) mNoPart) [some (.scr ns), some (.ref 0), o2, some (.int rows), some (.int rooms), some cD, some (.ref bx), some (.bl g), some (.lst (toldL M)), some (.ref A2.length), some (.int (k : Nat)), o11, o12, o13, o14, o15, o16, o17] A5 = .ok (.lst ((boxes.drop k).map Wo.d)) A5 := by
      have : slD (.ref bx) (some (k : Int)) none A5 = .ok (.lst ((boxes.drop k).map Wo.d)) A5 := by
        rw [sl_ref hA5.b, cut_b (by omega) (by rw [List.length_map]; omega), Int.toNat_natCast, List.map_drop]
      simp only [e_sl, e_mvS, e_mv0, e_part, e_nopart, kP_0, kS1_0, kS2_0, kS3_0, this]
    have s2 : (mSl (mv 6) mNoPart (mPart (mv 10))) [some (.scr ns), some (.ref 0), o2, some (.int rows), some (.int rooms), some cD, some (.ref bx), some (.bl g), some (.lst (toldL M)), some (.ref A2.length), some (.int (k : Nat)), o11, o12, o13, o14, o15, o16, o17] A5 = .ok (.lst ((boxes.take k).map Wo.d)) A5 := by
      have : slD (.ref bx) none (some (k : Int)) A5 = .ok (.lst ((boxes.take k).map Wo.d)) A5 := by
        rw [sl_ref hA5.b, cut_e (by omega) (by rw [List.length_map]; omega), Int.toNat_natCast, List.map_take]
      simp only [e_sl, e_mvS, e_mv0, e_part, e_nopart, kP_0, kS1_0, kS2_0, kS3_0, this]
    have s3 : addD (.lst ((boxes.drop k).map Wo.d)) (.lst ((boxes.take k).map Wo.d)) A5 = .ok (.lst ((boxes.drop k ++ boxes.take k).map Wo.d)) A5 := by
      rw [add_ll (by simp only [List.length_map, List.length_drop, List.length_take]; omega), List.map_append]
    have s4 : (mBin addD (mSl (mv 6) (mPart (mv 10)) mNoPart) (mSl (mv 6) mNoPart (mPart (mv 10)))) [some (.scr ns), some (.ref 0), o2, some (.int rows), some (.int rooms), some cD, some (.ref bx), some (.bl g), some (.lst (toldL M)), some (.ref A2.length), some (.int (k : Nat)), o11, o12, o13, o14, o15, o16, o17] A5 = .ok (.lst ((boxes.drop k ++ boxes.take k).map Wo.d)) A5 := bin_ok s1 s2 s3
    show (mIfS (mTb (mBin neD (mCall m_reach (mCons (mv 3) (mCons (mv 4) (mCons (mv 5) (mCons (mBin addD (mSl (mv 6) (mPart (mv 10)) mNoPart) (mSl (mv 6) mNoPart (mPart (mv 10)))) (mCons (mv 7) mNil)))))) (mv 8))) bA10 mNx) _ _ = _
    refine if_nx (bin_ok (val_call (cons_ok rfl (cons_ok rfl (cons_ok rfl (cons_ok s4 (cons_ok rfl rfl))))) e10) rfl (ne_told (rm_same hM10 hM fun c l => rch_mem fun w => ?_)))
    rw [List.mem_append]
    refine ⟨fun h => h.elim List.mem_of_mem_drop List.mem_of_mem_take, fun h => ?_⟩
    rw [← List.take_append_drop k boxes] at h
    exact (List.mem_append.mp h).symm
  have hA6 := hA5.app X10
  generalize A5 ++ X10 = A6 at c10 hA6
  obtain ⟨N, X11, e11, hN⟩ := reach_L (rows := rows) (rooms := rooms) (g := false) (A := A6) hA6.c hA6.bs hr hc hb lc lb
  have c11 : b11 [some (.scr ns), some (.ref 0), o2, some (.int rows), some (.int rooms), some cD, some (.ref bx), some (.bl g), some (.lst (toldL M)), some (.ref A2.length), some (.int (k : Nat)), o11, o12, o13, o14, o15, o16, o17] A6 = .nx [some (.scr ns), some (.ref 0), o2, some (.int rows), some (.int rooms), some cD, some (.ref bx), some (.bl g), some (.lst (toldL M)), some (.ref A2.length), some (.int (k : Nat)), some (.lst (toldL N)), o12, o13, o14, o15, o16, o17] (A6 ++ X11) := asg_call (ds := [.int rows, .int rooms, cD, .ref bx, .bl false]) rfl e11
  have hA7 := hA6.app X11
  generalize A6 ++ X11 = A7 at c11 hA7
  obtain ⟨cs, bs, A8, e12, hA8, l12, l12b, ok12, ok12b, le12, le12b⟩ := lO_ok (s := [some (.scr ns), some (.ref 0), o2, some (.int rows), some (.int rooms), some cD, some (.ref bx), some (.bl g), some (.lst (toldL M)), some (.ref A2.length), some (.int (k : Nat)), some (.lst (toldL N)), o12, o13, o14, o15, o16, o17]) (most := 64 - 4 * rooms) hA7 rfl rfl rfl rfl hc hb (by omega) (by omega) (by omega)
  have c12 : b12 [some (.scr ns), some (.ref 0), o2, some (.int rows), some (.int rooms), some cD, some (.ref bx), some (.bl g), some (.lst (toldL M)), some (.ref A2.length), some (.int (k : Nat)), some (.lst (toldL N)), o12, o13, o14, o15, o16, o17] A7 = .nx [some (.scr ns), some (.ref 0), o2, some (.int rows), some (.int rooms), some cD, some (.ref bx), some (.bl g), some (.lst (toldL M)), some (.ref A2.length), some (.int (k : Nat)), some (.lst (toldL N)), some (.lst [.lst (cs.map Wo.d), .lst (bs.map Wo.d)]), o13, o14, o15, o16, o17] A8 := by
    show mAsg lO (gmN 12) _ _ = _
    rw [e_asgN, e12]
    rfl
  obtain ⟨L, X13, e13, hL⟩ := reach_L (rows := rows) (rooms := rooms) (g := g) (A := A8) (cells := cs) (bs := bs) (dc := .lst (cs.map Wo.d)) (db := .lst (bs.map Wo.d)) rfl rfl hr ok12 ok12b (l12.trans lc) (l12b.trans lb)
  have c13 : b13 [some (.scr ns), some (.ref 0), o2, some (.int rows), some (.int rooms), some cD, some (.ref bx), some (.bl g), some (.lst (toldL M)), some (.ref A2.length), some (.int (k : Nat)), some (.lst (toldL N)), some (.lst [.lst (cs.map Wo.d), .lst (bs.map Wo.d)]), o13, o14, o15, o16, o17] A8 = .nx [some (.scr ns), some (.ref 0), o2, some (.int rows), some (.int rooms), some cD, some (.ref bx), some (.bl g), some (.lst (toldL M)), some (.ref A2.length), some (.int (k : Nat)), some (.lst (toldL N)), some (.lst [.lst (cs.map Wo.d), .lst (bs.map Wo.d)]), some (.lst (toldL L)), o14, o15, o16, o17] (A8 ++ X13) := by
    have s1 : (mBin ixD (mv 12) (mc (.int (0)))) [some (.scr ns), some (.ref 0), o2, some (.int rows), some (.int rooms), some cD, some (.ref bx), some (.bl g), some (.lst (toldL M)), some (.ref A2.length), some (.int (k : Nat)), some (.lst (toldL N)), some (.lst [.lst (cs.map Wo.d), .lst (bs.map Wo.d)]), o13, o14, o15, o16, o17] A8 = .ok (.lst (cs.map Wo.d)) A8 := bin_ok rfl rfl (ix_lst at0)
    have s2 : (mBin ixD (mv 12) (mc (.int (1)))) [some (.scr ns), some (.ref 0), o2, some (.int rows), some (.int rooms), some cD, some (.ref bx), some (.bl g), some (.lst (toldL M)), some (.ref A2.length), some (.int (k : Nat)), some (.lst (toldL N)), some (.lst [.lst (cs.map Wo.d), .lst (bs.map Wo.d)]), o13, o14, o15, o16, o17] A8 = .ok (.lst (bs.map Wo.d)) A8 := bin_ok rfl rfl (ix_lst at1)
    exact asg_call (cons_ok rfl (cons_ok rfl (cons_ok s1 (cons_ok s2 (cons_ok rfl rfl))))) e13
  have hA9 := hA8.app X13
  generalize A8 ++ X13 = A9 at c13 hA9
  obtain ⟨Y14, e14⟩ := together_ok (A := A9) (d := .lst [.lst (toldL M), .lst (toldL L)]) (Ms := [M, L]) rfl
  obtain ⟨Y15, e15⟩ := together_ok (A := A9 ++ [Y14]) (d := .lst [.lst (toldL M), .lst (toldL N)]) (Ms := [M, N]) rfl
  have hle : ∀ c l, Rch g cs bs c l → Rch g cells boxes c l := fun c l => rch_le id le12 fun w hw => by
    obtain ⟨i, hi, rfl⟩ := List.mem_iff_getElem.mp hw
    obtain ⟨x, x1, x2⟩ := le12b i _ (List.getElem?_eq_getElem hi)
    exact ⟨x, List.mem_of_getElem? x1, x2⟩
  have hbare : ∀ c l, Rch false cells boxes c l → Rch g cells boxes c l := fun c l => rch_le (g := g) (g' := false) (fun h => Bool.noConfusion h) cells_refl fun w hw => ⟨w, hw, .refl w⟩
  have c14 : b14 [some (.scr ns), some (.ref 0), o2, some (.int rows), some (.int rooms), some cD, some (.ref bx), some (.bl g), some (.lst (toldL M)), some (.ref A2.length), some (.int (k : Nat)), some (.lst (toldL N)), some (.lst [.lst (cs.map Wo.d), .lst (bs.map Wo.d)]), some (.lst (toldL L)), o14, o15, o16, o17] A9 = .nx [some (.scr ns), some (.ref 0), o2, some (.int rows), some (.int rooms), some cD, some (.ref bx), some (.bl g), some (.lst (toldL M)), some (.ref A2.length), some (.int (k : Nat)), some (.lst (toldL N)), some (.lst [.lst (cs.map Wo.d), .lst (bs.map Wo.d)]), some (.lst (toldL L)), o14, o15, o16, o17] (A9 ++ [Y14] ++ [Y15]) := by
    have s1 : bX14 [some (.scr ns), some (.ref 0), o2, some (.int rows), some (.int rooms), some cD, some (.ref bx), some (.bl g), some (.lst (toldL M)), some (.ref A2.length), some (.int (k : Nat)), some (.lst (toldL N)), some (.lst [.lst (cs.map Wo.d), .lst (bs.map Wo.d)]), some (.lst (toldL L)), o14, o15, o16, o17] A9 = .ok (.bl false) (A9 ++ [Y14]) := bin_ok (val_call (ds := [.lst [.lst (toldL M), .lst (toldL L)]]) rfl e14) rfl (ne_told (together_le hM hL hle))
    have s2 : bY14 [some (.scr ns), some (.ref 0), o2, some (.int rows), some (.int rooms), some cD, some (.ref bx), some (.bl g), some (.lst (toldL M)), some (.ref A2.length), some (.int (k : Nat)), some (.lst (toldL N)), some (.lst [.lst (cs.map Wo.d), .lst (bs.map Wo.d)]), some (.lst (toldL L)), o14, o15, o16, o17] (A9 ++ [Y14]) = .ok (.bl false) (A9 ++ [Y14] ++ [Y15]) := by
      have t0 : (mCall m__law_together (mCons (mLst (mCons (mv 8) (mCons (mv 11) mNil))) mNil)) [some (.scr ns), some (.ref 0), o2, some (.int rows), some (.int rooms), some cD, some (.ref bx), some (.bl g), some (.lst (toldL M)), some (.ref A2.length), some (.int (k : Nat)), some (.lst (toldL N)), some (.lst [.lst (cs.map Wo.d), .lst (bs.map Wo.d)]), some (.lst (toldL L)), o14, o15, o16, o17] (A9 ++ [Y14]) = .ok (.lst (toldL (foldM [M, N]))) (A9 ++ [Y14] ++ [Y15]) := val_call (ds := [.lst [.lst (toldL M), .lst (toldL N)]]) rfl e15
      cases g with
      | true => exact bin_ok t0 rfl (ne_told (together_le hM hN hbare))
      | false => exact bin_ok t0 rfl (ne_told ((together_le hM hN hbare).trans (rm_same hM hN fun c l => Iff.rfl)))
    show (mIfS (mOr (mTb bX14) (mTb bY14)) bA14 mNx) _ _ = _
    rw [e_ifS, e_or, e_tb, s1, kT_0, kOr_1, e_tb, s2, kT_0, kIf_1, e_nx]
  have hA10 := (hA9.app [Y14]).app [Y15]
  generalize A9 ++ [Y14] ++ [Y15] = A10 at c14 hA10
  obtain ⟨c, A11, e16, h16, c64⟩ := takenD 64 hA10.row ⟨by omega, by omega⟩
  obtain ⟨u, A12, e17, h17, u2⟩ := takenD 2 h16.row ⟨by omega, by omega⟩
  have hz : ∃ (z : String) (l : Nat), ((z = "g" ∧ l = 103) ∨ (z = "s" ∧ l = 115)) ∧ atI [D.str "g", D.str "s"] (u : Int) = some (.str z) := by
    have hu : u = 0 ∨ u = 1 := by omega
    rcases hu with rfl | rfl
    · exact ⟨"g", 103, .inl ⟨rfl, rfl⟩, at0⟩
    · exact ⟨"s", 115, .inr ⟨rfl, rfl⟩, at1⟩
  obtain ⟨z, l, hzl, hz⟩ := hz
  have hA12 := (hA10.dr h16).dr h17
  have c15 : b15 [some (.scr ns), some (.ref 0), o2, some (.int rows), some (.int rooms), some cD, some (.ref bx), some (.bl g), some (.lst (toldL M)), some (.ref A2.length), some (.int (k : Nat)), some (.lst (toldL N)), some (.lst [.lst (cs.map Wo.d), .lst (bs.map Wo.d)]), some (.lst (toldL L)), o14, o15, o16, o17] A10 = .nx [some (.scr ns), some (.ref 0), o2, some (.int rows), some (.int rooms), some cD, some (.ref bx), some (.bl g), some (.lst (toldL M)), some (.ref A2.length), some (.int (k : Nat)), some (.lst (toldL N)), some (.lst [.lst (cs.map Wo.d), .lst (bs.map Wo.d)]), some (.lst (toldL L)), some (.int (c : Nat)), some (.str z), o16, o17] A12 := by
    have s1 : (mCall m__law_taken (mCons (mv 1) (mCons (mc (.int (64))) mNil))) [some (.scr ns), some (.ref 0), o2, some (.int rows), some (.int rooms), some cD, some (.ref bx), some (.bl g), some (.lst (toldL M)), some (.ref A2.length), some (.int (k : Nat)), some (.lst (toldL N)), some (.lst [.lst (cs.map Wo.d), .lst (bs.map Wo.d)]), some (.lst (toldL L)), o14, o15, o16, o17] A10 = .ok (.int (c : Int)) A11 := val_call (ds := [.ref 0, .int 64]) rfl (by rw [tk]; exact e16)
    have s2 : (mCall m__law_taken (mCons (mv 1) (mCons (mc (.int (2))) mNil))) [some (.scr ns), some (.ref 0), o2, some (.int rows), some (.int rooms), some cD, some (.ref bx), some (.bl g), some (.lst (toldL M)), some (.ref A2.length), some (.int (k : Nat)), some (.lst (toldL N)), some (.lst [.lst (cs.map Wo.d), .lst (bs.map Wo.d)]), some (.lst (toldL L)), o14, o15, o16, o17] A11 = .ok (.int (u : Int)) A12 := val_call (ds := [.ref 0, .int 2]) rfl (by rw [tk]; exact e17)
    have s3 : (mBin ixD (mLst (mCons (mc (.str "g")) (mCons (mc (.str "s")) mNil))) (mCall m__law_taken (mCons (mv 1) (mCons (mc (.int (2))) mNil)))) [some (.scr ns), some (.ref 0), o2, some (.int rows), some (.int rooms), some cD, some (.ref bx), some (.bl g), some (.lst (toldL M)), some (.ref A2.length), some (.int (k : Nat)), some (.lst (toldL N)), some (.lst [.lst (cs.map Wo.d), .lst (bs.map Wo.d)]), some (.lst (toldL L)), o14, o15, o16, o17] A11 = .ok (.str z) A12 := bin_ok (x := .lst [.str "g", .str "s"]) rfl s2 (ix_lst hz)
    show (mPar [14, 15] (mCons (mCall m__law_taken (mCons (mv 1) (mCons (mc (.int (64))) mNil))) (mCons (mBin ixD (mLst (mCons (mc (.str "g")) (mCons (mc (.str "s")) mNil))) (mCall m__law_taken (mCons (mv 1) (mCons (mc (.int (2))) mNil)))) mNil))) _ _ = _
    rw [e_par, cons_ok s1 (cons_ok s3 rfl), kPar_2]
    rfl
  obtain ⟨F, d, X16, e18, hd, hF⟩ := touching_ok (A0 := A12) (rows := rows) (rooms := rooms) (c := c) (l := l) (z := z) hA12.c hA12.bs hr hrows hc hb lc lb (by omega) hzl
  have ez : Str.ofString z = ⟨#[l]⟩ := by
    rcases hzl with ⟨rfl, rfl⟩ | ⟨rfl, rfl⟩
    · exact k_g
    · exact k_s
  have c16 : b16 [some (.scr ns), some (.ref 0), o2, some (.int rows), some (.int rooms), some cD, some (.ref bx), some (.bl g), some (.lst (toldL M)), some (.ref A2.length), some (.int (k : Nat)), some (.lst (toldL N)), some (.lst [.lst (cs.map Wo.d), .lst (bs.map Wo.d)]), some (.lst (toldL L)), some (.int (c : Nat)), some (.str z), o16, o17] A12 = .nx [some (.scr ns), some (.ref 0), o2, some (.int rows), some (.int rooms), some cD, some (.ref bx), some (.bl g), some (.lst (toldL M)), some (.ref A2.length), some (.int (k : Nat)), some (.lst (toldL N)), some (.lst [.lst (cs.map Wo.d), .lst (bs.map Wo.d)]), some (.lst (toldL L)), some (.int (c : Nat)), some (.str z), o16, o17] (A12 ++ X16) := by
    have s1 : bT [some (.scr ns), some (.ref 0), o2, some (.int rows), some (.int rooms), some cD, some (.ref bx), some (.bl g), some (.lst (toldL M)), some (.ref A2.length), some (.int (k : Nat)), some (.lst (toldL N)), some (.lst [.lst (cs.map Wo.d), .lst (bs.map Wo.d)]), some (.lst (toldL L)), some (.int (c : Nat)), some (.str z), o16, o17] A12 = .ok (!isNon d) (A12 ++ X16) := by
      show mTb (mBin isntD (mCall m_touching (mCons (mv 3) (mCons (mv 4) (mCons (mv 5) (mCons (mv 6) (mCons (mv 14) (mCons (mv 15) mNil))))))) (mc .non)) _ _ = _
      rw [e_tb, bin_ok (val_call (ds := [.int rows, .int rooms, cD, .ref bx, .int c, .str z]) rfl e18) rfl o_isnt, kT_0]
    show (mIfS (mAnd bT bN) bA16 mNx) _ _ = _
    rw [e_ifS, e_and, s1]
    cases hdn : isNon d with
    | true => rfl
    | false =>
      have hin : l ∈ ofB (N c) := by
        have hR : Rch false cells boxes c l := by
          obtain ⟨w, w1, w2⟩ := List.any_eq_true.mp (hd hdn)
          exact ⟨w, (hF w).mp w1, w2⟩
        rcases hzl with ⟨rfl, rfl⟩ | ⟨rfl, rfl⟩
        · have := (hN c).1.mpr hR
          simp [ofB, this]
        · have := (hN c).2.mpr hR
          simp [ofB, this]
      have s2 : bN [some (.scr ns), some (.ref 0), o2, some (.int rows), some (.int rooms), some cD, some (.ref bx), some (.bl g), some (.lst (toldL M)), some (.ref A2.length), some (.int (k : Nat)), some (.lst (toldL N)), some (.lst [.lst (cs.map Wo.d), .lst (bs.map Wo.d)]), some (.lst (toldL L)), some (.int (c : Nat)), some (.str z), o16, o17] (A12 ++ X16) = .ok false (A12 ++ X16) := by
        show mTb (mBin ninD (mv 15) (mGet2 (mCall dictPD (mCons (mv 11) mNil)) (mv 14) (mc (.str "")))) _ _ = _
        have t1 : ninD (.str z) (.str (S (ofB (N c)))) (A12 ++ X16) = .ok (.bl false) (A12 ++ X16) := by
          rw [ez, nin_S, decide_eq_true hin]
          rfl
        rw [e_tb, bin_ok rfl (dict_get (by omega) rfl rfl) t1, kT_0]
      rw [show (!false) = true from rfl, kAnd_0, s2, kIf_1, e_nx]
  have hA13 := hA12.app X16
  refine ⟨?x7, ?x8, ?x9, ?x10, ?x11, ?x12, ?x13, ?x14, ?x15, ?x16, ?x17, A12 ++ X16, ?goal, hA13.row⟩
  case goal =>
    show (mSeq b4 (mSeq b5 (mSeq b6 (mSeq b7 (mSeq b8 (mSeq b9 (mSeq b10 (mSeq b11 (mSeq b12 (mSeq b13 (mSeq b14 (mSeq b15 b16)))))))))))) _ _ = _
    rw [e_seq, c4, RS.nxt_nx, e_seq, c5, RS.nxt_nx, e_seq, c6, RS.nxt_nx, e_seq, c7, RS.nxt_nx, e_seq, c8, RS.nxt_nx, e_seq, c9, RS.nxt_nx, e_seq, c10, RS.nxt_nx, e_seq, c11, RS.nxt_nx, e_seq, c12, RS.nxt_nx, e_seq, c13, RS.nxt_nx, e_seq, c14, RS.nxt_nx, e_seq, c15, RS.nxt_nx]
    exact c16
theorem bAll_ok (hA0 : RowAt 0 ns A) : ∃ (q2 q3 q4 q5 q6 q7 q8 q9 q10 q11 q12 q13 q14 q15 q16 q17 : Option D) (A' : AH), bAll [some (.scr ns), some (.ref 0), o2, o3, o4, o5, o6, o7, o8, o9, o10, o11, o12, o13, o14, o15, o16, o17] A = .nx [some (.scr ns), some (.ref 0), q2, q3, q4, q5, q6, q7, q8, q9, q10, q11, q12, q13, q14, q15, q16, q17] A' ∧ RowAt 0 ns A' := by
  obtain ⟨w, A1, e1, hD1, w1⟩ := takenD 60 hA0 ⟨by omega, by omega⟩
  have c1 : b1 [some (.scr ns), some (.ref 0), o2, o3, o4, o5, o6, o7, o8, o9, o10, o11, o12, o13, o14, o15, o16, o17] A = .nx [some (.scr ns), some (.ref 0), o2, some (.int ((1 + w : Nat) : Int)), o4, o5, o6, o7, o8, o9, o10, o11, o12, o13, o14, o15, o16, o17] A1 := by
    simp [b1, tk, e1]
  obtain ⟨rooms, cells, boxes, bx, A2, e2, hrow2, r12, lc, hc, hb, lb, hbx, hbne⟩ := state_made (rows := 1 + w) hD1.row (by omega)
  have c2 : b2 [some (.scr ns), some (.ref 0), o2, some (.int ((1 + w : Nat) : Int)), o4, o5, o6, o7, o8, o9, o10, o11, o12, o13, o14, o15, o16, o17] A1 = .nx [some (.scr ns), some (.ref 0), o2, some (.int ((1 + w : Nat) : Int)), some (.int (rooms : Int)), some (.lst (cells.map Wo.d)), some (.ref bx), o7, o8, o9, o10, o11, o12, o13, o14, o15, o16, o17] A2 := asgT_call (ds := [.ref 0, .int ((1 + w : Nat) : Int)]) rfl e2 rfl
  obtain ⟨u, A3, e3, hD3, u1⟩ := takenD 2 hrow2 ⟨by omega, by omega⟩
  have hbx3 : A3[bx]? = some (.lst (boxes.map Wo.d)) := by rw [hD3.oth _ hbne, hbx]
  have cT : b3T [some (.scr ns), some (.ref 0), o2, some (.int ((1 + w : Nat) : Int)), some (.int (rooms : Int)), some (.lst (cells.map Wo.d)), some (.ref bx), o7, o8, o9, o10, o11, o12, o13, o14, o15, o16, o17] A2 = .ok (.bl ((u : Int) == 1)) A3 := by
    simp only [b3T, e_bin, e_call, e_cons, e_nil, e_mvS, e_mv0, e_mc, kC1_0, kC2_0, kCall_0, tk, e3, kB1_0, kB2_0, o_eqI]
  have c3 : ∃ (cD : D) (cellsF boxesF : List Wo) (A4 : AH), b3 [some (.scr ns), some (.ref 0), o2, some (.int ((1 + w : Nat) : Int)), some (.int (rooms : Int)), some (.lst (cells.map Wo.d)), some (.ref bx), o7, o8, o9, o10, o11, o12, o13, o14, o15, o16, o17] A2 = .nx [some (.scr ns), some (.ref 0), o2, some (.int ((1 + w : Nat) : Int)), some (.int (rooms : Int)), some cD, some (.ref bx), o7, o8, o9, o10, o11, o12, o13, o14, o15, o16, o17] A4 ∧ H21 ns cD cellsF bx boxesF A4 ∧ (∀ w' ∈ cellsF, w'.Ok (1 + w) (64 - 4 * rooms)) ∧ (∀ w' ∈ boxesF, w'.Ok (1 + w) (64 - 4 * rooms)) ∧ cellsF.length = 64 - 4 * rooms ∧ boxesF.length = 8 := by
    have pre : b3 [some (.scr ns), some (.ref 0), o2, some (.int ((1 + w : Nat) : Int)), some (.int (rooms : Int)), some (.lst (cells.map Wo.d)), some (.ref bx), o7, o8, o9, o10, o11, o12, o13, o14, o15, o16, o17] A2 = kIf b3A mNx [some (.scr ns), some (.ref 0), o2, some (.int ((1 + w : Nat) : Int)), some (.int (rooms : Int)), some (.lst (cells.map Wo.d)), some (.ref bx), o7, o8, o9, o10, o11, o12, o13, o14, o15, o16, o17] (.ok ((u : Int) == 1) A3) := by
      show (mIfS (mTb b3T) b3A mNx) _ _ = _
      rw [e_ifS, e_tb, cT, kT_0]
    by_cases hu : ((u : Int) == 1) = true
    · rw [hu] at pre
      obtain ⟨cs, first, cl, A4, e4, hrow4, lcs, hcs, hfi, hcl, hclne, ho4, hcl1, hcl2⟩ := chained_made (most := 64 - 4 * rooms) (rows := 1 + w) hD3.row ⟨by omega, by omega⟩ (by omega)
      have hbl := (List.getElem?_eq_some_iff.mp hbx3).1
      have hbx4 : A4[bx]? = some (.lst (boxes.map Wo.d)) := by rw [ho4 bx hbl hbne, hbx3]
      obtain ⟨i, A5, e5, h5, i1⟩ := takenD 8 hrow4 ⟨by omega, by omega⟩
      have hbx5 : A5[bx]? = some (.lst (boxes.map Wo.d)) := by rw [h5.oth _ hbne, hbx4]
      have hcl5 : A5[cl]? = some (.lst (cs.map Wo.d)) := by rw [h5.oth _ hclne, hcl]
      have hi : i < (boxes.map Wo.d).length := by rw [List.length_map]; omega
      have x6 : stSub (.ref bx) (.int (i : Int)) first.d A5 = some (A5.set bx (.lst ((boxes.map Wo.d).set i first.d))) := st_lst (j := 0) hbx5 hi
      refine ⟨.ref cl, cs, boxes.set i first, A5.set bx (.lst ((boxes.set i first).map Wo.d)), ?_, ⟨h5.row.set hbne, ?_, ?_, hbne, fun e => hclne (by cases e; rfl)⟩, hcs, fun x hx => ?_, lcs, by rw [List.length_set]; exact lb⟩
      · rw [pre, kIf_0]
        have t0 : (mCall m__law_chained (mCons (mv 1) (mCons (mCall lenD (mCons (mv 5) mNil)) (mCons (mv 3) mNil)))) [some (.scr ns), some (.ref 0), o2, some (.int ((1 + w : Nat) : Int)), some (.int (rooms : Int)), some (.lst (cells.map Wo.d)), some (.ref bx), o7, o8, o9, o10, o11, o12, o13, o14, o15, o16, o17] A3 = .ok (.tup [.ref cl, first.d]) A4 := val_call (ds := [.ref 0, .int ((64 - 4 * rooms : Nat) : Int), .int ((1 + w : Nat) : Int)]) (by simp [lc]) e4
        have t1 : (mCall m__law_taken (mCons (mv 1) (mCons (mc (.int (8))) mNil))) [some (.scr ns), some (.ref 0), o2, some (.int ((1 + w : Nat) : Int)), some (.int (rooms : Int)), some (.ref cl), some (.ref bx), o7, o8, o9, o10, o11, o12, o13, o14, o15, o16, o17] A4 = .ok (.int (i : Int)) A5 := val_call (ds := [.ref 0, .int 8]) rfl (by rw [tk]; exact e5)
        have t2 : mv 6 [some (.scr ns), some (.ref 0), o2, some (.int ((1 + w : Nat) : Int)), some (.int (rooms : Int)), some (.ref cl), some (.ref bx), o7, o8, o9, o10, o11, o12, o13, o14, o15, o16, o17] A4 = .ok (.ref bx) A4 := rfl
        show mAsgTS 5 (mCall m__law_chained (mCons (mv 1) (mCons (mCall lenD (mCons (mv 5) mNil)) (mCons (mv 3) mNil)))) (mv 6) (mCall m__law_taken (mCons (mv 1) (mCons (mc (.int (8))) mNil))) _ _ = _
        unfold mAsgTS
        rw [t0, R.thenS_ok]
        show ((mv 6) [some (.scr ns), some (.ref 0), o2, some (.int ((1 + w : Nat) : Int)), some (.int (rooms : Int)), some (.ref cl), some (.ref bx), o7, o8, o9, o10, o11, o12, o13, o14, o15, o16, o17] A4).thenS [some (.scr ns), some (.ref 0), o2, some (.int ((1 + w : Nat) : Int)), some (.int (rooms : Int)), some (.ref cl), some (.ref bx), o7, o8, o9, o10, o11, o12, o13, o14, o15, o16, o17] _ = _
        rw [t2, R.thenS_ok]
        show ((mCall m__law_taken (mCons (mv 1) (mCons (mc (.int (8))) mNil))) [some (.scr ns), some (.ref 0), o2, some (.int ((1 + w : Nat) : Int)), some (.int (rooms : Int)), some (.ref cl), some (.ref bx), o7, o8, o9, o10, o11, o12, o13, o14, o15, o16, o17] A4).thenS [some (.scr ns), some (.ref 0), o2, some (.int ((1 + w : Nat) : Int)), some (.int (rooms : Int)), some (.ref cl), some (.ref bx), o7, o8, o9, o10, o11, o12, o13, o14, o15, o16, o17] _ = _
        rw [t1, R.thenS_ok, x6, List.map_set]
        rfl
      · rw [seq_ref, List.getElem?_set_ne (by omega), hcl5]
      · exact List.getElem?_set_self (List.getElem?_eq_some_iff.mp hbx5).1
      · rcases List.mem_or_eq_of_mem_set hx with z1 | z1
        · exact hb x z1
        · rw [z1]
          exact hfi
    · have hu2 : ((u : Int) == 1) = false := by
        cases q : (u : Int) == 1 with
        | true => exact absurd q hu
        | false => rfl
      rw [hu2] at pre
      exact ⟨.lst (cells.map Wo.d), cells, boxes, A3, by rw [pre, kIf_1, e_nx], ⟨hD3.row, rfl, hbx3, hbne, fun e => nomatch e⟩, hc, hb, lc, lb⟩
  obtain ⟨cD, cellsF, boxesF, A4, c3, hH, hc4, hb4, lc4, lb4⟩ := c3
  obtain ⟨q7, q8, q9, q10, q11, q12, q13, q14, q15, q16, q17, A', c4, hrow⟩ := tail_ok (o2 := o2) (o7 := o7) (o8 := o8) (o9 := o9) (o10 := o10) (o11 := o11) (o12 := o12) (o13 := o13) (o14 := o14) (o15 := o15) (o16 := o16) (o17 := o17) (rows := 1 + w) (rooms := rooms) hH (by omega) r12 hc4 hb4 lc4 lb4
  refine ⟨o2, some (.int ((1 + w : Nat) : Int)), some (.int (rooms : Int)), some cD, some (.ref bx), q7, q8, q9, q10, q11, q12, q13, q14, q15, q16, q17, A', ?_, hrow⟩
  rw [show bAll = mSeq b1 (mSeq b2 (mSeq b3 bTail)) from rfl, e_seq, c1, RS.nxt_nx, e_seq, c2, RS.nxt_nx, e_seq, c3, RS.nxt_nx, c4]
end
theorem law_holds : ∀ ns : List Int, ns.length ≤ 63 → ∃ A, m_law [.scr ns] [] = .ok (.bl true) A := fun ns _ => by
  have e0 : m_law [.scr ns] [] = finS (mSeq lA (mSeq lG (mRet (mc (.bl true)))) [some (.scr ns), none, none, none, none, none, none, none, none, none, none, none, none, none, none, none, none, none] []) := rfl
  have c1 : lA [some (.scr ns), none, none, none, none, none, none, none, none, none, none, none, none, none, none, none, none, none] [] = .nx [some (.scr ns), some (.ref 0), none, none, none, none, none, none, none, none, none, none, none, none, none, none, none, none] [rowO ns 0 0 0] := by
    simp [lA, rowO]
  have h0 : RowAt 0 ns [rowO ns 0 0 0] := ⟨0, 0, 0, rfl, Int.le_refl _⟩
  obtain ⟨s', A', e, hI, q2, q3, q4, q5, q6, q7, q8, q9, q10, q11, q12, q13, q14, q15, q16, q17, rfl⟩ := forL_inv (g := gmN 2) (b := bAll) (ds := (List.range 3).map fun i : Nat => D.int (i : Int)) (s := [some (.scr ns), some (.ref 0), none, none, none, none, none, none, none, none, none, none, none, none, none, none, none, none]) (A := [rowO ns 0 0 0])
    (fun s' A' => RowAt 0 ns A' ∧ ∃ q2 q3 q4 q5 q6 q7 q8 q9 q10 q11 q12 q13 q14 q15 q16 q17, s' = [some (.scr ns), some (.ref 0), q2, q3, q4, q5, q6, q7, q8, q9, q10, q11, q12, q13, q14, q15, q16, q17])
    ⟨h0, none, none, none, none, none, none, none, none, none, none, none, none, none, none, none, none, rfl⟩ (fun d _ s B hB => by
      obtain ⟨hB1, q2, q3, q4, q5, q6, q7, q8, q9, q10, q11, q12, q13, q14, q15, q16, q17, rfl⟩ := hB
      obtain ⟨s2, s3, s4, s5, s6, s7, s8, s9, s10, s11, s12, s13, s14, s15, s16, s17, A', e, z⟩ := bAll_ok (o2 := some d) (o3 := q3) (o4 := q4) (o5 := q5) (o6 := q6) (o7 := q7) (o8 := q8) (o9 := q9) (o10 := q10) (o11 := q11) (o12 := q12) (o13 := q13) (o14 := q14) (o15 := q15) (o16 := q16) (o17 := q17) hB1
      exact ⟨_, _, A', rfl, e, z, _, _, _, _, _, _, _, _, _, _, _, _, _, _, _, _, rfl⟩)
  have e3 : lG [some (.scr ns), some (.ref 0), none, none, none, none, none, none, none, none, none, none, none, none, none, none, none, none] [rowO ns 0 0 0] = .nx [some (.scr ns), some (.ref 0), q2, q3, q4, q5, q6, q7, q8, q9, q10, q11, q12, q13, q14, q15, q16, q17] A' := by
    unfold lG
    rw [mFor_data (ds := (List.range 3).map fun i : Nat => D.int (i : Int)) (A1 := [rowO ns 0 0 0]) (rng1 (j := 3) rfl (by decide))]
    exact e
  refine ⟨A', ?_⟩
  rw [e0, e_seq, c1, RS.nxt_nx, e_seq, e3, RS.nxt_nx]
  rfl
end K21

set_option Elab.async false
set_option linter.all false
set_option maxRecDepth 100000
set_option maxHeartbeats 4000000
namespace K21
open PySem L2 Tg
theorem finE {l : PySem.W.OpenLaw} {w : World} {K : PySem.W.Frag} {mg : Str → Option Value} {fa : Addr} (hfa : mg "law" = some (.ref fa))
    (t__law_taken : TF K mg "_law_taken" "_law_taken" s__law_taken p__law_taken)
    (t__law_number : TF K mg "_law_number" "_law_number" s__law_number p__law_number)
    (t__law_rights : TF K mg "_law_rights" "_law_rights" s__law_rights p__law_rights)
    (t__law_key : TF K mg "_law_key" "_law_key" s__law_key p__law_key)
    (t__law_one : TF K mg "_law_one" "_law_one" s__law_one p__law_one)
    (t__law_nearly : TF K mg "_law_nearly" "_law_nearly" s__law_nearly p__law_nearly)
    (t__law_state : TF K mg "_law_state" "_law_state" s__law_state p__law_state)
    (t__law_chained : TF K mg "_law_chained" "_law_chained" s__law_chained p__law_chained)
    (t_is_number : TF K mg "is_number" "is_number" s_is_number p_is_number)
    (t_is_within : TF K mg "is_within" "is_within" s_is_within p_is_within)
    (t_are_rights : TF K mg "are_rights" "are_rights" s_are_rights p_are_rights)
    (t_is_key : TF K mg "is_key" "is_key" s_is_key p_is_key)
    (t_is_plain : TF K mg "is_plain" "is_plain" s_is_plain p_is_plain)
    (t_is_word : TF K mg "is_word" "is_word" s_is_word p_is_word)
    (t_need_words : TF K mg "need_words" "need_words" s_need_words p_need_words)
    (t_need_state : TF K mg "need_state" "need_state" s_need_state p_need_state)
    (t_Found_meet : TM K mg "Found" "meet" "Found.meet" s_Found_meet p_Found_meet)
    (t_kind_of : TF K mg "kind_of" "kind_of" s_kind_of p_kind_of)
    (t_to_cell : TF K mg "to_cell" "to_cell" s_to_cell p_to_cell)
    (t_Found_go_on : TM K mg "Found" "go_on" "Found.go_on" s_Found_go_on p_Found_go_on)
    (t_Found___init__ : TI K mg "Found" "Found.__init__" s_Found___init__ p_Found___init__)
    (t_may_touch : TF K mg "may_touch" "may_touch" s_may_touch p_may_touch)
    (t_Found_letters : TM K mg "Found" "letters" "Found.letters" s_Found_letters p_Found_letters)
    (t_reach : TF K mg "reach" "reach" s_reach p_reach)
    (t__law_together : TF K mg "_law_together" "_law_together" s__law_together p__law_together)
    (t__law_lesser : TF K mg "_law_lesser" "_law_lesser" s__law_lesser p__law_lesser)
    (t_touching : TF K mg "touching" "touching" s_touching p_touching)
    (t_law : TL K mg "law" s_law "_law_script")
    (g_BOXES : GDat K mg "BOXES" g_BOXES)
    (g_CELLS : GDat K mg "CELLS" g_CELLS)
    (g_GATE : GDat K mg "GATE" g_GATE)
    (g_HALF : GDat K mg "HALF" g_HALF)
    (g_KEY : GDat K mg "KEY" g_KEY)
    (g_LETTERS : GDat K mg "LETTERS" g_LETTERS)
    (g_MOST_KEYS : GDat K mg "MOST_KEYS" g_MOST_KEYS)
    (g_MOST_ROOMS : GDat K mg "MOST_ROOMS" g_MOST_ROOMS)
    (g_RIGHTS : GDat K mg "RIGHTS" g_RIGHTS)
    (g_ROOM : GDat K mg "ROOM" g_ROOM)
    (f_gates : Fds K mg cs_gates "gates")
    (f_store : Fds K mg cs_store "store")
    (f_words : Fds K mg cs_words "words")
    (z_bool : mg "bool" = none)
    (z_dict : mg "dict" = none)
    (z_int : mg "int" = none)
    (z_isinstance : mg "isinstance" = none)
    (z_len : mg "len" = none)
    (z_list : mg "list" = none)
    (z_max : mg "max" = none)
    (z_min : mg "min" = none)
    (z_range : mg "range" = none)
    (z_sorted : mg "sorted" = none)
    (z_str : mg "str" = none)
    (z_tuple : mg "tuple" = none)
    : ∃ fd : FuncData, (∀ (s : Shared) (v : Value), BindsTo s fd ⟨[v], []⟩ [("_law_script", v)]) ∧ ∀ base : Heap, K.In base → base.Ns mainGlobals mg → FnOk l.prog w K mg base (L2.CX l.prog w) 9 fa fd ["_law_script"] (spLaw K) :=
  lawEnd hfa t_law sc_law (fun base => y_law ⟨t__law_taken, t__law_number, t__law_rights, t__law_key, t__law_one, t__law_nearly, t__law_state, t__law_chained, t_is_number, t_is_within, t_are_rights, t_is_key, t_is_plain, t_is_word, t_need_words, t_need_state, t_Found_meet, t_kind_of, t_to_cell, t_Found_go_on, t_Found___init__, t_may_touch, t_Found_letters, t_reach, t__law_together, t__law_lesser, t_touching, t_law, g_BOXES, g_CELLS, g_GATE, g_HALF, g_KEY, g_LETTERS, g_MOST_KEYS, g_MOST_ROOMS, g_RIGHTS, g_ROOM, f_gates, f_store, f_words, z_bool, z_dict, z_int, z_isinstance, z_len, z_list, z_max, z_min, z_range, z_sorted, z_str, z_tuple⟩) law_holds
theorem walkE {l : PySem.W.OpenLaw} {q : Program} {loose : List Str} {XP : (Str → Option Value) → Heap → Prop} {YP : World → Heap → Prop} {d : DefRec} {K : Params → PySem.W.Frag} (hn : l.most = some 63) (hdf : d.params.defaults = [])
    (hY : ∀ (w : World) (h : Heap), YP w h → (K w.params).In h)
    (F : ∀ (w : World) (mg : Str → Option Value) (fa : Addr) (h : Heap), (K w.params).In h → h.Ns mainGlobals mg → mg d.name = some (.ref fa) →
      ∃ fd : FuncData, (∀ (s : Shared) (u : Value), BindsTo s fd ⟨[u], []⟩ [("_law_script", u)]) ∧ ∀ base : Heap, (K w.params).In base → base.Ns mainGlobals mg → FnOk l.prog w (K w.params) mg base (L2.CX l.prog w) 9 fa fd ["_law_script"] (spLaw (K w.params))) :
    PySem.W.WalkO q loose XP YP l.row.toRowW d [] (fun f vs => PySem.call f vs) :=
  L2.walk_of (n := 63) (k := 9) (x := "_law_script") (CX := fun w => L2.CX l.prog w) (sp := fun w => spLaw (K w.params)) hn (by decide) hdf ⟨rfl, by decide, by decide⟩ hY F (fun _ _ a ns hl _ hS => ⟨a, ns, rfl, hS, hl, fun _ => rfl⟩) fun w H s e s' z => cx_none z
end K21
open PySem PySem.W PyProof.Rows in
set_option maxRecDepth 100000 in
set_option maxHeartbeats 0 in
theorem PySem.Challenge.cw_tagmachine_k21_whole_each_word_by_itself_holds : PySem.Challenge.rw_tagmachine_k21_whole_each_word_by_itself.Holds := by
  w_on; o_law; k_head; (case hw => w_witness2)
  k_fill
  refine K21.walkE (l := PySem.Challenge.rw_tagmachine_k21_whole_each_word_by_itself) rfl rfl (fun w h Y => PySem.W.kIn_of Y) ?F
  case F =>
    intro w mg fa h KX G hmg
    refine' K21.finE hmg ?t__law_taken ?t__law_number ?t__law_rights ?t__law_key ?t__law_one ?t__law_nearly ?t__law_state ?t__law_chained ?t_is_number ?t_is_within ?t_are_rights ?t_is_key ?t_is_plain ?t_is_word ?t_need_words ?t_need_state ?t_Found_meet ?t_kind_of ?t_to_cell ?t_Found_go_on ?t_Found___init__ ?t_may_touch ?t_Found_letters ?t_reach ?t__law_together ?t__law_lesser ?t_touching ?t_law ?g_BOXES ?g_CELLS ?g_GATE ?g_HALF ?g_KEY ?g_LETTERS ?g_MOST_KEYS ?g_MOST_ROOMS ?g_RIGHTS ?g_ROOM ?f_gates ?f_store ?f_words ?z_bool ?z_dict ?z_int ?z_isinstance ?z_len ?z_list ?z_max ?z_min ?z_range ?z_sorted ?z_str ?z_tuple
    case t__law_taken =>
      refine' Tg.tf_of KX G ?a ?l ?c ?k ?b
      (case a => k_is)
      (case l => k_is)
      (case c => k_is)
      (case k => k_is)
      (case b => exact fun _ _ _ _ _ _ us hl => match us, hl with | [_, _], _ => rfl)
    case t__law_number =>
      refine' Tg.tf_of KX G ?a ?l ?c ?k ?b
      (case a => k_is)
      (case l => k_is)
      (case c => k_is)
      (case k => k_is)
      (case b => exact fun _ _ _ _ _ _ us hl => match us, hl with | [_], _ => rfl)
    case t__law_rights =>
      refine' Tg.tf_of KX G ?a ?l ?c ?k ?b
      (case a => k_is)
      (case l => k_is)
      (case c => k_is)
      (case k => k_is)
      (case b => exact fun _ _ _ _ _ _ us hl => match us, hl with | [_], _ => rfl)
    case t__law_key =>
      refine' Tg.tf_of KX G ?a ?l ?c ?k ?b
      (case a => k_is)
      (case l => k_is)
      (case c => k_is)
      (case k => k_is)
      (case b => exact fun _ _ _ _ _ _ us hl => match us, hl with | [_, _], _ => rfl)
    case t__law_one =>
      refine' Tg.tf_of KX G ?a ?l ?c ?k ?b
      (case a => k_is)
      (case l => k_is)
      (case c => k_is)
      (case k => k_is)
      (case b => exact fun _ _ _ _ _ _ us hl => match us, hl with | [_, _, _], _ => rfl)
    case t__law_nearly =>
      refine' Tg.tf_of KX G ?a ?l ?c ?k ?b
      (case a => k_is)
      (case l => k_is)
      (case c => k_is)
      (case k => k_is)
      (case b => exact fun _ _ _ _ _ _ us hl => match us, hl with | [_, _], _ => rfl)
    case t__law_state =>
      refine' Tg.tf_of KX G ?a ?l ?c ?k ?b
      (case a => k_is)
      (case l => k_is)
      (case c => k_is)
      (case k => k_is)
      (case b => exact fun _ _ _ _ _ _ us hl => match us, hl with | [_, _], _ => rfl)
    case t__law_chained =>
      refine' Tg.tf_of KX G ?a ?l ?c ?k ?b
      (case a => k_is)
      (case l => k_is)
      (case c => k_is)
      (case k => k_is)
      (case b => exact fun _ _ _ _ _ _ us hl => match us, hl with | [_, _, _], _ => rfl)
    case t_is_number =>
      refine' Tg.tf_of KX G ?a ?l ?c ?k ?b
      (case a => k_is)
      (case l => k_is)
      (case c => k_is)
      (case k => k_is)
      (case b => exact fun _ _ _ _ _ _ us hl => match us, hl with | [_], _ => rfl)
    case t_is_within =>
      refine' Tg.tf_of KX G ?a ?l ?c ?k ?b
      (case a => k_is)
      (case l => k_is)
      (case c => k_is)
      (case k => k_is)
      (case b => exact fun _ _ _ _ _ _ us hl => match us, hl with | [_, _, _], _ => rfl)
    case t_are_rights =>
      refine' Tg.tf_of KX G ?a ?l ?c ?k ?b
      (case a => k_is)
      (case l => k_is)
      (case c => k_is)
      (case k => k_is)
      (case b => exact fun _ _ _ _ _ _ us hl => match us, hl with | [_], _ => rfl)
    case t_is_key =>
      refine' Tg.tf_of KX G ?a ?l ?c ?k ?b
      (case a => k_is)
      (case l => k_is)
      (case c => k_is)
      (case k => k_is)
      (case b => exact fun _ _ _ _ _ _ us hl => match us, hl with | [_, _], _ => rfl)
    case t_is_plain =>
      refine' Tg.tf_of KX G ?a ?l ?c ?k ?b
      (case a => k_is)
      (case l => k_is)
      (case c => k_is)
      (case k => k_is)
      (case b => exact fun _ _ _ _ _ _ us hl => match us, hl with | [_, _], _ => rfl)
    case t_is_word =>
      refine' Tg.tf_of KX G ?a ?l ?c ?k ?b
      (case a => k_is)
      (case l => k_is)
      (case c => k_is)
      (case k => k_is)
      (case b => exact fun _ _ _ _ _ _ us hl => match us, hl with | [_, _, _], _ => rfl)
    case t_need_words =>
      refine' Tg.tf_of KX G ?a ?l ?c ?k ?b
      (case a => k_is)
      (case l => k_is)
      (case c => k_is)
      (case k => k_is)
      (case b => exact fun _ _ _ _ _ _ us hl => match us, hl with | [_, _, _, _, _], _ => rfl)
    case t_need_state =>
      refine' Tg.tf_of KX G ?a ?l ?c ?k ?b
      (case a => k_is)
      (case l => k_is)
      (case c => k_is)
      (case k => k_is)
      (case b => exact fun _ _ _ _ _ _ us hl => match us, hl with | [_, _, _, _], _ => rfl)
    case t_Found_meet =>
      refine' Tg.tm_of KX G ?a ?m ?i ?l ?c ?k ?b ?pg ?hd ?po ?sa
      (case a => k_is)
      (case m => k_is)
      (case i => k_is)
      (case l => k_is)
      (case c => k_is)
      (case k => k_is)
      (case b => exact fun _ _ _ _ _ _ us hl => match us, hl with | [_, _, _], _ => rfl)
      (case pg => k_is)
      (case hd => k_is)
      (case po => k_is)
      (case sa => k_is)
    case t_kind_of =>
      refine' Tg.tf_of KX G ?a ?l ?c ?k ?b
      (case a => k_is)
      (case l => k_is)
      (case c => k_is)
      (case k => k_is)
      (case b => exact fun _ _ _ _ _ _ us hl => match us, hl with | [_], _ => rfl)
    case t_to_cell =>
      refine' Tg.tf_of KX G ?a ?l ?c ?k ?b
      (case a => k_is)
      (case l => k_is)
      (case c => k_is)
      (case k => k_is)
      (case b => exact fun _ _ _ _ _ _ us hl => match us, hl with | [_, _, _], _ => rfl)
    case t_Found_go_on =>
      refine' Tg.tm_of KX G ?a ?m ?i ?l ?c ?k ?b ?pg ?hd ?po ?sa
      (case a => k_is)
      (case m => k_is)
      (case i => k_is)
      (case l => k_is)
      (case c => k_is)
      (case k => k_is)
      (case b => exact fun _ _ _ _ _ _ us hl => match us, hl with | [_, _, _], _ => rfl)
      (case pg => k_is)
      (case hd => k_is)
      (case po => k_is)
      (case sa => k_is)
    case t_Found___init__ =>
      refine' Tg.ti_of KX G ?a ?m ?i ?l ?c ?k ?b ?mk ?kc
      (case a => k_is)
      (case m => k_is)
      (case i => k_is)
      (case l => k_is)
      (case c => k_is)
      (case k => k_is)
      (case b => exact fun _ _ _ _ _ _ us hl => match us, hl with | [_, _, _, _], _ => rfl)
      (case mk => k_is)
      (case kc => k_is)
    case t_may_touch =>
      refine' Tg.tf_of KX G ?a ?l ?c ?k ?b
      (case a => k_is)
      (case l => k_is)
      (case c => k_is)
      (case k => k_is)
      (case b => exact fun _ _ _ _ _ _ us hl => match us, hl with | [_, _, _], _ => rfl)
    case t_Found_letters =>
      refine' Tg.tm_of KX G ?a ?m ?i ?l ?c ?k ?b ?pg ?hd ?po ?sa
      (case a => k_is)
      (case m => k_is)
      (case i => k_is)
      (case l => k_is)
      (case c => k_is)
      (case k => k_is)
      (case b => exact fun _ _ _ _ _ _ us hl => match us, hl with | [_, _], _ => rfl)
      (case pg => k_is)
      (case hd => k_is)
      (case po => k_is)
      (case sa => k_is)
    case t_reach =>
      refine' Tg.tf_of KX G ?a ?l ?c ?k ?b
      (case a => k_is)
      (case l => k_is)
      (case c => k_is)
      (case k => k_is)
      (case b => exact fun _ _ _ _ _ _ us hl => match us, hl with | [_, _, _, _, _], _ => rfl)
    case t__law_together =>
      refine' Tg.tf_of KX G ?a ?l ?c ?k ?b
      (case a => k_is)
      (case l => k_is)
      (case c => k_is)
      (case k => k_is)
      (case b => exact fun _ _ _ _ _ _ us hl => match us, hl with | [_], _ => rfl)
    case t__law_lesser =>
      refine' Tg.tf_of KX G ?a ?l ?c ?k ?b
      (case a => k_is)
      (case l => k_is)
      (case c => k_is)
      (case k => k_is)
      (case b => exact fun _ _ _ _ _ _ us hl => match us, hl with | [_, _], _ => rfl)
    case t_touching =>
      refine' Tg.tf_of KX G ?a ?l ?c ?k ?b
      (case a => k_is)
      (case l => k_is)
      (case c => k_is)
      (case k => k_is)
      (case b => exact fun _ _ _ _ _ _ us hl => match us, hl with | [_, _, _, _, _, _], _ => rfl)
    case t_law =>
      refine' Tg.tl_of KX G ?a ?l ?c ?k ?b
      (case a => k_is)
      (case l => k_is)
      (case c => k_is)
      (case k => k_is)
      (case b => exact fun _ _ _ _ _ _ us hl => match us, hl with | [_], _ => rfl)
    case g_BOXES =>
      refine' Tg.gint (PySem.W.mg_of KX G ?a)
      (case a => k_is)
    case g_CELLS =>
      refine' Tg.gint (PySem.W.mg_of KX G ?a)
      (case a => k_is)
    case g_GATE =>
      refine' Tg.gstr (PySem.W.mg_of KX G ?a)
      (case a => k_is)
    case g_HALF =>
      refine' Tg.gint (PySem.W.mg_of KX G ?a)
      (case a => k_is)
    case g_KEY =>
      refine' Tg.gstr (PySem.W.mg_of KX G ?a)
      (case a => k_is)
    case g_LETTERS =>
      refine' Tg.gstr (PySem.W.mg_of KX G ?a)
      (case a => k_is)
    case g_MOST_KEYS =>
      refine' Tg.gint (PySem.W.mg_of KX G ?a)
      (case a => k_is)
    case g_MOST_ROOMS =>
      refine' Tg.gint (PySem.W.mg_of KX G ?a)
      (case a => k_is)
    case g_RIGHTS =>
      refine' Tg.gstr (PySem.W.mg_of KX G ?a)
      (case a => k_is)
    case g_ROOM =>
      refine' Tg.gint (PySem.W.mg_of KX G ?a)
      (case a => k_is)
    case f_gates =>
      refine' Tg.fds_cons (c := "Found") KX G ?a ?pg ?hd ?po ?sa ?nf ?r
      (case a => k_is)
      (case pg => k_is)
      (case hd => k_is)
      (case po => k_is)
      (case sa => k_is)
      (case nf => k_is)
      case r =>
      exact Tg.fds_nil
    case f_store =>
      refine' Tg.fds_cons (c := "Found") KX G ?a ?pg ?hd ?po ?sa ?nf ?r
      (case a => k_is)
      (case pg => k_is)
      (case hd => k_is)
      (case po => k_is)
      (case sa => k_is)
      (case nf => k_is)
      case r =>
      exact Tg.fds_nil
    case f_words =>
      refine' Tg.fds_cons (c := "Found") KX G ?a ?pg ?hd ?po ?sa ?nf ?r
      (case a => k_is)
      (case pg => k_is)
      (case hd => k_is)
      (case po => k_is)
      (case sa => k_is)
      (case nf => k_is)
      case r =>
      exact Tg.fds_nil
    case z_bool =>
      refine' PySem.W.mg_none_of KX G ?a
      (case a => k_is)
    case z_dict =>
      refine' PySem.W.mg_none_of KX G ?a
      (case a => k_is)
    case z_int =>
      refine' PySem.W.mg_none_of KX G ?a
      (case a => k_is)
    case z_isinstance =>
      refine' PySem.W.mg_none_of KX G ?a
      (case a => k_is)
    case z_len =>
      refine' PySem.W.mg_none_of KX G ?a
      (case a => k_is)
    case z_list =>
      refine' PySem.W.mg_none_of KX G ?a
      (case a => k_is)
    case z_max =>
      refine' PySem.W.mg_none_of KX G ?a
      (case a => k_is)
    case z_min =>
      refine' PySem.W.mg_none_of KX G ?a
      (case a => k_is)
    case z_range =>
      refine' PySem.W.mg_none_of KX G ?a
      (case a => k_is)
    case z_sorted =>
      refine' PySem.W.mg_none_of KX G ?a
      (case a => k_is)
    case z_str =>
      refine' PySem.W.mg_none_of KX G ?a
      (case a => k_is)
    case z_tuple =>
      refine' PySem.W.mg_none_of KX G ?a
      (case a => k_is)
