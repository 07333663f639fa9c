import PyProof.Rows.All
import Wide.All
import OpenK.AllK
import Wide.FinOn
import HandS.ForMost
import HandS.Exc
import HandS.TryOnly
import HandS.ExcOwn
import HandS.WordsExc
import HandS.Lambda
import HandS.TupAny
import HandS.TupMul
import HandS.Deep
import HandS.IsInst
import HandS.RaiseMore
import HandS.SortInts
import HandS.SetFor
import HandS.Conv
import KE.KDictPairs
import PyProof.WalksMore
import PyProof.WalkInts
import HandS.Style
import HandS.ExcField
import HandS.HeadHook3
import KE.GoesEnum
import HandS.Codes
import HandS.ExcInit
import HandS.ExcSuper
import HandS.ExcIs
import HandS.NoneIn
import HandS.Rev
import HandS.RevTup
import HandS.Sort
import KE.KStateDown
import HandS.Head0
import HandS.Head1
import HandS.Head2
import HandS.HeadHook1
import HandS.HeadHook2
import HandS.EndTab
import PyProof.DictUpdate
import HandS.HeadWalk
import PySem.Challenge.RW_tagmachine_k19_texts_refused
import KE.IntTextText
set_option Elab.async false
set_option linter.all false
set_option maxRecDepth 100000
/-! TgBase: data as trees, a numbered heap of the things that change, and how both lie in the layer's heap. -/
namespace Tg
open PySem L2

/-- a value: data as trees; ref n: the n-th thing that changes -/
inductive D where
  | non | bl (b : Bool) | int (i : Int) | str (s : Str) | tup (ds : List D) | lst (ds : List D) | dct (ks : List Key) (ds : List D) | ref (n : Nat) | scr (ns : List Int)

/-- a thing that changes -/
inductive AO where
  | lst (ds : List D) | dct (kvs : List (Key × D)) | ins (c : Str) (fs : List (Str × D)) | lck (kvs : List (Key × D))
/-- a dict that is read by a comprehension: locked -/
def AO.isL : AO → Bool
  | .lck _ => true
  | _ => false
abbrev AH := List AO
abbrev Sl := List (Option D)
/-- an exception: its class's name, its own fields if it has any -/
structure XV where
  c : Str
  fs : Option (List (Str × D))

inductive R (α : Type) where
  | ok (a : α) (A : AH)
  | exc (x : XV) (A : AH)
  | bad
def R.bind {α β : Type} (r : R α) (f : α → AH → R β) : R β := match r with
  | .ok a A => f a A
  | .exc x A => .exc x A
  | .bad => .bad
@[simp] theorem R.bind_ok {α β : Type} (a : α) (A : AH) (f : α → AH → R β) : (R.ok a A).bind f = f a A := rfl
@[simp] theorem R.bind_exc {α β : Type} (x : XV) (A : AH) (f : α → AH → R β) : (R.exc x A).bind f = .exc x A := rfl
@[simp] theorem R.bind_bad {α β : Type} (f : α → AH → R β) : (R.bad : R α).bind f = .bad := rfl

/-- F: what lies still; m: where the things that change lie, by number -/
structure Wd where
  F : Hp
  m : List Addr
/-- W' knows all that W knows -/
structure Le (W W' : Wd) : Prop where
  f : ∀ a o, W.F a = some o → W'.F a = some o
  m : ∃ r, W'.m = W.m ++ r
theorem Le.refl (W : Wd) : Le W W := ⟨fun _ _ h => h, [], (List.append_nil _).symm⟩
theorem Le.trans {W W1 W2 : Wd} (a : Le W W1) (b : Le W1 W2) : Le W W2 := ⟨fun x o h => b.f x o (a.f x o h), by
  obtain ⟨r, e⟩ := a.m
  obtain ⟨r', e'⟩ := b.m
  exact ⟨r ++ r', by rw [e', e, List.append_assoc]⟩⟩
theorem Le.at {W W' : Wd} (l : Le W W') {n : Nat} {a : Addr} (h : W.m[n]? = some a) : W'.m[n]? = some a := by
  obtain ⟨r, e⟩ := l.m
  rw [e, List.getElem?_append_left (List.getElem?_eq_some_iff.mp h).1]
  exact h

mutual
def Rep (K : PySem.W.Frag) (W : Wd) : D → V → Prop
  | .non, v => v = .non
  | .bl b, v => v = .bl b
  | .int i, v => v = .int i
  | .str s, v => v = .str s
  | .tup ds, v => ∃ a xs, v = .ref a ∧ SqT K W.F a xs ∧ Reps K W ds xs
  | .lst ds, v => ∃ a xs, v = .ref a ∧ W.F a = some (.lst xs) ∧ Reps K W ds xs
  | .dct ks ds, v => ∃ a kvs, v = .ref a ∧ W.F a = some (.dK kvs) ∧ kvs.map (·.1) = ks ∧ Reps K W ds (kvs.map (·.2))
  | .ref n, v => ∃ a, v = .ref a ∧ W.m[n]? = some a
  | .scr ns, v => ∃ a, v = .ref a ∧ SqL K W.F a (ns.map V.int)
def Reps (K : PySem.W.Frag) (W : Wd) : List D → List V → Prop
  | [], vs => vs = []
  | d :: ds, vs => ∃ v r, vs = v :: r ∧ Rep K W d v ∧ Reps K W ds r
end

theorem rd_le {W W' : Wd} (l : Le W W') {a : Addr} {u : HO} (h : Rd W.F a u) : Rd W'.F a u := by
  rcases h with h | ⟨o, h⟩
  · exact .inl (l.f a _ h)
  · exact .inr ⟨o, l.f a _ h⟩
theorem sqT_le {K : PySem.W.Frag} {W W' : Wd} (l : Le W W') {a : Addr} {xs : List V} (h : SqT K W.F a xs) : SqT K W'.F a xs := h.elim (fun z => .inl (rd_le l z)) .inr
theorem sqL_le {K : PySem.W.Frag} {W W' : Wd} (l : Le W W') {a : Addr} {xs : List V} (h : SqL K W.F a xs) : SqL K W'.F a xs := h.elim (fun z => .inl (rd_le l z)) .inr

mutual
theorem Rep.le {K : PySem.W.Frag} {W W' : Wd} (l : Le W W') : ∀ {d : D} {v : V}, Rep K W d v → Rep K W' d v
  | .non, _, h => h
  | .bl _, _, h => h
  | .int _, _, h => h
  | .str _, _, h => h
  | .tup _, _, h => by
    obtain ⟨a, xs, e, s, r⟩ := h
    exact ⟨a, xs, e, sqT_le l s, Reps.le l r⟩
  | .lst _, _, h => by
    obtain ⟨a, xs, e, s, r⟩ := h
    exact ⟨a, xs, e, l.f _ _ s, Reps.le l r⟩
  | .dct _ _, _, h => by
    obtain ⟨a, xs, e, s, k, r⟩ := h
    exact ⟨a, xs, e, l.f _ _ s, k, Reps.le l r⟩
  | .ref _, _, h => by
    obtain ⟨a, e, s⟩ := h
    exact ⟨a, e, l.at s⟩
  | .scr _, _, h => by
    obtain ⟨a, e, s⟩ := h
    exact ⟨a, e, sqL_le l s⟩
theorem Reps.le {K : PySem.W.Frag} {W W' : Wd} (l : Le W W') : ∀ {ds : List D} {vs : List V}, Reps K W ds vs → Reps K W' ds vs
  | [], _, h => h
  | _ :: _, _, h => by
    obtain ⟨v, r, e, h1, h2⟩ := h
    exact ⟨v, r, e, Rep.le l h1, Reps.le l h2⟩
end

section
variable {K : PySem.W.Frag} {W : Wd}
theorem Reps.length : ∀ {ds : List D} {vs : List V}, Reps K W ds vs → vs.length = ds.length
  | [], _, h => by
    have e : _ = [] := h
    rw [e]
    rfl
  | d :: ds, _, h => by
    obtain ⟨v, r, rfl, _, h2⟩ := h
    simp only [List.length_cons, Reps.length h2]
theorem Reps.get : ∀ {ds : List D} {vs : List V} {i : Nat} {d : D}, Reps K W ds vs → ds[i]? = some d → ∃ v, vs[i]? = some v ∧ Rep K W d v
  | [], _, _, _, _, e => by simp at e
  | _ :: _, _, 0, d, h, e => by
    obtain ⟨v, r, rfl, h1, _⟩ := h
    simp at e
    subst e
    exact ⟨v, rfl, h1⟩
  | _ :: _, _, i + 1, d, h, e => by
    obtain ⟨v, r, rfl, _, h2⟩ := h
    obtain ⟨u, e1, h3⟩ := Reps.get (i := i) (d := d) h2 (by simpa using e)
    exact ⟨u, by simpa using e1, h3⟩
theorem Reps.getV : ∀ {ds : List D} {vs : List V} {i : Nat} {v : V}, Reps K W ds vs → vs[i]? = some v → ∃ d, ds[i]? = some d ∧ Rep K W d v
  | [], _, _, _, h, e => by
    have z : _ = [] := h
    rw [z] at e
    simp at e
  | _ :: _, _, 0, v, h, e => by
    obtain ⟨u, r, rfl, h1, _⟩ := h
    simp at e
    subst e
    exact ⟨_, rfl, h1⟩
  | _ :: _, _, i + 1, v, h, e => by
    obtain ⟨u, r, rfl, _, h2⟩ := h
    obtain ⟨d, e1, h3⟩ := Reps.getV (i := i) (v := v) h2 (by simpa using e)
    exact ⟨d, by simpa using e1, h3⟩
theorem Reps.append : ∀ {ds es : List D} {vs us : List V}, Reps K W ds vs → Reps K W es us → Reps K W (ds ++ es) (vs ++ us)
  | [], _, _, _, h, h' => by
    have e : _ = [] := h
    rw [e]
    exact h'
  | _ :: _, _, _, _, h, h' => by
    obtain ⟨v, r, rfl, h1, h2⟩ := h
    exact ⟨v, _, rfl, h1, Reps.append h2 h'⟩
theorem Reps.one {d : D} {v : V} (h : Rep K W d v) : Reps K W [d] [v] := ⟨v, [], rfl, h, rfl⟩
theorem Reps.nil : Reps K W [] [] := rfl
theorem Reps.cons {d : D} {v : V} {ds : List D} {vs : List V} (h : Rep K W d v) (h' : Reps K W ds vs) : Reps K W (d :: ds) (v :: vs) := ⟨v, vs, rfl, h, h'⟩
theorem Reps.set : ∀ {ds : List D} {vs : List V} {d : D} {v : V} (i : Nat), Reps K W ds vs → Rep K W d v → Reps K W (ds.set i d) (vs.set i v)
  | [], _, _, _, _, h, _ => by
    have e : _ = [] := h
    rw [e]
    exact rfl
  | _ :: _, _, _, _, 0, h, h' => by
    obtain ⟨v, r, rfl, _, h2⟩ := h
    exact ⟨_, r, rfl, h', h2⟩
  | _ :: _, _, _, _, i + 1, h, h' => by
    obtain ⟨v, r, rfl, h1, h2⟩ := h
    exact ⟨v, _, rfl, h1, Reps.set i h2 h'⟩
theorem Reps.take : ∀ {ds : List D} {vs : List V} (n : Nat), Reps K W ds vs → Reps K W (ds.take n) (vs.take n)
  | [], _, n, h => by
    have e : _ = [] := h
    rw [e]
    simp only [List.take_nil]
    exact rfl
  | _ :: _, _, 0, h => rfl
  | _ :: _, _, n + 1, h => by
    obtain ⟨v, r, rfl, h1, h2⟩ := h
    exact ⟨v, _, rfl, h1, Reps.take n h2⟩
theorem Reps.drop : ∀ {ds : List D} {vs : List V} (n : Nat), Reps K W ds vs → Reps K W (ds.drop n) (vs.drop n)
  | [], _, n, h => by
    have e : _ = [] := h
    rw [e]
    simp only [List.drop_nil]
    exact rfl
  | _ :: _, _, 0, h => h
  | _ :: _, _, n + 1, h => by
    obtain ⟨v, r, rfl, h1, h2⟩ := h
    exact Reps.drop n h2
theorem Reps.eraseIdx : ∀ {ds : List D} {vs : List V} (i : Nat), Reps K W ds vs → Reps K W (ds.eraseIdx i) (vs.eraseIdx i)
  | [], _, _, h => by
    have e : _ = [] := h
    rw [e]
    exact rfl
  | _ :: _, _, 0, h => by
    obtain ⟨v, r, rfl, _, h2⟩ := h
    exact h2
  | _ :: _, _, i + 1, h => by
    obtain ⟨v, r, rfl, h1, h2⟩ := h
    exact ⟨v, _, rfl, h1, Reps.eraseIdx i h2⟩
theorem Reps.reverse : ∀ {ds : List D} {vs : List V}, Reps K W ds vs → Reps K W ds.reverse vs.reverse
  | [], _, h => by
    have e : _ = [] := h
    rw [e]
    exact rfl
  | _ :: _, _, h => by
    obtain ⟨v, r, rfl, h1, h2⟩ := h
    rw [List.reverse_cons, List.reverse_cons]
    exact Reps.append (Reps.reverse h2) (Reps.one h1)
end

/-- the slots' values -/
def SlR (K : PySem.W.Frag) (W : Wd) : Sl → L2.St → Prop
  | [], σ => σ = []
  | none :: s, σ => ∃ o r, σ = o :: r ∧ SlR K W s r
  | some d :: s, σ => ∃ v r, σ = some v :: r ∧ Rep K W d v ∧ SlR K W s r
section
variable {K : PySem.W.Frag} {W W' : Wd}
theorem SlR.le (l : Le W W') : ∀ {s : Sl} {σ : L2.St}, SlR K W s σ → SlR K W' s σ
  | [], _, h => h
  | none :: _, _, h => by
    obtain ⟨o, r, e, h2⟩ := h
    exact ⟨o, r, e, SlR.le l h2⟩
  | some _ :: _, _, h => by
    obtain ⟨v, r, e, h1, h2⟩ := h
    exact ⟨v, r, e, h1.le l, SlR.le l h2⟩
theorem SlR.get : ∀ {s : Sl} {σ : L2.St} {i : Nat} {d : D}, SlR K W s σ → s[i]? = some (some d) → ∃ v, σ[i]? = some (some v) ∧ Rep K W d v
  | [], _, _, _, _, e => by simp at e
  | none :: _, _, 0, _, _, e => by simp at e
  | none :: _, _, i + 1, d, h, e => by
    obtain ⟨o, r, rfl, h2⟩ := h
    obtain ⟨v, e1, h3⟩ := SlR.get (i := i) (d := d) h2 (by simpa using e)
    exact ⟨v, by simpa using e1, h3⟩
  | some _ :: _, _, 0, d, h, e => by
    obtain ⟨v, r, rfl, h1, _⟩ := h
    simp at e
    subst e
    exact ⟨v, rfl, h1⟩
  | some _ :: _, _, i + 1, d, h, e => by
    obtain ⟨v, r, rfl, _, h2⟩ := h
    obtain ⟨v, e1, h3⟩ := SlR.get (i := i) (d := d) h2 (by simpa using e)
    exact ⟨v, by simpa using e1, h3⟩
theorem SlR.set : ∀ {s : Sl} {σ : L2.St} {d : D} {v : V} (i : Nat), SlR K W s σ → Rep K W d v → SlR K W (s.set i (some d)) (σ.set i (some v))
  | [], _, _, _, _, h, _ => by
    have e : _ = [] := h
    rw [e]
    exact rfl
  | none :: _, _, _, _, 0, h, h' => by
    obtain ⟨o, r, rfl, h2⟩ := h
    exact ⟨_, r, rfl, h', h2⟩
  | some _ :: _, _, _, _, 0, h, h' => by
    obtain ⟨o, r, rfl, _, h2⟩ := h
    exact ⟨_, r, rfl, h', h2⟩
  | none :: _, _, _, _, i + 1, h, h' => by
    obtain ⟨o, r, rfl, h2⟩ := h
    exact ⟨o, _, rfl, SlR.set i h2 h'⟩
  | some _ :: _, _, _, _, i + 1, h, h' => by
    obtain ⟨v, r, rfl, h1, h2⟩ := h
    exact ⟨v, _, rfl, h1, SlR.set i h2 h'⟩
theorem SlR.unset : ∀ {s : Sl} {σ : L2.St} {o : Option V} (i : Nat), SlR K W s σ → SlR K W (s.set i none) (σ.set i o)
  | [], _, _, _, h => by
    have e : _ = [] := h
    rw [e]
    exact rfl
  | none :: _, _, o, 0, h => by
    obtain ⟨_, r, rfl, h2⟩ := h
    exact ⟨_, r, rfl, h2⟩
  | some _ :: _, _, o, 0, h => by
    obtain ⟨_, r, rfl, _, h2⟩ := h
    exact ⟨_, r, rfl, h2⟩
  | none :: _, _, _, i + 1, h => by
    obtain ⟨o, r, rfl, h2⟩ := h
    exact ⟨o, _, rfl, SlR.unset i h2⟩
  | some _ :: _, _, _, i + 1, h => by
    obtain ⟨v, r, rfl, h1, h2⟩ := h
    exact ⟨v, _, rfl, h1, SlR.unset i h2⟩
theorem SlR.of : ∀ {ds : List D} {vs : List V} {n : Nat}, Reps K W ds vs → SlR K W (ds.map some ++ List.replicate n none) (vs.map some ++ List.replicate n none)
  | [], _, n, h => by
    have e : _ = [] := h
    rw [e]
    show SlR K W (List.replicate n none) (List.replicate n none)
    induction n with
    | zero => exact rfl
    | succ n ih => exact ⟨none, _, rfl, ih⟩
  | _ :: _, _, n, h => by
    obtain ⟨v, r, rfl, h1, h2⟩ := h
    exact ⟨v, _, rfl, h1, SlR.of h2⟩
end
def wipeD (s : Sl) : List Nat → Sl
  | [] => s
  | i :: is => wipeD (s.set i none) is

def clA (mg : Str → Option Value) (x : Str) : Addr := match mg x with
  | some (.ref a) => a
  | _ => 0
theorem clA_of {mg : Str → Option Value} {x : Str} {a : Addr} (h : mg x = some (.ref a)) : clA mg x = a := by
  unfold clA
  rw [h]

/-- a thing that changes, as it lies there -/
def ObR (K : PySem.W.Frag) (mg : Str → Option Value) (W : Wd) : AO → Option HO → Prop
  | .lst ds, h => ∃ xs, h = some (.lst xs) ∧ Reps K W ds xs
  | .dct kvs, h => ∃ vs, h = some (.dK vs) ∧ vs.map (·.1) = kvs.map (·.1) ∧ Reps K W (kvs.map (·.2)) (vs.map (·.2))
  | .ins c fs, h => ∃ dx vs, h = some (.ins (clA mg c) dx vs) ∧ vs.map (·.1) = fs.map (·.1) ∧ Reps K W (fs.map (·.2)) (vs.map (·.2))
  | .lck kvs, h => ∃ od vs, h = some (.frz od (.dK vs)) ∧ vs.map (·.1) = kvs.map (·.1) ∧ Reps K W (kvs.map (·.2)) (vs.map (·.2))
theorem ObR.le {K : PySem.W.Frag} {mg : Str → Option Value} {W W' : Wd} (l : Le W W') : ∀ {o : AO} {h : Option HO}, ObR K mg W o h → ObR K mg W' o h
  | .lst _, _, z => by
    obtain ⟨xs, e, r⟩ := z
    exact ⟨xs, e, r.le l⟩
  | .dct _, _, z => by
    obtain ⟨xs, e, k, r⟩ := z
    exact ⟨xs, e, k, r.le l⟩
  | .ins _ _, _, z => by
    obtain ⟨dx, xs, e, k, r⟩ := z
    exact ⟨dx, xs, e, k, r.le l⟩
  | .lck _, _, z => by
    obtain ⟨dx, xs, e, k, r⟩ := z
    exact ⟨dx, xs, e, k, r.le l⟩
theorem ObR.there {K : PySem.W.Frag} {mg : Str → Option Value} {W : Wd} : ∀ {o : AO} {h : Option HO}, ObR K mg W o h → h ≠ none
  | .lst _, _, z => by
    obtain ⟨xs, e, r⟩ := z
    rw [e]
    exact fun q => nomatch q
  | .dct _, _, z => by
    obtain ⟨xs, e, k, r⟩ := z
    rw [e]
    exact fun q => nomatch q
  | .ins _ _, _, z => by
    obtain ⟨dx, xs, e, k, r⟩ := z
    rw [e]
    exact fun q => nomatch q
  | .lck _, _, z => by
    obtain ⟨dx, xs, e, k, r⟩ := z
    rw [e]
    exact fun q => nomatch q
/-- what lies still and what changes are apart, but for what is locked -/
def SepR (W : Wd) (H : Hp) (a : Addr) : AO → Prop
  | .lck _ => W.F a = H a
  | _ => W.F a = none
theorem SepR.no {W : Wd} {H : Hp} {a : Addr} : ∀ {o : AO}, o.isL = false → SepR W H a o → W.F a = none
  | .lst _, _, h => h
  | .dct _, _, h => h
  | .ins _ _, _, h => h
theorem SepR.of {W : Wd} {H : Hp} {a : Addr} : ∀ {o : AO}, o.isL = false → W.F a = none → SepR W H a o
  | .lst _, _, h => h
  | .dct _, _, h => h
  | .ins _ _, _, h => h
theorem SepR.at {W W' : Wd} {H H' : Hp} {a : Addr} (f : W'.F a = W.F a) (g : H' a = H a) : ∀ {o : AO}, SepR W H a o → SepR W' H' a o
  | .lst _, h => f.trans h
  | .dct _, h => f.trans h
  | .ins _ _, h => f.trans h
  | .lck _, h => (f.trans (show W.F a = H a from h)).trans g.symm
/-- no locked thing -/
def NL (A : AH) (n : Nat) : Prop := ∀ o, A[n]? = some o → o.isL = false
theorem nl_of {A : AH} {n : Nat} {o : AO} (h : A[n]? = some o) (ho : o.isL = false) : NL A n := fun u e => by
  rw [h] at e
  cases e
  exact ho
theorem nl_ref {u : AO} (K : PySem.W.Frag) (mg : Str → Option Value) (W : Wd) {h : HO} (ob : ObR K mg W u (some h)) (hh : ∀ od v, h ≠ .frz od v) : u.isL = false := by
  cases u with
  | lck _ =>
    obtain ⟨od, vs, e, _⟩ := ob
    cases e
    exact absurd rfl (hh od _)
  | _ => rfl

/-- the defs that make lambdas: the tables of their code objects are told -/
def lamDefs : List Str := ["law", "_law_works", "_law_are_places"]
def lamQ (x : Str) : Str := x ++ ".<locals>." ++ "<lambda>"
/-- a def's code object, and that one's table, by what the top left -/
def codeA (K : PySem.W.Frag) (mg : Str → Option Value) (x : Str) : Option Addr := match mg x with
  | some (.ref f) => (match K.lookup f with
    | some o => (match o.data with
      | .func fd => (match fd.code with
        | .ref c => some c
        | _ => none)
      | _ => none)
    | none => none)
  | _ => none
def tabA (K : PySem.W.Frag) (mg : Str → Option Value) (x : Str) : Option Addr := match codeA K mg x with
  | some c => (match K.lookup c with
    | some o => (match o.data with
      | .fields vs => (match vs[11]? with
        | some (Value.ref P) => some P
        | _ => none)
      | _ => none)
    | none => none)
  | none => none
structure TabW (W : Wd) (H : Hp) (P : Addr) (q : Str) : Prop where
  at_ : ∃ tb : Array Value, H P = some (.tbl tb) ∧ TriplesOk tb.toList ∧ ∀ (p : Pos) (cv : Value), codeAmong p tb.toList = some cv → ∃ c, cv = .ref c ∧ W.F c = some (LamX.CodeO c q)
  nm : P ∉ W.m
  nF : W.F P = none
theorem TabW.ne {W : Wd} {H : Hp} {P p : Addr} {q : Str} (t : TabW W H P q) (h : H p = none) : P ≠ p := fun z => by
  obtain ⟨tb, e, _⟩ := t.at_
  rw [z, h] at e
  cases e
theorem TabW.keep {W W' : Wd} {H H' : Hp} {P : Addr} {q : Str} (t : TabW W H P q) (f : ∀ c o, W.F c = some o → W'.F c = some o) (e : H' P = H P) (nm : P ∉ W'.m) (nF : W'.F P = none) : TabW W' H' P q := by
  obtain ⟨tb, e1, e2, e3⟩ := t.at_
  refine ⟨⟨tb, e.trans e1, e2, fun p cv h => ?_⟩, nm, nF⟩
  obtain ⟨c, h1, h2⟩ := e3 p cv h
  exact ⟨c, h1, f _ _ h2⟩
structure Ok (K : PySem.W.Frag) (mg : Str → Option Value) (W : Wd) (A : AH) (H : Hp) : Prop where
  frz : ∀ a o, W.F a = some o → H a = some o
  sep : ∀ (n : Nat) (a : Addr) (o : AO), W.m[n]? = some a → A[n]? = some o → SepR W H a o
  nd : W.m.Nodup
  len : W.m.length = A.length
  obj : ∀ (n : Nat) (a : Addr) (o : AO), W.m[n]? = some a → A[n]? = some o → ObR K mg W o (H a)
  tab : ∀ x ∈ lamDefs, ∀ P, tabA K mg x = some P → TabW W H P (lamQ x)

/-- from (W, H) on, to (W', H') -/
structure Ext (W : Wd) (H : Hp) (W' : Wd) (H' : Hp) : Prop where
  le : Le W W'
  out : ∀ a o, H a = some o → (∀ tb, o ≠ .tbl tb) → a ∉ W.m → H' a = some o
  dom : ∀ a, H' a = none → H a = none
  fF : ∀ a o, W'.F a = some o → W.F a = none → H a = none
  fm : ∀ a, a ∈ W'.m → a ∉ W.m → H a = none
theorem Ext.refl (W : Wd) (H : Hp) : Ext W H W H := ⟨Le.refl W, fun _ _ h _ _ => h, fun _ h => h, fun _ _ h h' => (by rw [h'] at h; cases h), fun _ h h' => absurd h h'⟩
theorem Ext.trans {W W1 W2 : Wd} {H H1 H2 : Hp} (a : Ext W H W1 H1) (b : Ext W1 H1 W2 H2) : Ext W H W2 H2 where
  le := a.le.trans b.le
  out := fun x o h t n => b.out x o (a.out x o h t n) t fun q => by
    have z := a.fm x q n
    rw [h] at z
    cases z
  dom := fun x h => a.dom x (b.dom x h)
  fF := fun x o h n => by
    cases e : W1.F x with
    | none => exact a.dom x (b.fF x o h e)
    | some u => exact a.fF x u e n
  fm := fun x h n => by
    by_cases q : x ∈ W1.m
    · exact a.fm x q n
    · exact a.dom x (b.fm x h q)

section
variable {K : PySem.W.Frag} {mg : Str → Option Value} {W : Wd} {A : AH} {H : Hp}
theorem Ok.at (k : Ok K mg W A H) {n : Nat} {a : Addr} (h : W.m[n]? = some a) : ∃ o, A[n]? = some o ∧ ObR K mg W o (H a) := by
  have hl := (List.getElem?_eq_some_iff.mp h).1
  rw [k.len] at hl
  exact ⟨A[n], by simp [hl], k.obj n a _ h (by simp [hl])⟩
theorem Ok.notm (k : Ok K mg W A H) {p : Addr} (h : H p = none) : p ∉ W.m := fun q => by
  obtain ⟨n, e⟩ := List.getElem?_of_mem q
  obtain ⟨o, _, z⟩ := k.at e
  exact z.there h
theorem Ok.notF (k : Ok K mg W A H) {p : Addr} (h : H p = none) : W.F p = none := by
  cases e : W.F p with
  | none => rfl
  | some o =>
    rw [k.frz p o e] at h
    cases h
/-- a new thing that lies still -/
theorem Ok.frozen (k : Ok K mg W A H) {p : Addr} (h : H p = none) (o : HO) : Ok K mg ⟨upd W.F p o, W.m⟩ A (upd H p o) ∧ Ext W H ⟨upd W.F p o, W.m⟩ (upd H p o) := by
  have nm := k.notm h
  have nF := k.notF h
  have l : Le W ⟨upd W.F p o, W.m⟩ := ⟨fun a u e => by
    have n : a ≠ p := fun q => by
      rw [q, nF] at e
      cases e
    show upd W.F p o a = some u
    rw [upd_ne n]
    exact e, [], (List.append_nil _).symm⟩
  refine ⟨⟨fun a u e => ?_, fun n a u e1 e2 => ?_, k.nd, k.len, fun n a u e1 e2 => ?_, fun x hx P hP => (k.tab x hx P hP).keep l.f (upd_ne ((k.tab x hx P hP).ne h)) (k.tab x hx P hP).nm ((upd_ne ((k.tab x hx P hP).ne h)).trans (k.tab x hx P hP).nF)⟩, ⟨l, fun a u e _ _ => ?_, fun a e => ?_, fun a u e n => ?_, fun a h1 h2 => absurd h1 h2⟩⟩
  · have e' : upd W.F p o a = some u := e
    by_cases q : a = p
    · subst q
      rw [upd_same] at e'
      rw [upd_same]
      exact e'
    · rw [upd_ne q] at e'
      rw [upd_ne q]
      exact k.frz a u e'
  · have n' : a ≠ p := fun q => nm (q ▸ List.mem_of_getElem? e1)
    exact (k.sep n a u e1 e2).at (show upd W.F p o a = W.F a from upd_ne n') (upd_ne n')
  · have n' : a ≠ p := fun q => nm (q ▸ List.mem_of_getElem? e1)
    rw [upd_ne n']
    exact (k.obj n a u e1 e2).le l
  · have n : a ≠ p := fun q => by
      rw [q, h] at e
      cases e
    rw [upd_ne n]
    exact e
  · by_cases q : a = p
    · rw [q]
      exact h
    · rw [upd_ne q] at e
      exact e
  · by_cases q : a = p
    · rw [q]
      exact h
    · have e' : upd W.F p o a = some u := e
      rw [upd_ne q, n] at e'
      cases e'
/-- a cell beside, that nobody tells of -/
theorem Ok.aside (k : Ok K mg W A H) {p : Addr} (h : H p = none) (o : HO) : Ok K mg W A (upd H p o) ∧ Ext W H W (upd H p o) := by
  have nm := k.notm h
  have nF := k.notF h
  refine ⟨⟨fun a u e => ?_, fun n a u e1 e2 => (k.sep n a u e1 e2).at rfl (upd_ne (show a ≠ p from fun q => nm (q ▸ List.mem_of_getElem? e1))), k.nd, k.len, fun n a u e1 e2 => ?_, fun x hx P hP => (k.tab x hx P hP).keep (fun _ _ e => e) (upd_ne ((k.tab x hx P hP).ne h)) (k.tab x hx P hP).nm (k.tab x hx P hP).nF⟩, ⟨Le.refl W, fun a u e _ _ => ?_, fun a e => ?_, fun a u e n => ?_, fun a h1 h2 => absurd h1 h2⟩⟩
  · have n : a ≠ p := fun q => by
      rw [q, nF] at e
      cases e
    rw [upd_ne n]
    exact k.frz a u e
  · have n' : a ≠ p := fun q => nm (q ▸ List.mem_of_getElem? e1)
    rw [upd_ne n']
    exact k.obj n a u e1 e2
  · have n : a ≠ p := fun q => by
      rw [q, h] at e
      cases e
    rw [upd_ne n]
    exact e
  · by_cases q : a = p
    · rw [q]
      exact h
    · rw [upd_ne q] at e
      exact e
  · rw [n] at e
    cases e
/-- a new thing that changes; ob tells of it in the world behind -/
theorem Ok.fresh (k : Ok K mg W A H) {p : Addr} (h : H p = none) {o : HO} {u : AO} (ob : ObR K mg ⟨W.F, W.m ++ [p]⟩ u (some o)) (hu : u.isL = false := by rfl) :
    Ok K mg ⟨W.F, W.m ++ [p]⟩ (A ++ [u]) (upd H p o) ∧ Ext W H ⟨W.F, W.m ++ [p]⟩ (upd H p o) := by
  have nm := k.notm h
  have nF := k.notF h
  have l : Le W ⟨W.F, W.m ++ [p]⟩ := ⟨fun _ _ e => e, [p], rfl⟩
  refine ⟨⟨fun a u e => ?_, fun n a u' e1 e2 => ?_, ?_, ?_, fun n a u' e1 e2 => ?_, fun x hx P hP => (k.tab x hx P hP).keep (fun _ _ e => e) (upd_ne ((k.tab x hx P hP).ne h)) (fun z => (List.mem_append.mp z).elim (k.tab x hx P hP).nm fun z => (k.tab x hx P hP).ne h (List.mem_singleton.mp z)) (k.tab x hx P hP).nF⟩, ⟨l, fun a u e _ _ => ?_, fun a e => ?_, fun a u e n => ?_, fun a h1 h2 => ?_⟩⟩
  · have n : a ≠ p := fun q => by
      have e' : W.F a = some u := e
      rw [q, nF] at e'
      cases e'
    rw [upd_ne n]
    exact k.frz a u e
  · have e1' : (W.m ++ [p])[n]? = some a := e1
    by_cases q : n < W.m.length
    · rw [List.getElem?_append_left q] at e1'
      rw [List.getElem?_append_left (by rw [← k.len]; exact q)] at e2
      have n' : a ≠ p := fun z => nm (z ▸ List.mem_of_getElem? e1')
      exact (k.sep n a u' e1' e2).at rfl (upd_ne n')
    · have hn := (List.getElem?_eq_some_iff.mp e1').1
      have en : n = W.m.length := by
        rw [List.length_append] at hn
        simp at hn
        omega
      subst en
      rw [List.getElem?_append_right (Nat.le_refl _)] at e1'
      rw [List.getElem?_append_right (by rw [k.len]; exact Nat.le_refl _)] at e2
      rw [k.len] at e2
      simp at e1' e2
      subst e1' e2
      exact SepR.of hu nF
  · refine List.nodup_append.mpr ⟨k.nd, by simp, fun a ha b hb => ?_⟩
    rw [List.mem_singleton.mp hb]
    exact fun q => nm (q ▸ ha)
  · show (W.m ++ [p]).length = (A ++ [u]).length
    rw [List.length_append, List.length_append, k.len]
    rfl
  · have e1' : (W.m ++ [p])[n]? = some a := e1
    by_cases q : n < W.m.length
    · rw [List.getElem?_append_left q] at e1'
      rw [List.getElem?_append_left (by rw [← k.len]; exact q)] at e2
      have n' : a ≠ p := fun z => nm (z ▸ List.mem_of_getElem? e1')
      rw [upd_ne n']
      exact (k.obj n a u' e1' e2).le l
    · have hn := (List.getElem?_eq_some_iff.mp e1').1
      have en : n = W.m.length := by
        rw [List.length_append] at hn
        simp at hn
        omega
      subst en
      rw [List.getElem?_append_right (Nat.le_refl _)] at e1'
      rw [List.getElem?_append_right (by rw [k.len]; exact Nat.le_refl _)] at e2
      rw [k.len] at e2
      simp at e1' e2
      subst e1' e2
      rw [upd_same]
      exact ob
  · have n : a ≠ p := fun q => by
      rw [q, h] at e
      cases e
    rw [upd_ne n]
    exact e
  · by_cases q : a = p
    · rw [q]
      exact h
    · rw [upd_ne q] at e
      exact e
  · have e' : W.F a = some u := e
    rw [n] at e'
    cases e'
  · rcases List.mem_append.mp h1 with q | q
    · exact absurd q h2
    · rw [List.mem_singleton.mp q]
      exact h
/-- a thing changes -/
theorem Ok.write (k : Ok K mg W A H) {n : Nat} {a : Addr} (ha : W.m[n]? = some a) {o : HO} {u : AO} (ob : ObR K mg W u (some o)) (nl : NL A n := by (first | exact nl_of ‹_› rfl | (apply nl_of <;> first | assumption | rfl))) (hu : u.isL = false := by rfl) :
    Ok K mg W (A.set n u) (upd H a o) ∧ Ext W H W (upd H a o) := by
  obtain ⟨u0, hu0, ob0⟩ := k.at ha
  have nF := (k.sep n a u0 ha hu0).no (nl u0 hu0)
  have hn : n < A.length := (List.getElem?_eq_some_iff.mp hu0).1
  refine ⟨⟨fun b v e => ?_, fun j b v e1 e2 => ?_, k.nd, ?_, fun j b v e1 e2 => ?_, fun x hx P hP => (k.tab x hx P hP).keep (fun _ _ e => e) (upd_ne fun z => (k.tab x hx P hP).nm (z ▸ List.mem_of_getElem? ha)) (k.tab x hx P hP).nm (k.tab x hx P hP).nF⟩, ⟨Le.refl W, fun b v e _ nb => ?_, fun b e => ?_, fun b v e z => ?_, fun b h1 h2 => absurd h1 h2⟩⟩
  · have z : b ≠ a := fun q => by
      rw [q, nF] at e
      cases e
    rw [upd_ne z]
    exact k.frz b v e
  · by_cases q : j = n
    · subst q
      rw [ha] at e1
      cases e1
      rw [List.getElem?_set_self hn] at e2
      cases e2
      exact SepR.of hu nF
    · rw [List.getElem?_set_ne (fun z => q z.symm)] at e2
      have z : b ≠ a := fun z => by
        subst z
        have h1 := (List.getElem?_eq_some_iff.mp e1).1
        have h2 := (List.getElem?_eq_some_iff.mp ha).1
        rcases Nat.lt_or_gt_of_ne q with z | z
        · exact List.pairwise_iff_getElem.mp k.nd j n h1 h2 z ((List.getElem?_eq_some_iff.mp e1).2.trans (List.getElem?_eq_some_iff.mp ha).2.symm)
        · exact List.pairwise_iff_getElem.mp k.nd n j h2 h1 z ((List.getElem?_eq_some_iff.mp ha).2.trans (List.getElem?_eq_some_iff.mp e1).2.symm)
      exact (k.sep j b v e1 e2).at rfl (upd_ne z)
  · rw [List.length_set]
    exact k.len
  · by_cases q : j = n
    · subst q
      rw [ha] at e1
      cases e1
      rw [List.getElem?_set_self hn] at e2
      cases e2
      rw [upd_same]
      exact ob
    · rw [List.getElem?_set_ne (fun z => q z.symm)] at e2
      have z : b ≠ a := fun z => by
        subst z
        have h1 := (List.getElem?_eq_some_iff.mp e1).1
        have h2 := (List.getElem?_eq_some_iff.mp ha).1
        rcases Nat.lt_or_gt_of_ne q with z | z
        · exact List.pairwise_iff_getElem.mp k.nd j n h1 h2 z ((List.getElem?_eq_some_iff.mp e1).2.trans (List.getElem?_eq_some_iff.mp ha).2.symm)
        · exact List.pairwise_iff_getElem.mp k.nd n j h2 h1 z ((List.getElem?_eq_some_iff.mp ha).2.trans (List.getElem?_eq_some_iff.mp e1).2.symm)
      rw [upd_ne z]
      exact k.obj j b v e1 e2
  · have z : b ≠ a := fun q => nb (q ▸ List.mem_of_getElem? ha)
    rw [upd_ne z]
    exact e
  · by_cases q : b = a
    · rw [q, upd_same] at e
      cases e
    · rw [upd_ne q] at e
      exact e
  · rw [z] at e
    cases e
theorem Ok.lookL (k : Ok K mg W A H) {n : Nat} {a : Addr} {ds : List D} (ha : W.m[n]? = some a) (e : A[n]? = some (.lst ds)) : ∃ xs, H a = some (.lst xs) ∧ Reps K W ds xs := k.obj n a _ ha e
theorem Ok.sqT (k : Ok K mg W A H) {a : Addr} {xs : List V} (h : SqT K W.F a xs) : SqT K H a xs := by
  rcases h with (h | ⟨o, h⟩) | h
  · exact .inl (.inl (k.frz _ _ h))
  · exact .inl (.inr ⟨o, k.frz _ _ h⟩)
  · exact .inr h
theorem Ok.sqL (k : Ok K mg W A H) {a : Addr} {xs : List V} (h : SqL K W.F a xs) : SqL K H a xs := by
  rcases h with (h | ⟨o, h⟩) | h
  · exact .inl (.inl (k.frz _ _ h))
  · exact .inl (.inr ⟨o, k.frz _ _ h⟩)
  · exact .inr h
end
end Tg

set_option Elab.async false
set_option linter.all false
set_option maxRecDepth 100000
/-! TgPost: what is wanted behind an expression, a test, arguments, a statement; how readings meet it. -/
namespace Tg
open PySem L2

/-- an exception as it lies behind -/
def XRep (K : PySem.W.Frag) (mg : Str → Option Value) (W : Wd) (x : XV) (c : Value) (d : Option Addr) (H : Hp) : Prop :=
  c = .ref (clA mg x.c) ∧ match x.fs with
    | none => d = none
    | some fs => ∃ dd vs, d = some dd ∧ H dd = some (.xd vs) ∧ vs.map (·.1) = fs.map (·.1) ∧ Reps K W (fs.map (·.2)) (vs.map (·.2)) ∧ W.F dd = none ∧ dd ∉ W.m

def Post {α β : Type} (K : PySem.W.Frag) (mg : Str → Option Value) (rel : Wd → α → β → Prop) (W : Wd) (H : Hp) (E : XK) (Q : β → Hp → Prop) : R α → Prop
  | .ok a A' => ∀ W' H' b, Ext W H W' H' → Ok K mg W' A' H' → rel W' a b → Q b H'
  | .exc x A' => ∀ W' H' c d, Ext W H W' H' → Ok K mg W' A' H' → XRep K mg W' x c d H' → E c d H'
  | .bad => False
section
variable {α β γ δ : Type} {K : PySem.W.Frag} {mg : Str → Option Value} {rel : Wd → α → β → Prop} {rel2 : Wd → γ → δ → Prop} {W W1 : Wd} {H H1 : Hp} {E : XK} {Q Q' : β → Hp → Prop} {A : AH}
theorem Post.ext {r : R α} (e : Ext W H W1 H1) (h : Post K mg rel W H E Q r) : Post K mg rel W1 H1 E Q r := by
  cases r with
  | ok a A' => exact fun W' H' b x k z => h W' H' b (e.trans x) k z
  | exc x A' => exact fun W' H' c d y k z => h W' H' c d (e.trans y) k z
  | bad => exact h
theorem Post.mono {r : R α} (h : Post K mg rel W H E Q r) (f : ∀ b H', Q b H' → Q' b H') : Post K mg rel W H E Q' r := by
  cases r with
  | ok a A' => exact fun W' H' b x k z => f _ _ (h W' H' b x k z)
  | exc x A' => exact h
  | bad => exact h
theorem Post.bind {r : R α} {f : α → AH → R γ} {Q2 : δ → Hp → Prop} (h : Post K mg rel2 W H E Q2 (r.bind f))
    (g : ∀ a A1 b W1 H1, Ext W H W1 H1 → Ok K mg W1 A1 H1 → rel W1 a b → Post K mg rel2 W1 H1 E Q2 (f a A1) → Q b H1) : Post K mg rel W H E Q r := by
  cases r with
  | ok a A' => exact fun W' H' b x k z => g a A' b W' H' x k z (Post.ext x h)
  | exc x A' => exact h
  | bad => exact h
/-- as bind, told at what stood ahead -/
theorem Post.bind0 {r : R α} {f : α → AH → R γ} {Q2 : δ → Hp → Prop} (h : Post K mg rel2 W H E Q2 (r.bind f)) (e0 : Ext W H W1 H1)
    (g : ∀ a A1 b W2 H2, Ext W1 H1 W2 H2 → Ok K mg W2 A1 H2 → rel W2 a b → Post K mg rel2 W H E Q2 (f a A1) → Q b H2) : Post K mg rel W1 H1 E Q r := by
  cases r with
  | ok a A' => exact fun W' H' b x k z => g a A' b W' H' x k z h
  | exc x A' => exact fun W' H' c d y k z => h W' H' c d (e0.trans y) k z
  | bad => exact h
theorem Post.ok_at {a : α} {b : β} (h : Post K mg rel W H E Q (.ok a A)) (k : Ok K mg W A H) (z : rel W a b) : Q b H := h W H b (Ext.refl W H) k z
theorem Post.ok_to {a : α} {b : β} (h : Post K mg rel W H E Q (.ok a A)) (e : Ext W H W1 H1) (k : Ok K mg W1 A H1) (z : rel W1 a b) : Q b H1 := h W1 H1 b e k z
end

abbrev ME := Sl → AH → R D
abbrev MT := Sl → AH → R Bool
abbrev MA := Sl → AH → R (List D)
abbrev relB : Wd → Bool → Bool → Prop := fun _ a b => b = a
abbrev relO : Wd → Option Int → Option Int → Prop := fun _ a b => b = a

def SimE (K : PySem.W.Frag) (mg : Str → Option Value) (Wx : WX) (t : TE) (m : ME) : Prop :=
  ∀ (W : Wd) (σ : L2.St) (s : Sl) (A : AH) (H : Hp) (Q : VK), Ok K mg W A H → SlR K W s σ → Post K mg (Rep K) W H (fun c d H' => Wx c d σ H') Q (m s A) → t σ H Q
def SimT (K : PySem.W.Frag) (mg : Str → Option Value) (Wx : WX) (t : TT) (m : MT) : Prop :=
  ∀ (W : Wd) (σ : L2.St) (s : Sl) (A : AH) (H : Hp) (Q : Bool → Hp → Prop), Ok K mg W A H → SlR K W s σ → Post K mg relB W H (fun c d H' => Wx c d σ H') Q (m s A) → t σ H Q
def SimA (K : PySem.W.Frag) (mg : Str → Option Value) (Wx : WX) (t : TA) (m : MA) : Prop :=
  ∀ (W : Wd) (σ : L2.St) (s : Sl) (A : AH) (H : Hp) (Q : List V → Hp → Prop), Ok K mg W A H → SlR K W s σ → Post K mg (Reps K) W H (fun c d H' => Wx c d σ H') Q (m s A) → t σ H Q
def SimO (K : PySem.W.Frag) (mg : Str → Option Value) (Wx : WX) (t : TO) (m : Sl → AH → R (Option Int)) : Prop :=
  ∀ (W : Wd) (σ : L2.St) (s : Sl) (A : AH) (H : Hp) (Q : Option Int → Hp → Prop), Ok K mg W A H → SlR K W s σ → Post K mg relO W H (fun c d H' => Wx c d σ H') Q (m s A) → t σ H Q

structure SE (X : Cx) (Wx : WX) (e : Expr) (t : TE) (m : ME) : Prop where
  pe : PE X e t
  sim : SimE X.K X.mg Wx t m
structure ST (X : Cx) (Wx : WX) (e : Expr) (t : TT) (m : MT) : Prop where
  pt : PT X e t
  sim : SimT X.K X.mg Wx t m
structure SW (X : Cx) (Wx : WX) (e : Expr) (t : TT) (m : MT) : Prop where
  pw : PW X e t
  sim : SimT X.K X.mg Wx t m
structure SA (X : Cx) (Wx : WX) (es : List Expr) (t : TA) (m : MA) : Prop where
  pa : PA X es t
  sim : SimA X.K X.mg Wx t m
structure SO (X : Cx) (Wx : WX) (e : Option Expr) (t : TO) (m : Sl → AH → R (Option Int)) : Prop where
  po : PO X e t
  sim : SimO X.K X.mg Wx t m

/-! ### values by themselves -/
/-- an operation on two values, on one, on many -/
def OpS (K : PySem.W.Frag) (mg : Str → Option Value) (r : R2) (f : D → D → AH → R D) : Prop :=
  ∀ (W : Wd) (A : AH) (H : Hp) (E : XK) (Q : VK) (d e : D) (x y : V), Ok K mg W A H → Rep K W d x → Rep K W e y → Post K mg (Rep K) W H E Q (f d e A) → r x y H Q
def UnS (K : PySem.W.Frag) (mg : Str → Option Value) (r : V → Hp → VK → Prop) (f : D → AH → R D) : Prop :=
  ∀ (W : Wd) (A : AH) (H : Hp) (E : XK) (Q : VK) (d : D) (x : V), Ok K mg W A H → Rep K W d x → Post K mg (Rep K) W H E Q (f d A) → r x H Q
def CallS (K : PySem.W.Frag) (mg : Str → Option Value) (r : List V → Hp → VK → Prop) (f : List D → AH → R D) : Prop :=
  ∀ (W : Wd) (A : AH) (H : Hp) (E : XK) (Q : VK) (ds : List D) (xs : List V), Ok K mg W A H → Reps K W ds xs → Post K mg (Rep K) W H E Q (f ds A) → r xs H Q

def mv (i : Nat) : ME := fun s A => match s[i]? with
  | some (some d) => .ok d A
  | _ => .bad
def mc (d : D) : ME := fun _ A => .ok d A
def mBin (f : D → D → AH → R D) (a b : ME) : ME := fun s A => (a s A).bind fun x A1 => (b s A1).bind fun y A2 => f x y A2
def mUn (f : D → AH → R D) (a : ME) : ME := fun s A => (a s A).bind fun x A1 => f x A1
def mNil : MA := fun _ A => .ok [] A
def mCons (a : ME) (r : MA) : MA := fun s A => (a s A).bind fun x A1 => (r s A1).bind fun xs A2 => .ok (x :: xs) A2
def toB : D → AH → R Bool
  | .bl b, A => .ok b A
  | _, _ => .bad
def mTb (m : ME) : MT := fun s A => (m s A).bind toB
def mBl (m : MT) : ME := fun s A => (m s A).bind fun b A1 => .ok (.bl b) A1
def mIf (c : MT) (a b : ME) : ME := fun s A => (c s A).bind fun k A1 => if k then a s A1 else b s A1
def mAnd (a b : MT) : MT := fun s A => (a s A).bind fun k A1 => if k then b s A1 else .ok false A1
def mOr (a b : MT) : MT := fun s A => (a s A).bind fun k A1 => if k then .ok true A1 else b s A1
def mNot (a : MT) : MT := fun s A => (a s A).bind fun k A1 => .ok (!k) A1

section
variable {X : Cx} {Wx : WX} {a b c e : Expr} {es : List Expr} {ta tb tc te : TE} {ma mb me : ME} {pos : Pos}
theorem sv (i : Nat) {x : Str} (hN : X.N[i]? = some x := by rfl) (hv : Vis X.env.scope x := by first | exact Or.inl rfl | exact Or.inr (Or.inl rfl) | exact Or.inr (Or.inr rfl)) (hd : (x == ("__debug__" : Str)) = false := by decide)
    (hcd : (x == ("__classdict__" : Str)) = false := by decide) : SE X Wx (.Name x pos) (tVar i) (mv i) := by
  refine ⟨pe_var hN hv hd hcd, fun W σ s A H Q k sr h => ?_⟩
  unfold mv at h
  split at h
  · rename_i d e
    obtain ⟨v, e1, r⟩ := sr.get e
    exact ⟨v, e1, h.ok_at k r⟩
  · exact h.elim
theorem sc {v : V} {d : D} (hp : PE X e (tC v)) (r : ∀ W, Rep X.K W d v) : SE X Wx e (tC v) (mc d) :=
  ⟨hp, fun W σ s A H Q k sr h => h.ok_at k (r W)⟩
theorem sint {i : Int} {j : Nat} : SE X Wx (.Constant (.int i) j pos) (tC (.int i)) (mc (.int i)) := sc pe_int fun _ => rfl
theorem sbl {x : Bool} {j : Nat} : SE X Wx (.Constant (.bool x) j pos) (tC (.bl x)) (mc (.bl x)) := sc pe_bl fun _ => rfl
theorem snon {j : Nat} : SE X Wx (.Constant .none j pos) (tC .non) (mc .non) := sc pe_non fun _ => rfl
theorem sstr {x : Str} {j : Nat} : SE X Wx (.Constant (.str x) j pos) (tC (.str x)) (mc (.str x)) := sc pe_str fun _ => rfl

theorem sim_bin {r : R2} {f : D → D → AH → R D} {K : PySem.W.Frag} {mg : Str → Option Value} (hs : OpS K mg r f) (ha : SimE K mg Wx ta ma) (hb : SimE K mg Wx tb mb) : SimE K mg Wx (tOp r ta tb) (mBin f ma mb) :=
  fun W σ s A H Q k sr h => ha W σ s A H _ k sr (h.bind fun x A1 v W1 H1 e1 k1 r1 h1 =>
    hb W1 σ s A1 H1 _ k1 (sr.le e1.le) (h1.bind fun y A2 u W2 H2 e2 k2 r2 h2 => hs W2 A2 H2 _ Q x y v u k2 (r1.le e2.le) r2 h2))
theorem sop {op : Operator} {r : R2} {f : D → D → AH → R D} (ho : OpR X (binaryOp op) r) (hs : OpS X.K X.mg r f) (ha : SE X Wx a ta ma) (hb : SE X Wx b tb mb) : SE X Wx (.BinOp a op b pos) (tOp r ta tb) (mBin f ma mb) :=
  ⟨pe_op ho ha.pe hb.pe, sim_bin hs ha.sim hb.sim⟩
theorem scmp {op : CmpOp} {r : R2} {f : D → D → AH → R D} (ho : OpR X (compareOp op) r) (hs : OpS X.K X.mg r f) (ha : SE X Wx a ta ma) (hb : SE X Wx b tb mb) (hm : behindInMarks op b = false) : SE X Wx (.Compare a [op] [b] pos) (tOp r ta tb) (mBin f ma mb) :=
  ⟨pe_cmpR ho ha.pe hb.pe hm, sim_bin hs ha.sim hb.sim⟩
theorem sun {op : UnaryOp} {r : V → Hp → VK → Prop} {f : D → AH → R D} (ho : UnR X (unaryOp op) r) (hs : UnS X.K X.mg r f) (ha : SE X Wx a ta ma) : SE X Wx (.UnaryOp op a pos) (tUn r ta) (mUn f ma) :=
  ⟨pe_un ho ha.pe, fun W σ s A H Q k sr h => ha.sim W σ s A H _ k sr (h.bind fun x A1 v W1 H1 e1 k1 r1 h1 => hs W1 A1 H1 _ Q x v k1 r1 h1)⟩

theorem sim_test (ha : SimE X.K X.mg Wx ta ma) : SimT X.K X.mg Wx (tTest ta) (mTb ma) := fun W σ s A H Q k sr h =>
  ha W σ s A H _ k sr (h.bind fun x A1 v W1 H1 e1 k1 r1 h1 => by
    cases x with
    | bl y => exact ⟨y, r1, h1.ok_at k1 rfl⟩
    | _ => exact h1.elim)
theorem tcmp {op : CmpOp} {r : R2} {f : D → D → AH → R D} (ho : OpR X (compareOp op) r) (hs : OpS X.K X.mg r f) (ha : SE X Wx a ta ma) (hb : SE X Wx b tb mb) (hm : behindInMarks op b = false) : ST X Wx (.Compare a [op] [b] pos) (tTest (tOp r ta tb)) (mTb (mBin f ma mb)) :=
  ⟨pt_cmpR ho ha.pe hb.pe hm, sim_test (sim_bin hs ha.sim hb.sim)⟩
/-- a value that is True or False, as a test -/
theorem tval (ha : SE X Wx a ta ma) (he : ∀ whole, isTrue a X.env whole = (do let v ← whole; standAt a.pos; holding [v] (truthy v)) := by intro _; rfl) : ST X Wx a (tB ta) (mTb ma) :=
  ⟨pt_val ha.pe he, fun W σ s A H Q k sr h => ha.sim W σ s A H _ k sr (h.bind fun x A1 v W1 H1 e1 k1 r1 h1 => by
    cases x with
    | bl y => exact ⟨y, r1, h1.ok_at k1 rfl⟩
    | _ => exact h1.elim)⟩
def mChain (f g : D → D → AH → R D) (a b c : ME) : ME := fun s A => (a s A).bind fun x A1 => (b s A1).bind fun y A2 => (f x y A2).bind fun z A3 => (toB z A3).bind fun k A4 =>
  if k then (c s A4).bind fun w A5 => g y w A5 else .ok (.bl false) A4
theorem sim_chain {r r' : R2} {f g : D → D → AH → R D} {K : PySem.W.Frag} {mg : Str → Option Value} {mc' : ME} (hs : OpS K mg r f) (hs' : OpS K mg r' g) (ha : SimE K mg Wx ta ma) (hb : SimE K mg Wx tb mb) (hc : SimE K mg Wx tc mc') :
    SimE K mg Wx (tChain r r' ta tb tc) (mChain f g ma mb mc') :=
  fun W σ s A H Q k sr h => ha W σ s A H _ k sr (h.bind fun x A1 v W1 H1 e1 k1 r1 h1 =>
    hb W1 σ s A1 H1 _ k1 (sr.le e1.le) (h1.bind fun y A2 u W2 H2 e2 k2 r2 h2 => hs W2 A2 H2 _ _ x y v u k2 (r1.le e2.le) r2 (h2.bind fun z A3 w W3 H3 e3 k3 r3 h3 => by
      cases z with
      | bl y' =>
        refine ⟨y', r3, ?_⟩
        have h3' : Post K mg (Rep K) W3 H3 (fun c d H' => Wx c d σ H') Q (if y' then (mc' s A3).bind fun w A5 => g y w A5 else .ok (.bl false) A3) := h3
        cases y' with
        | true =>
          rw [if_pos rfl]
          rw [if_pos rfl] at h3'
          exact hc W3 σ s A3 H3 _ k3 ((sr.le e1.le).le (e2.trans e3).le) (h3'.bind fun q A4 w' W4 H4 e4 k4 r4 h4 => hs' W4 A4 H4 _ Q y q u w' k4 (r2.le (e3.trans e4).le) r4 h4)
        | false =>
          rw [if_neg Bool.false_ne_true]
          rw [if_neg Bool.false_ne_true] at h3'
          exact h3'.ok_at k3 rfl
      | _ => exact h3.elim)))
theorem schain {op op' : CmpOp} {r r' : R2} {f g : D → D → AH → R D} {mc' : ME} (ho : OpR X (compareOp op) r) (ho' : OpR X (compareOp op') r') (hs : OpS X.K X.mg r f) (hs' : OpS X.K X.mg r' g) (ha : SE X Wx a ta ma) (hb : SE X Wx b tb mb) (hc : SE X Wx c tc mc') (hm : lastMarks [op, op'] [b, c] = false := by rfl) :
    SE X Wx (.Compare a [op, op'] [b, c] pos) (tChain r r' ta tb tc) (mChain f g ma mb mc') := ⟨pe_chain ho ho' ha.pe hb.pe hc.pe hm, sim_chain hs hs' ha.sim hb.sim hc.sim⟩
theorem tchain {op op' : CmpOp} {r r' : R2} {f g : D → D → AH → R D} {mc' : ME} (ho : OpR X (compareOp op) r) (ho' : OpR X (compareOp op') r') (hs : OpS X.K X.mg r f) (hs' : OpS X.K X.mg r' g) (ha : SE X Wx a ta ma) (hb : SE X Wx b tb mb) (hc : SE X Wx c tc mc') (hm : lastMarks [op, op'] [b, c] = false := by rfl) :
    ST X Wx (.Compare a [op, op'] [b, c] pos) (tTest (tChain r r' ta tb tc)) (mTb (mChain f g ma mb mc')) := ⟨pt_chain ho ho' ha.pe hb.pe hc.pe hm, sim_test (sim_chain hs hs' ha.sim hb.sim hc.sim)⟩

variable {t u : TT} {m n : MT}
theorem tnot (h : ST X Wx a t m) : ST X Wx (.UnaryOp .Not a pos) (tNot t) (mNot m) :=
  ⟨pt_not h.pt, fun W σ s A H Q k sr z => h.sim W σ s A H _ k sr (z.bind fun x A1 v W1 H1 e1 k1 r1 h1 => by
    cases r1
    exact h1.ok_at k1 rfl)⟩
theorem sim_and {K : PySem.W.Frag} {mg : Str → Option Value} (h : SimT K mg Wx t m) (h' : SimT K mg Wx u n) : SimT K mg Wx (tAnd t u) (mAnd m n) := fun W σ s A H Q k sr z => h W σ s A H _ k sr (z.bind fun x A1 v W1 H1 e1 k1 r1 h1 => by
  cases r1
  cases x with
  | true => exact h' W1 σ s A1 H1 _ k1 (sr.le e1.le) h1
  | false => exact h1.ok_at k1 rfl)
theorem sim_or {K : PySem.W.Frag} {mg : Str → Option Value} (h : SimT K mg Wx t m) (h' : SimT K mg Wx u n) : SimT K mg Wx (tOr t u) (mOr m n) := fun W σ s A H Q k sr z => h W σ s A H _ k sr (z.bind fun x A1 v W1 H1 e1 k1 r1 h1 => by
  cases r1
  cases x with
  | true => exact h1.ok_at k1 rfl
  | false => exact h' W1 σ s A1 H1 _ k1 (sr.le e1.le) h1)
theorem wand1 (h : ST X Wx a t m) : SW X Wx (.BoolOp .And [a] pos) t m := ⟨pw_and1 h.pt, h.sim⟩
theorem wor1 (h : ST X Wx a t m) : SW X Wx (.BoolOp .Or [a] pos) t m := ⟨pw_or1 h.pt, h.sim⟩
theorem wand (h : ST X Wx a t m) (h' : SW X Wx (.BoolOp .And (b :: es) pos) u n) : SW X Wx (.BoolOp .And (a :: b :: es) pos) (tAnd t u) (mAnd m n) := ⟨pw_and h.pt h'.pw, sim_and h.sim h'.sim⟩
theorem wor (h : ST X Wx a t m) (h' : SW X Wx (.BoolOp .Or (b :: es) pos) u n) : SW X Wx (.BoolOp .Or (a :: b :: es) pos) (tOr t u) (mOr m n) := ⟨pw_or h.pt h'.pw, sim_or h.sim h'.sim⟩
theorem twd (h : SW X Wx e t m) : ST X Wx e t m := ⟨h.pw.pt, h.sim⟩
/-- and, or, not as values: all but the last True or False -/
def mAndV (a b : ME) : ME := fun s A => (a s A).bind fun x A1 => (toB x A1).bind fun k A2 => if k then b s A2 else .ok (.bl false) A2
def mOrV (a b : ME) : ME := fun s A => (a s A).bind fun x A1 => (toB x A1).bind fun k A2 => if k then .ok (.bl true) A2 else b s A2
def mNotV (a : ME) : ME := fun s A => (a s A).bind fun x A1 => (toB x A1).bind fun k A2 => .ok (.bl (!k)) A2
theorem sone {op : BoolOp} (h : SE X Wx a ta ma) : SE X Wx (.BoolOp op [a] pos) ta ma := ⟨pe_one h.pe, h.sim⟩
theorem sand (h : SE X Wx a ta ma) (h' : SE X Wx (.BoolOp .And (b :: es) pos) tb mb) : SE X Wx (.BoolOp .And (a :: b :: es) pos) (tAndV ta tb) (mAndV ma mb) :=
  ⟨pe_and h.pe h'.pe, fun W σ s A H Q k sr z => h.sim W σ s A H _ k sr (z.bind fun x A1 v W1 H1 e1 k1 r1 h1 => by
    cases x with
    | bl y =>
      refine ⟨y, r1, ?_⟩
      cases y with
      | true => exact h'.sim W1 σ s A1 H1 _ k1 (sr.le e1.le) h1
      | false => exact h1.ok_at k1 rfl
    | _ => exact h1.elim)⟩
theorem sor (h : SE X Wx a ta ma) (h' : SE X Wx (.BoolOp .Or (b :: es) pos) tb mb) : SE X Wx (.BoolOp .Or (a :: b :: es) pos) (tOrV ta tb) (mOrV ma mb) :=
  ⟨pe_or h.pe h'.pe, fun W σ s A H Q k sr z => h.sim W σ s A H _ k sr (z.bind fun x A1 v W1 H1 e1 k1 r1 h1 => by
    cases x with
    | bl y =>
      refine ⟨y, r1, ?_⟩
      cases y with
      | true => exact h1.ok_at k1 rfl
      | false => exact h'.sim W1 σ s A1 H1 _ k1 (sr.le e1.le) h1
    | _ => exact h1.elim)⟩
theorem snot (h : SE X Wx a ta ma) : SE X Wx (.UnaryOp .Not a pos) (tNotV ta) (mNotV ma) :=
  ⟨pe_not h.pe, fun W σ s A H Q k sr z => h.sim W σ s A H _ k sr (z.bind fun x A1 v W1 H1 e1 k1 r1 h1 => by
    cases x with
    | bl y => exact ⟨y, r1, h1.ok_at k1 rfl⟩
    | _ => exact h1.elim)⟩
theorem sif {mc' : MT} {tt : TT} (h : ST X Wx c tt mc') (ha : SE X Wx a ta ma) (hb : SE X Wx b tb mb) : SE X Wx (.IfExp c a b pos) (tIf tt ta tb) (mIf mc' ma mb) :=
  ⟨pe_ifExp h.pt ha.pe hb.pe, fun W σ s A H Q k sr z => h.sim W σ s A H _ k sr (z.bind fun x A1 v W1 H1 e1 k1 r1 h1 => by
    cases r1
    cases x with
    | true => exact ha.sim W1 σ s A1 H1 _ k1 (sr.le e1.le) h1
    | false => exact hb.sim W1 σ s A1 H1 _ k1 (sr.le e1.le) h1)⟩

variable {tr : TA} {mr : MA}
theorem anil : SA X Wx [] tNil mNil := ⟨pa_nil, fun W σ s A H Q k sr h => h.ok_at k rfl⟩
theorem acons (ha : SE X Wx e te me) (hr : SA X Wx es tr mr) (hs : starEach (e :: es) X.env = (false, eval e X.env) :: starEach es X.env := by rfl) : SA X Wx (e :: es) (tCons te tr) (mCons me mr) :=
  ⟨pa_cons ha.pe hr.pa hs, fun W σ s A H Q k sr h => ha.sim W σ s A H _ k sr (h.bind fun x A1 v W1 H1 e1 k1 r1 h1 =>
    hr.sim W1 σ s A1 H1 _ k1 (sr.le e1.le) (h1.bind fun xs A2 vs W2 H2 e2 k2 r2 h2 => h2.ok_at k2 (Reps.cons (r1.le e2.le) r2)))⟩
end
end Tg

set_option Elab.async false
set_option linter.all false
set_option maxRecDepth 100000
/-! TgOps: operators by values. -/
namespace Tg
open PySem L2

/-! ### lists, tuples by values -/
/-- a list that can be added to another: no script -/
def lstL (A : AH) : D → Option (List D)
  | .lst ds => some ds
  | .ref n => match A[n]? with
    | some (.lst ds) => some ds
    | _ => none
  | _ => none
/-- any list -/
def seqL (A : AH) : D → Option (List D)
  | .lst ds => some ds
  | .ref n => match A[n]? with
    | some (.lst ds) => some ds
    | _ => none
  | .scr ns => some (ns.map .int)
  | _ => none
section
variable {K : PySem.W.Frag} {mg : Str → Option Value} {W : Wd} {A : AH} {H : Hp}
theorem reps_ints (W : Wd) : ∀ ns : List Int, Reps K W (ns.map .int) (ns.map V.int)
  | [] => rfl
  | n :: ns => ⟨_, _, rfl, rfl, reps_ints W ns⟩
theorem lstL_at (k : Ok K mg W A H) {d : D} {v : V} (r : Rep K W d v) {ds : List D} (e : lstL A d = some ds) : ∃ a xs, v = .ref a ∧ H a = some (.lst xs) ∧ Reps K W ds xs := by
  cases d with
  | lst es =>
    obtain ⟨a, xs, ev, ha, rr⟩ := r
    cases (show some es = some ds from e)
    exact ⟨a, xs, ev, k.frz _ _ ha, rr⟩
  | ref n =>
    obtain ⟨a, ev, ha⟩ := r
    unfold lstL at e
    dsimp only at e
    split at e
    · rename_i es q
      cases e
      obtain ⟨xs, hx, rr⟩ := k.lookL ha q
      exact ⟨a, xs, ev, hx, rr⟩
    · cases e
  | _ => cases (show none = some ds from e)
theorem seqL_at (k : Ok K mg W A H) {d : D} {v : V} (r : Rep K W d v) {ds : List D} (e : seqL A d = some ds) : ∃ a xs, v = .ref a ∧ SqL K H a xs ∧ Reps K W ds xs := by
  cases d with
  | lst es =>
    obtain ⟨a, xs, ev, ha, rr⟩ := r
    cases (show some es = some ds from e)
    exact ⟨a, xs, ev, .of (k.frz _ _ ha), rr⟩
  | ref n =>
    obtain ⟨a, ev, ha⟩ := r
    unfold seqL at e
    dsimp only at e
    split at e
    · rename_i es q
      cases e
      obtain ⟨xs, hx, rr⟩ := k.lookL ha q
      exact ⟨a, xs, ev, .of hx, rr⟩
    · cases e
  | scr ns =>
    obtain ⟨a, ev, hs⟩ := r
    cases (show some (ns.map D.int) = some ds from e)
    exact ⟨a, _, ev, k.sqL hs, reps_ints W ns⟩
  | _ => cases (show none = some ds from e)
theorem tup_at (k : Ok K mg W A H) {ds : List D} {v : V} (r : Rep K W (.tup ds) v) : ∃ a xs, v = .ref a ∧ SqT K H a xs ∧ Reps K W ds xs := by
  obtain ⟨a, xs, ev, ha, rr⟩ := r
  exact ⟨a, xs, ev, k.sqT ha, rr⟩
variable {E : XK} {Q : VK} {ds : List D} {xs : List V} {p : Addr}
/-- a new list that lies still; a new tuple; a new list that will change -/
theorem post_lst (k : Ok K mg W A H) (h : Post K mg (Rep K) W H E Q (.ok (.lst ds) A)) (r : Reps K W ds xs) (hp : H p = none) : Q (.ref p) (upd H p (.lst xs)) := by
  obtain ⟨k1, e1⟩ := k.frozen hp (.lst xs)
  exact h _ _ _ e1 k1 ⟨p, xs, rfl, upd_same, r.le e1.le⟩
theorem post_tup (k : Ok K mg W A H) (h : Post K mg (Rep K) W H E Q (.ok (.tup ds) A)) (r : Reps K W ds xs) (hp : H p = none) : Q (.ref p) (upd H p (.tup xs)) := by
  obtain ⟨k1, e1⟩ := k.frozen hp (.tup xs)
  exact h _ _ _ e1 k1 ⟨p, xs, rfl, .inl (.inl upd_same), r.le e1.le⟩
theorem post_new (k : Ok K mg W A H) (h : Post K mg (Rep K) W H E Q (.ok (.ref A.length) (A ++ [.lst ds]))) (r : Reps K W ds xs) (hp : H p = none) : Q (.ref p) (upd H p (.lst xs)) := by
  have l : Le W ⟨W.F, W.m ++ [p]⟩ := ⟨fun _ _ e => e, [p], rfl⟩
  obtain ⟨k1, e1⟩ := k.fresh hp (o := .lst xs) (u := .lst ds) ⟨xs, rfl, r.le l⟩
  refine h _ _ _ e1 k1 ⟨p, rfl, ?_⟩
  rw [← k.len]
  exact List.getElem?_concat_length
end

/-! ### + - * // % ** -/
def rAddU (K : PySem.W.Frag) : R2 := fun x y H Q => (rI0 (fun i j => .int (i + j)) x y H Q ∨ (∃ i j, x = .str i ∧ y = .str j ∧ i.length + j.length ≤ sizeLine ∧ Q (.str (i ++ j)) H)) ∨ rCatA K x y H Q ∨ rCat x y H Q
theorem oAdd {X : Cx} : OpR X (binaryOp .Add) (rAddU X.K) := (op_add.or op_add_str).or (op_catA.or op_cat)
def addD : D → D → AH → R D
  | .int i, .int j, A => .ok (.int (i + j)) A
  | .str i, .str j, A => if i.length + j.length ≤ 16777216 then .ok (.str (i ++ j)) A else .bad
  | .tup ds, .tup es, A => if ds.length + es.length ≤ 16777216 then .ok (.tup (ds ++ es)) A else .bad
  | x, y, A => match lstL A x, lstL A y with
    | some ds, some es => if ds.length + es.length ≤ 16777216 then .ok (.lst (ds ++ es)) A else .bad
    | _, _ => .bad
/-- + of lists, the new one will change -/
def addN : D → D → AH → R D := fun x y A => match lstL A x, lstL A y with
  | some ds, some es => if ds.length + es.length ≤ 16777216 then .ok (.ref A.length) (A ++ [.lst (ds ++ es)]) else .bad
  | _, _ => .bad
theorem sz_of {n : Nat} (h : n ≤ 16777216) : n ≤ sizeLine := by
  rw [sizeLine_eq]
  exact h
section
variable {K : PySem.W.Frag} {mg : Str → Option Value}
theorem oAddS : OpS K mg (rAddU K) addD := fun W A H E Q d e x y k rx ry h => by
  unfold addD at h
  split at h
  · exact .inl (.inl ⟨_, _, rx, ry, h.ok_at k rfl⟩)
  · split at h
    · rename_i z
      exact .inl (.inr ⟨_, _, rx, ry, sz_of z, h.ok_at k rfl⟩)
    · exact h.elim
  · rename_i ds es
    split at h
    · rename_i z
      obtain ⟨a, xs, ex, sx, r1⟩ := tup_at k rx
      obtain ⟨b, ys, ey, sy, r2⟩ := tup_at k ry
      refine .inr (.inl ⟨a, b, xs, ys, ex, ey, sx, sy, ?_, fun hx => ?_, fun hx hy => ?_, fun hx hy p hp => post_tup k h (r1.append r2) hp⟩)
      · rw [r1.length, r2.length]
        exact sz_of z
      · subst hx
        have z1 := r1.length
        have z2 : ds = [] := List.length_eq_zero_iff.mp z1.symm
        subst z2
        rw [← ey]
        exact h.ok_at k ry
      · subst hy
        have z1 := r2.length
        have z2 : es = [] := List.length_eq_zero_iff.mp z1.symm
        subst z2
        rw [List.append_nil] at h
        rw [← ex]
        exact h.ok_at k rx
    · exact h.elim
  · split at h
    · rename_i ds es e1 e2
      split at h
      · rename_i z
        obtain ⟨a, xs, ex, hx, r1⟩ := lstL_at k rx e1
        obtain ⟨b, ys, ey, hy, r2⟩ := lstL_at k ry e2
        refine .inr (.inr ⟨a, b, xs, ys, ex, ey, hx, hy, ?_, fun p hp => post_lst k h (r1.append r2) hp⟩)
        rw [r1.length, r2.length]
        exact sz_of z
      · exact h.elim
    · exact h.elim
theorem oAddNS : OpS K mg (rAddU K) addN := fun W A H E Q d e x y k rx ry h => by
  unfold addN at h
  split at h
  · rename_i ds es e1 e2
    split at h
    · rename_i z
      obtain ⟨a, xs, ex, hx, r1⟩ := lstL_at k rx e1
      obtain ⟨b, ys, ey, hy, r2⟩ := lstL_at k ry e2
      refine .inr (.inr ⟨a, b, xs, ys, ex, ey, hx, hy, ?_, fun p hp => post_new k h (r1.append r2) hp⟩)
      rw [r1.length, r2.length]
      exact sz_of z
    · exact h.elim
  · exact h.elim
end
def subD : D → D → AH → R D
  | .int i, .int j, A => .ok (.int (i - j)) A
  | _, _, _ => .bad
theorem oSubS {K : PySem.W.Frag} {mg : Str → Option Value} : OpS K mg (rI0 fun i j => .int (i - j)) subD := fun W A H E Q d e x y k rx ry h => by
  unfold subD at h
  split at h
  · exact ⟨_, _, rx, ry, h.ok_at k rfl⟩
  · exact h.elim
def rMulU (K : PySem.W.Frag) : R2 := fun x y H Q => rI CMul (fun i j => .int (i * j)) x y H Q ∨ rRep x y H Q ∨ rRepT K x y H Q
theorem oMul {X : Cx} : OpR X (binaryOp .Mult) (rMulU X.K) := op_mul.or (op_rep.or op_repT)
def repD (k : Nat) (ds : List D) : List D := (List.replicate k ds).flatten
def mulD : D → D → AH → R D
  | .int i, .int j, A => if (-(2 ^ 64) < i ∧ i < 2 ^ 64) ∨ (-(2 ^ 64) < j ∧ j < 2 ^ 64) then .ok (.int (i * j)) A else .bad
  | .tup ds, .int k, A => if ds ≠ [] ∧ 2 ≤ k ∧ k ≤ 1000 ∧ ds.length ≤ 1000 then .ok (.tup (repD k.toNat ds)) A else .bad
  | x, .int k, A => match lstL A x with
    | some ds => if -(2 ^ 63) ≤ k ∧ k < 2 ^ 63 ∧ ds.length * k.toNat ≤ 16777216 then .ok (.lst (repD k.toNat ds)) A else .bad
    | none => .bad
  | _, _, _ => .bad
def mulN : D → D → AH → R D
  | x, .int k, A => match lstL A x with
    | some ds => if -(2 ^ 63) ≤ k ∧ k < 2 ^ 63 ∧ ds.length * k.toNat ≤ 16777216 then .ok (.ref A.length) (A ++ [.lst (repD k.toNat ds)]) else .bad
    | none => .bad
  | _, _, _ => .bad
section
variable {K : PySem.W.Frag} {mg : Str → Option Value}
theorem Reps.rep {W : Wd} {ds : List D} {xs : List V} (r : Reps K W ds xs) : ∀ n : Nat, Reps K W (repD n ds) (List.replicate n xs).flatten
  | 0 => rfl
  | n + 1 => by
    show Reps K W (List.replicate (n + 1) ds).flatten _
    rw [List.replicate_succ, List.replicate_succ, List.flatten_cons, List.flatten_cons]
    exact r.append (Reps.rep r n)
theorem oMulS : OpS K mg (rMulU K) mulD := fun W A H E Q d e x y k rx ry h => by
  unfold mulD at h
  split at h
  · split at h
    · rename_i z
      exact .inl ⟨_, _, rx, ry, z, h.ok_at k rfl⟩
    · exact h.elim
  · split at h
    · rename_i z
      obtain ⟨z1, z2, z3, z4⟩ := z
      obtain ⟨a, xs, ex, sx, r1⟩ := tup_at k rx
      refine .inr (.inr ⟨a, _, xs, ex, ry, sx, fun q => z1 ?_, z2, z3, ?_, fun p hp => post_tup k h (r1.rep _) hp⟩)
      · subst q
        exact List.length_eq_zero_iff.mp r1.length.symm
      · rw [r1.length]
        exact z4
    · exact h.elim
  · split at h
    · rename_i ds e1
      split at h
      · rename_i z
        obtain ⟨a, xs, ex, sx, r1⟩ := lstL_at k rx e1
        refine .inr (.inl ⟨a, _, xs, ex, ry, sx, z.1, z.2.1, ?_, fun p hp => post_lst k h (r1.rep _) hp⟩)
        rw [r1.length]
        exact sz_of z.2.2
      · exact h.elim
    · exact h.elim
  · exact h.elim
theorem oMulNS : OpS K mg (rMulU K) mulN := fun W A H E Q d e x y k rx ry h => by
  unfold mulN at h
  split at h
  · split at h
    · rename_i ds e1
      split at h
      · rename_i z
        obtain ⟨a, xs, ex, sx, r1⟩ := lstL_at k rx e1
        refine .inr (.inl ⟨a, _, xs, ex, ry, sx, z.1, z.2.1, ?_, fun p hp => post_new k h (r1.rep _) hp⟩)
        rw [r1.length]
        exact sz_of z.2.2
      · exact h.elim
    · exact h.elim
  · exact h.elim
end
def fdivD : D → D → AH → R D
  | .int i, .int j, A => if 0 < j ∧ j < 1073741824 then .ok (.int (i / j)) A else .bad
  | _, _, _ => .bad
def modD : D → D → AH → R D
  | .int i, .int j, A => if 0 < j then .ok (.int (i % j)) A else .bad
  | _, _, _ => .bad
def powD : D → D → AH → R D
  | .int i, .int j, A => if 0 ≤ j ∧ j ≤ 1000000 ∧ i.natAbs < 2 ^ 64 then .ok (.int (i ^ j.toNat)) A else .bad
  | _, _, _ => .bad
def negD : D → AH → R D
  | .int i, A => .ok (.int (-i)) A
  | _, _ => .bad
section
variable {K : PySem.W.Frag} {mg : Str → Option Value}
theorem oFdivS : OpS K mg (rI CDiv fun i j => .int (i / j)) fdivD := fun W A H E Q d e x y k rx ry h => by
  unfold fdivD at h
  split at h
  · split at h
    · rename_i z
      exact ⟨_, _, rx, ry, z, h.ok_at k rfl⟩
    · exact h.elim
  · exact h.elim
theorem oModS : OpS K mg (rI (fun _ j => 0 < j) fun i j => .int (i % j)) modD := fun W A H E Q d e x y k rx ry h => by
  unfold modD at h
  split at h
  · split at h
    · rename_i z
      exact ⟨_, _, rx, ry, z, h.ok_at k rfl⟩
    · exact h.elim
  · exact h.elim
theorem oPowS : OpS K mg (rI CPow fun i j => .int (i ^ j.toNat)) powD := fun W A H E Q d e x y k rx ry h => by
  unfold powD at h
  split at h
  · split at h
    · rename_i z
      exact ⟨_, _, rx, ry, z, h.ok_at k rfl⟩
    · exact h.elim
  · exact h.elim
theorem oNegS : UnS K mg (rU fun i => .int (-i)) negD := fun W A H E Q d x k rx h => by
  unfold negD at h
  split at h
  · exact ⟨_, rx, h.ok_at k rfl⟩
  · exact h.elim
end

/-! ### < <= > >= of ints, is None -/
def ltD : D → D → AH → R D
  | .int i, .int j, A => .ok (.bl (decide (i < j))) A
  | _, _, _ => .bad
def leD : D → D → AH → R D
  | .int i, .int j, A => .ok (.bl (decide (i ≤ j))) A
  | _, _, _ => .bad
def gtD : D → D → AH → R D
  | .int i, .int j, A => .ok (.bl (decide (j < i))) A
  | _, _, _ => .bad
def geD : D → D → AH → R D
  | .int i, .int j, A => .ok (.bl (decide (j ≤ i))) A
  | _, _, _ => .bad
def isNon : D → Bool
  | .non => true
  | _ => false
def isD : D → D → AH → R D
  | x, .non, A => .ok (.bl (isNon x)) A
  | _, _, _ => .bad
def isntD : D → D → AH → R D
  | x, .non, A => .ok (.bl (!isNon x)) A
  | _, _, _ => .bad
section
variable {K : PySem.W.Frag} {mg : Str → Option Value}
theorem oLtS : OpS K mg (rI0 fun i j => .bl (decide (i < j))) ltD := fun W A H E Q d e x y k rx ry h => by
  unfold ltD at h
  split at h
  · exact ⟨_, _, rx, ry, h.ok_at k rfl⟩
  · exact h.elim
theorem oLeS : OpS K mg (rI0 fun i j => .bl (decide (i ≤ j))) leD := fun W A H E Q d e x y k rx ry h => by
  unfold leD at h
  split at h
  · exact ⟨_, _, rx, ry, h.ok_at k rfl⟩
  · exact h.elim
theorem oGtS : OpS K mg (rI0 fun i j => .bl (decide (j < i))) gtD := fun W A H E Q d e x y k rx ry h => by
  unfold gtD at h
  split at h
  · exact ⟨_, _, rx, ry, h.ok_at k rfl⟩
  · exact h.elim
theorem oGeS : OpS K mg (rI0 fun i j => .bl (decide (j ≤ i))) geD := fun W A H E Q d e x y k rx ry h => by
  unfold geD at h
  split at h
  · exact ⟨_, _, rx, ry, h.ok_at k rfl⟩
  · exact h.elim
theorem rep_non {W : Wd} {d : D} {x : V} (r : Rep K W d x) : decide (x = .non) = isNon d := by
  cases d with
  | non =>
    cases (show x = .non from r)
    rfl
  | bl b =>
    cases (show x = .bl b from r)
    rfl
  | int b =>
    cases (show x = .int b from r)
    rfl
  | str b =>
    cases (show x = .str b from r)
    rfl
  | tup ds =>
    obtain ⟨a, xs, rfl, _⟩ := r
    rfl
  | lst ds =>
    obtain ⟨a, xs, rfl, _⟩ := r
    rfl
  | dct ks ds =>
    obtain ⟨a, xs, rfl, _⟩ := r
    rfl
  | ref n =>
    obtain ⟨a, rfl, _⟩ := r
    rfl
  | scr n =>
    obtain ⟨a, rfl, _⟩ := r
    rfl
theorem oIsS : OpS K mg (fun x y H Q => y = .non ∧ Q (.bl (decide (x = .non))) H) isD := fun W A H E Q d e x y k rx ry h => by
  unfold isD at h
  split at h
  · refine ⟨ry, ?_⟩
    rw [rep_non rx]
    exact h.ok_at k rfl
  · exact h.elim
theorem oIsntS : OpS K mg (fun x y H Q => y = .non ∧ Q (.bl (!decide (x = .non))) H) isntD := fun W A H E Q d e x y k rx ry h => by
  unfold isntD at h
  split at h
  · refine ⟨ry, ?_⟩
    rw [rep_non rx]
    exact h.ok_at k rfl
  · exact h.elim
end

/-! ### == != : scalars, then data at any depth -/
def scEq : D → D → Option Bool
  | .non, .non => some true
  | .bl a, .bl b => some (a == b)
  | .int a, .int b => some (a == b)
  | .str a, .str b => some (a == b)
  | .non, .int _ | .int _, .non | .non, .bl _ | .bl _, .non | .non, .str _ | .str _, .non => some false
  | .int _, .str _ | .str _, .int _ | .bl _, .str _ | .str _, .bl _ => some false
  | _, _ => none
def pysOf (f : D → Option PyData) : List D → Option (List PyData)
  | [] => some []
  | d :: ds => match f d, pysOf f ds with
    | some p, some ps => some (p :: ps)
    | _, _ => none
/-- data as it can be compared; what changes as it stands now -/
def pyOf : Nat → AH → D → Option PyData
  | 0, _, _ => none
  | n + 1, A, d => match d with
    | .non => some .none
    | .bl b => some (.bool b)
    | .int i => some (.int i)
    | .str s => some (.str s)
    | .tup ds => (pysOf (pyOf n A) ds).map .tuple
    | .lst ds => (pysOf (pyOf n A) ds).map .list
    | .ref k => match A[k]? with
      | some (.lst ds) => (pysOf (pyOf n A) ds).map .list
      | _ => none
    | .scr ns => some (.list (ns.map .int))
    | .dct _ _ => none
def eqD (x y : D) (A : AH) : R D := match scEq x y with
  | some b => .ok (.bl b) A
  | none => match pyOf 12 A x, pyOf 12 A y with
    | some p, some q => if SeqAt.shaped p && SeqAt.shaped q then .ok (.bl (PyData.eqv p q)) A else .bad
    | _, _ => .bad
def neD (x y : D) (A : AH) : R D := match scEq x y with
  | some b => .ok (.bl (!b)) A
  | none => match pyOf 12 A x, pyOf 12 A y with
    | some p, some q => if SeqAt.shaped p && SeqAt.shaped q then .ok (.bl (!PyData.eqv p q)) A else .bad
    | _, _ => .bad
section
variable {K : PySem.W.Frag} {mg : Str → Option Value} {W : Wd} {A : AH} {H : Hp}
theorem dps_of (f : D → Option PyData) (hf : ∀ d p v, f d = some p → Rep K W d v → Dp K H v p) : ∀ (ds : List D) (ps : List PyData) (vs : List V), pysOf f ds = some ps → Reps K W ds vs → DpAll K H vs ps
  | [], ps, vs, e, r => by
    cases (show some [] = some ps from e)
    cases (show vs = [] from r)
    exact .nil
  | d :: ds, ps, vs, e, r => by
    unfold pysOf at e
    split at e
    · rename_i p ps' e1 e2
      cases e
      obtain ⟨v, r', rfl, h1, h2⟩ := r
      exact .cons (hf d p v e1 h1) (dps_of f hf ds ps' r' e2 h2)
    · cases e
theorem dp_ints : ∀ ns : List Int, DpAll K H (ns.map V.int) (ns.map PyData.int)
  | [] => .nil
  | n :: ns => .cons (.int n) (dp_ints ns)
theorem dp_of (k : Ok K mg W A H) : ∀ (n : Nat) (d : D) (p : PyData) (v : V), pyOf n A d = some p → Rep K W d v → Dp K H v p
  | 0, _, _, _, e, _ => by cases (show none = some _ from e)
  | n + 1, d, p, v, e, r => by
    cases d with
    | non =>
      cases (show some PyData.none = some p from e)
      cases (show v = .non from r)
      exact .non
    | bl b =>
      cases (show some (PyData.bool b) = some p from e)
      cases (show v = .bl b from r)
      exact .bl b
    | int b =>
      cases (show some (PyData.int b) = some p from e)
      cases (show v = .int b from r)
      exact .int b
    | str b =>
      cases (show some (PyData.str b) = some p from e)
      cases (show v = .str b from r)
      exact .str b
    | tup ds =>
      obtain ⟨ps, e1, rfl⟩ := Option.map_eq_some_iff.mp (show (pysOf (pyOf n A) ds).map PyData.tuple = some p from e)
      obtain ⟨a, xs, rfl, sx, rr⟩ := tup_at k r
      exact .tup sx (dps_of _ (fun d p v => dp_of k n d p v) ds ps xs e1 rr)
    | lst ds =>
      obtain ⟨ps, e1, rfl⟩ := Option.map_eq_some_iff.mp (show (pysOf (pyOf n A) ds).map PyData.list = some p from e)
      obtain ⟨a, xs, rfl, sx, rr⟩ := seqL_at k r (ds := ds) rfl
      exact .lst sx (dps_of _ (fun d p v => dp_of k n d p v) ds ps xs e1 rr)
    | ref j =>
      unfold pyOf at e
      dsimp only at e
      split at e
      · rename_i ds q
        obtain ⟨ps, e1, rfl⟩ := Option.map_eq_some_iff.mp e
        obtain ⟨a, rfl, ha⟩ := r
        obtain ⟨xs, hx, rr⟩ := k.lookL ha q
        exact .lst (.of hx) (dps_of _ (fun d p v => dp_of k n d p v) ds ps xs e1 rr)
      · cases e
    | scr ns =>
      cases (show some (PyData.list (ns.map .int)) = some p from e)
      obtain ⟨a, rfl, hs⟩ := r
      exact .lst (k.sqL hs) (dp_ints ns)
    | dct ks ds => cases (show none = some p from e)
theorem scEq_at {d e : D} {x y : V} {b : Bool} (h : scEq d e = some b) (rx : Rep K W d x) (ry : Rep K W e y) : scal x y = true ∧ decide (x = y) = b := by
  unfold scEq at h
  split at h
  all_goals first
    | (cases h
       cases rx
       cases ry
       exact ⟨rfl, by first | rfl | exact dec_int | exact dec_bl | exact dec_str⟩)
    | cases h
end
def rEqU (K : PySem.W.Frag) : R2 := fun x y H Q => rEq x y H Q ∨ rEqD K x y H Q
def rNeU (K : PySem.W.Frag) : R2 := fun x y H Q => rNe x y H Q ∨ rNeD K x y H Q
theorem oEq {X : Cx} {k : Nat} (hr : Room k X.A) : OpR X (compareOp .Eq) (rEqU X.K) := op_eq.or (op_eqD hr.units)
theorem oNe {X : Cx} {k : Nat} (hr : Room k X.A) : OpR X (compareOp .NotEq) (rNeU X.K) := op_ne.or (op_neD hr.units)
section
variable {K : PySem.W.Frag} {mg : Str → Option Value}
theorem oEqS : OpS K mg (rEqU K) eqD := fun W A H E Q d e x y k rx ry h => by
  unfold eqD at h
  split at h
  · rename_i b hb
    obtain ⟨h1, h2⟩ := scEq_at hb rx ry
    refine .inl ⟨h1, ?_⟩
    rw [h2]
    exact h.ok_at k rfl
  · split at h
    · rename_i p q e1 e2
      split at h
      · rename_i z
        have z' := Bool.and_eq_true_iff.mp z
        exact .inr ⟨p, q, dp_of k _ _ _ _ e1 rx, dp_of k _ _ _ _ e2 ry, z'.1, z'.2, h.ok_at k rfl⟩
      · exact h.elim
    · exact h.elim
theorem oNeS : OpS K mg (rNeU K) neD := fun W A H E Q d e x y k rx ry h => by
  unfold neD at h
  split at h
  · rename_i b hb
    obtain ⟨h1, h2⟩ := scEq_at hb rx ry
    refine .inl ⟨h1, ?_⟩
    rw [h2]
    exact h.ok_at k rfl
  · split at h
    · rename_i p q e1 e2
      split at h
      · rename_i z
        have z' := Bool.and_eq_true_iff.mp z
        exact .inr ⟨p, q, dp_of k _ _ _ _ e1 rx, dp_of k _ _ _ _ e2 ry, z'.1, z'.2, h.ok_at k rfl⟩
      · exact h.elim
    · exact h.elim
end
end Tg

set_option Elab.async false
set_option linter.all false
set_option maxRecDepth 100000
set_option maxHeartbeats 1000000
/-! TgSeq: in, subscripts, slices, displays, fields, dicts, built-ins and methods by values. -/
namespace Tg
open PySem PySem.Spec PyProof.Rows L2

/-! ### dicts as tables -/
def lkK (kvs : List (Key × D)) (k : Key) : Option D := (kvs.find? fun kv => decide (kv.1 = k)).map (·.2)
def ptK (kvs : List (Key × D)) (k : Key) (d : D) : List (Key × D) :=
  if (kvs.any fun kv => decide (kv.1 = k)) = true then kvs.map (fun kv => if kv.1 = k then (kv.1, d) else kv) else kvs ++ [(k, d)]
def keyD : D → Option Key
  | .int i => some (.inl i)
  | .str s => some (.inr s)
  | _ => none
/-- a dict's pairs -/
def dctD (A : AH) : D → Option (List (Key × D))
  | .dct ks ds => some (ks.zip ds)
  | .ref n => match A[n]? with
    | some (.dct kvs) => some kvs
    | _ => none
  | _ => none
def KVR (K : PySem.W.Frag) (W : Wd) (kvs : List (Key × D)) (vs : List (Key × V)) : Prop := vs.map (·.1) = kvs.map (·.1) ∧ Reps K W (kvs.map (·.2)) (vs.map (·.2))
section
variable {K : PySem.W.Frag} {mg : Str → Option Value} {W : Wd} {A : AH} {H : Hp}
theorem KVR.le {W' : Wd} (l : Le W W') {kvs : List (Key × D)} {vs : List (Key × V)} (r : KVR K W kvs vs) : KVR K W' kvs vs := ⟨r.1, r.2.le l⟩
theorem KVR.cons_iff {p : Key × D} {kvs : List (Key × D)} {vs : List (Key × V)} (r : KVR K W (p :: kvs) vs) : ∃ v vs', vs = (p.1, v) :: vs' ∧ Rep K W p.2 v ∧ KVR K W kvs vs' := by
  obtain ⟨h1, h2⟩ := r
  cases vs with
  | nil => cases h1
  | cons q vs =>
    obtain ⟨v, r', e, h3, h4⟩ := h2
    obtain ⟨qk, qv⟩ := q
    simp only [List.map_cons, List.cons.injEq] at h1 e
    obtain ⟨e1, e2⟩ := h1
    obtain ⟨e3, e4⟩ := e
    subst e1 e3 e4
    exact ⟨_, _, rfl, h3, e2, h4⟩
theorem KVR.nil_iff {vs : List (Key × V)} (r : KVR K W [] vs) : vs = [] := by
  cases vs with
  | nil => rfl
  | cons q vs => cases r.1
theorem KVR.get {k : Key} {d : D} : ∀ {kvs : List (Key × D)} {vs : List (Key × V)}, KVR K W kvs vs → lkK kvs k = some d → ∃ v, valV vs k = some v ∧ Rep K W d v
  | [], _, _, e => by cases e
  | p :: kvs, vs, r, e => by
    obtain ⟨v, vs', rfl, h1, h2⟩ := r.cons_iff
    by_cases q : p.1 = k
    · have e' : lkK (p :: kvs) k = some p.2 := by simp [lkK, List.find?_cons, q]
      rw [e'] at e
      cases e
      exact ⟨v, valV_pos q, h1⟩
    · have e' : lkK (p :: kvs) k = lkK kvs k := by simp [lkK, List.find?_cons, q]
      rw [e'] at e
      obtain ⟨u, h3, h4⟩ := KVR.get h2 e
      exact ⟨u, by rw [valV_neg q]; exact h3, h4⟩
theorem KVR.none {k : Key} : ∀ {kvs : List (Key × D)} {vs : List (Key × V)}, KVR K W kvs vs → lkK kvs k = none → valV vs k = none
  | [], _, r, _ => by
    cases r.nil_iff
    rfl
  | p :: kvs, vs, r, e => by
    obtain ⟨v, vs', rfl, h1, h2⟩ := r.cons_iff
    by_cases q : p.1 = k
    · have e' : lkK (p :: kvs) k = some p.2 := by simp [lkK, List.find?_cons, q]
      rw [e'] at e
      cases e
    · have e' : lkK (p :: kvs) k = lkK kvs k := by simp [lkK, List.find?_cons, q]
      rw [e'] at e
      rw [valV_neg q]
      exact KVR.none h2 e
theorem KVR.isSome {k : Key} {kvs : List (Key × D)} {vs : List (Key × V)} (r : KVR K W kvs vs) : (valV vs k).isSome = (lkK kvs k).isSome := by
  cases e : lkK kvs k with
  | none =>
    rw [r.none e]
    rfl
  | some d =>
    obtain ⟨v, e1, _⟩ := r.get e
    rw [e1]
    rfl
theorem KVR.any {k : Key} : ∀ {kvs : List (Key × D)} {vs : List (Key × V)}, KVR K W kvs vs → (vs.any fun kv => decide (kv.1 = k)) = (kvs.any fun kv => decide (kv.1 = k))
  | [], _, r => by
    cases r.nil_iff
    rfl
  | p :: kvs, vs, r => by
    obtain ⟨v, vs', rfl, h1, h2⟩ := r.cons_iff
    simp only [List.any_cons, KVR.any h2]
theorem KVR.mk_cons {k : Key} {d : D} {v : V} {kvs : List (Key × D)} {vs : List (Key × V)} (h : Rep K W d v) (r : KVR K W kvs vs) : KVR K W ((k, d) :: kvs) ((k, v) :: vs) :=
  ⟨by simp only [List.map_cons, r.1], by simp only [List.map_cons]; exact Reps.cons h r.2⟩
theorem KVR.app {kvs lvs : List (Key × D)} {vs us : List (Key × V)} (r : KVR K W kvs vs) (r' : KVR K W lvs us) : KVR K W (kvs ++ lvs) (vs ++ us) :=
  ⟨by rw [List.map_append, List.map_append, r.1, r'.1], by rw [List.map_append, List.map_append]; exact r.2.append r'.2⟩
theorem KVR.over {k : Key} {d : D} {v : V} (h : Rep K W d v) : ∀ {kvs : List (Key × D)} {vs : List (Key × V)}, KVR K W kvs vs →
    KVR K W (kvs.map (fun kv => if kv.1 = k then (kv.1, d) else kv)) (vs.map (fun kv => if kv.1 = k then (kv.1, v) else kv))
  | [], _, r => by
    cases r.nil_iff
    exact ⟨rfl, rfl⟩
  | p :: kvs, vs, r => by
    obtain ⟨u, vs', rfl, h1, h2⟩ := r.cons_iff
    by_cases q : p.1 = k
    · simp only [List.map_cons, if_pos q]
      exact KVR.mk_cons h (KVR.over h h2)
    · simp only [List.map_cons, if_neg q]
      exact KVR.mk_cons (k := p.1) (d := p.2) h1 (KVR.over h h2)
theorem KVR.put {k : Key} {d : D} {v : V} {kvs : List (Key × D)} {vs : List (Key × V)} (r : KVR K W kvs vs) (h : Rep K W d v) : KVR K W (ptK kvs k d) (putK vs k v) := by
  unfold ptK putK
  rw [r.any]
  split
  · exact KVR.over h r
  · exact r.app ⟨rfl, Reps.one h⟩
theorem KVR.len {kvs : List (Key × D)} {vs : List (Key × V)} (r : KVR K W kvs vs) : vs.length = kvs.length := by
  have := congrArg List.length r.1
  simpa using this
theorem KVR.zip : ∀ {ks : List Key} {ds : List D} {vs : List (Key × V)}, vs.map (·.1) = ks → Reps K W ds (vs.map (·.2)) → KVR K W (ks.zip ds) vs
  | [], ds, vs, e, r => by
    cases vs with
    | nil => exact ⟨rfl, rfl⟩
    | cons q vs => cases e
  | k :: ks, ds, vs, e, r => by
    cases vs with
    | nil => cases e
    | cons q vs =>
      obtain ⟨qk, qv⟩ := q
      simp only [List.map_cons, List.cons.injEq] at e
      cases ds with
      | nil => cases (show _ = [] from r)
      | cons d ds =>
        obtain ⟨v, r', e2, h1, h2⟩ := r
        simp only [List.map_cons, List.cons.injEq] at e2
        obtain ⟨e3, e4⟩ := e2
        subst e3
        rw [← e4] at h2
        rw [← e.1]
        exact KVR.mk_cons h1 (KVR.zip e.2 h2)
theorem dctD_at (k : Ok K mg W A H) {d : D} {v : V} (r : Rep K W d v) {kvs : List (Key × D)} (e : dctD A d = some kvs) : ∃ a vs, v = .ref a ∧ H a = some (.dK vs) ∧ KVR K W kvs vs := by
  cases d with
  | dct ks ds =>
    obtain ⟨a, vs, ev, ha, hk, rr⟩ := r
    cases (show some (ks.zip ds) = some kvs from e)
    exact ⟨a, vs, ev, k.frz _ _ ha, KVR.zip hk rr⟩
  | ref n =>
    obtain ⟨a, ev, ha⟩ := r
    unfold dctD at e
    dsimp only at e
    split at e
    · rename_i es q
      cases e
      obtain ⟨vs, hx, hk, rr⟩ := k.obj n a _ ha q
      exact ⟨a, vs, ev, hx, hk, rr⟩
    · cases e
  | _ => cases (show none = some kvs from e)
theorem keyD_at {d : D} {v : V} {k : Key} (r : Rep K W d v) (e : keyD d = some k) : v = kV k := by
  cases d with
  | int i =>
    cases (show some (Sum.inl i) = some k from e)
    exact r
  | str s =>
    cases (show some (Sum.inr s) = some k from e)
    exact r
  | _ => cases (show none = some k from e)
end

/-! ### in, not in -/
def flatD : D → Bool
  | .non | .bl _ | .int _ | .str _ => true
  | _ => false
def feq : D → D → Bool
  | .non, .non => true
  | .bl a, .bl b => a == b
  | .bl a, .int b => (if a then 1 else 0) == b
  | .int a, .bl b => a == (if b then 1 else 0)
  | .int a, .int b => a == b
  | .str a, .str b => a == b
  | _, _ => false
section
variable {K : PySem.W.Frag} {mg : Str → Option Value} {W : Wd} {A : AH} {H : Hp}
theorem flat_at {d : D} {v : V} (r : Rep K W d v) (f : flatD d = true) : flatV v = true := by
  cases d <;> first
    | (cases r; rfl)
    | cases (show false = true from f)
theorem feq_at {d e : D} {v u : V} (r : Rep K W d v) (q : Rep K W e u) (f : flatD d = true) (g : flatD e = true) : eqV v u = feq d e := by
  cases d <;> first
    | cases (show false = true from f)
    | (cases e <;> first
        | cases (show false = true from g)
        | (cases r
           cases q
           rfl))
theorem flats_at : ∀ {ds : List D} {vs : List V}, Reps K W ds vs → ds.all flatD = true → vs.all flatV = true
  | [], _, r, _ => by
    cases (show _ = [] from r)
    rfl
  | d :: ds, _, r, f => by
    obtain ⟨v, r', rfl, h1, h2⟩ := r
    simp only [List.all_cons, Bool.and_eq_true] at f ⊢
    exact ⟨flat_at h1 f.1, flats_at h2 f.2⟩
theorem inV_at {d : D} {v : V} (r : Rep K W d v) (f : flatD d = true) : ∀ {ds : List D} {vs : List V}, Reps K W ds vs → ds.all flatD = true → inV v vs = ds.any fun y => feq y d
  | [], _, r', _ => by
    cases (show _ = [] from r')
    rfl
  | e :: ds, _, r', g => by
    obtain ⟨u, r2, rfl, h1, h2⟩ := r'
    simp only [List.all_cons, Bool.and_eq_true] at g
    have := inV_at r f h2 g.2
    unfold inV at this ⊢
    simp only [List.any_cons, this, feq_at h1 r g.1 f]
end
def itemsD (A : AH) : D → Option (List D)
  | .tup ds => some ds
  | d => seqL A d
def inB (x y : D) (A : AH) : Option Bool := match x, y with
  | .str s, .str t => some (!(Builtin.Str.occurrences t s 0 t.length 1).isEmpty)
  | x, y => match dctD A y with
    | some kvs => (keyD x).map fun k => (lkK kvs k).isSome
    | none => match itemsD A y with
      | some ds => if (flatD x && ds.all flatD) = true then some (ds.any fun z => feq z x) else
          match seqL A y, pyOf 12 A x, pyOf 12 A y with
          | some _, some p, some (.list qs) => if SeqAt.shaped p && SeqAt.shaped (.list qs) then some (qs.any fun z => PyData.eqv z p) else none
          | _, _, _ => none
      | none => none
def inD (x y : D) (A : AH) : R D := match inB x y A with
  | some b => .ok (.bl b) A
  | none => .bad
def ninD (x y : D) (A : AH) : R D := match inB x y A with
  | some b => .ok (.bl (!b)) A
  | none => .bad
def rInDct (neg : Bool) : R2 := fun x y H Q => ∃ a o, y = .ref a ∧ DGet H a x o ∧ Q (.bl (if neg then !o.isSome else o.isSome)) H
def rInAll (K : PySem.W.Frag) : R2 := fun x y H Q =>
  ((∃ i j, x = .str i ∧ y = .str j ∧ Q (.bl (!(Builtin.Str.occurrences j i 0 j.length 1).isEmpty)) H) ∨ rInDct false x y H Q) ∨ rIn K false x y H Q ∨ rInD K x y H Q
def rNInAll (K : PySem.W.Frag) : R2 := fun x y H Q =>
  ((∃ i j, x = .str i ∧ y = .str j ∧ Q (.bl (!(!(Builtin.Str.occurrences j i 0 j.length 1).isEmpty))) H) ∨ rInDct true x y H Q) ∨ rIn K true x y H Q ∨ rNotInD K x y H Q
section
variable {X : Cx}
theorem op_in_dct (hu : X.A.units + 1 < cLine) : OpR X (compareOp .In) (rInDct false) := by
  intro pn st sg Hh xv yv vv uu QQ II rx ry hh
  obtain ⟨a, o, rfl, g, q⟩ := hh
  obtain rfl : uu = Value.ref a := ry
  exact d_in hu II g rx fun s3 I3 => ⟨.bl o.isSome, Hh, I3, rfl, q⟩
theorem op_nin_dct (hu : X.A.units + 1 < cLine) : OpR X (compareOp .NotIn) (rInDct true) := by
  intro pn st sg Hh xv yv vv uu QQ II rx ry hh
  obtain ⟨a, o, rfl, g, q⟩ := hh
  obtain rfl : uu = Value.ref a := ry
  exact d_notIn hu II g rx fun s3 I3 => ⟨.bl (!o.isSome), Hh, I3, rfl, q⟩
theorem room_u1 {k : Nat} {B : Around} (r : Room k B) : B.units + 1 < cLine := by have := r.un; omega
theorem room_u65 {k : Nat} {B : Around} (r : Room k B) : B.units + 65 < cLine := by have := r.un; omega
theorem oIn {k : Nat} (hr : Room k X.A) : OpR X (compareOp .In) (rInAll X.K) := (op_in_str.or (op_in_dct (room_u1 hr))).or (op_in_seq.or (op_inD (room_u65 hr)))
theorem oNIn {k : Nat} (hr : Room k X.A) : OpR X (compareOp .NotIn) (rNInAll X.K) := (op_notin_str.or (op_nin_dct (room_u1 hr))).or (op_notIn_seq.or (op_notInD (room_u65 hr)))
end
section
variable {K : PySem.W.Frag} {mg : Str → Option Value} {W : Wd} {A : AH} {H : Hp}
theorem itemsD_at (k : Ok K mg W A H) {d : D} {v : V} (r : Rep K W d v) {ds : List D} (e : itemsD A d = some ds) : ∃ a xs, v = .ref a ∧ (SqL K H a xs ∨ SqT K H a xs) ∧ Reps K W ds xs := by
  cases d with
  | tup es =>
    cases (show some es = some ds from e)
    obtain ⟨a, xs, h1, h2, h3⟩ := tup_at k r
    exact ⟨a, xs, h1, .inr h2, h3⟩
  | _ =>
    obtain ⟨a, xs, h1, h2, h3⟩ := seqL_at k r e
    exact ⟨a, xs, h1, .inl h2, h3⟩
theorem inB_at (k : Ok K mg W A H) {d e : D} {x y : V} (rx : Rep K W d x) (ry : Rep K W e y) {b : Bool} (h : inB d e A = some b) :
    (∃ i j, x = .str i ∧ y = .str j ∧ b = (!(Builtin.Str.occurrences j i 0 j.length 1).isEmpty)) ∨ (∃ a o, y = .ref a ∧ DGet H a x o ∧ b = o.isSome) ∨
      (∃ p xs, y = .ref p ∧ (SqL K H p xs ∨ SqT K H p xs) ∧ flatV x = true ∧ xs.all flatV = true ∧ b = inV x xs) ∨
        ∃ d ds, Dp K H x d ∧ Dp K H y (.list ds) ∧ SeqAt.shaped d = true ∧ SeqAt.shaped (.list ds) = true ∧ b = ds.any fun z => PyData.eqv z d := by
  unfold inB at h
  split at h
  · cases h
    exact .inl ⟨_, _, rx, ry, rfl⟩
  · split at h
    · rename_i kvs e1
      obtain ⟨kk, e2, e3⟩ := Option.map_eq_some_iff.mp h
      obtain ⟨a, vs, rfl, h1, h2⟩ := dctD_at k ry e1
      refine .inr (.inl ⟨a, valV vs kk, rfl, ?_, ?_⟩)
      · rw [keyD_at rx e2]
        exact .k h1
      · rw [h2.isSome, e3]
    · split at h
      · rename_i ds e1
        obtain ⟨a, xs, rfl, h1, h2⟩ := itemsD_at k ry e1
        split at h
        · rename_i f
          cases h
          have f' := Bool.and_eq_true_iff.mp f
          exact .inr (.inr (.inl ⟨a, xs, rfl, h1, flat_at rx f'.1, flats_at h2 f'.2, (inV_at rx f'.1 h2 f'.2).symm⟩))
        · split at h
          · rename_i es p qs _ e4 e5
            split at h
            · rename_i z
              cases h
              have z' := Bool.and_eq_true_iff.mp z
              exact .inr (.inr (.inr ⟨p, qs, dp_of k _ _ _ _ e4 rx, dp_of k _ _ _ _ e5 ry, z'.1, z'.2, rfl⟩))
            · cases h
          · cases h
      · cases h
theorem oInS : OpS K mg (rInAll K) inD := fun W A H E Q d e x y k rx ry h => by
  unfold inD at h
  split at h
  · rename_i b hb
    rcases inB_at k rx ry hb with ⟨i, j, e1, e2, rfl⟩ | ⟨a, o, e1, g, rfl⟩ | ⟨p, xs, e1, h1, h2, h3, rfl⟩ | ⟨p, ds, h1, h2, h3, h4, rfl⟩
    · exact .inl (.inl ⟨i, j, e1, e2, h.ok_at k rfl⟩)
    · exact .inl (.inr ⟨a, o, e1, g, h.ok_at k rfl⟩)
    · exact .inr (.inl ⟨p, xs, e1, h1, h2, h3, h.ok_at k rfl⟩)
    · exact .inr (.inr ⟨p, ds, h1, h2, h3, h4, h.ok_at k rfl⟩)
  · exact h.elim
theorem oNInS : OpS K mg (rNInAll K) ninD := fun W A H E Q d e x y k rx ry h => by
  unfold ninD at h
  split at h
  · rename_i b hb
    rcases inB_at k rx ry hb with ⟨i, j, e1, e2, rfl⟩ | ⟨a, o, e1, g, rfl⟩ | ⟨p, xs, e1, h1, h2, h3, rfl⟩ | ⟨p, ds, h1, h2, h3, h4, rfl⟩
    · exact .inl (.inl ⟨i, j, e1, e2, h.ok_at k rfl⟩)
    · exact .inl (.inr ⟨a, o, e1, g, h.ok_at k rfl⟩)
    · exact .inr (.inl ⟨p, xs, e1, h1, h2, h3, h.ok_at k rfl⟩)
    · exact .inr (.inr ⟨p, ds, h1, h2, h3, h4, h.ok_at k rfl⟩)
  · exact h.elim
end

/-! ### subscripts -/
def ixD : D → D → AH → R D
  | .str z, .int i, A => match (if z.length ≤ 16777216 then atI z.cps.toList i else none) with
    | some c => .ok (.str ⟨#[c]⟩) A
    | none => .bad
  | x, y, A => match dctD A x with
    | some kvs => match (keyD y).bind (lkK kvs) with
      | some d => .ok d A
      | none => .bad
    | none => match itemsD A x, y with
      | some ds, .int i => match atI ds i with
        | some d => .ok d A
        | none => .bad
      | _, _ => .bad
def rIxDct : R2 := fun x y H Q => ∃ a v, x = .ref a ∧ DGet H a y (some v) ∧ Q v H
def rIxU (K : PySem.W.Frag) : R2 := fun x y H Q => rIxDct x y H Q ∨ rIx K x y H Q
section
variable {X : Cx}
theorem ix_dct (hu : X.A.units + 1 < cLine) : IxR X rIxDct := by
  intro val sl pn st sg Hh xv yv vv uu QQ II rx ry hh hs
  obtain ⟨a, z, rfl, g, q⟩ := hh
  obtain rfl : vv = Value.ref a := rx
  have hT := dict_typeIs II g
  unfold subscriptTail
  refine wpAny_bind ?_
  rw [getitemInPython_of_ne hT.not_modules]
  refine wpAny_bind (wpAny_specialOf hT PySem.F.slot_dict_getitem.lookup ?_)
  have fin : wpAny (model X.prog X.w) X.A (subscripted sl false (.ref a) uu) (fun r s3 => wpAny (model X.prog X.w) X.A (letTemporaryGo val (.ref a) r >>= fun _ => pure r) (EP X pn sg QQ) X.xe s3) X.xe st := by
    rw [hs]
    exact wpAny_operating (wpAny_mono (d_getItem (Q := EP X pn sg QQ) hu II g ry fun w2 s3 I3 rw2 => ⟨z, Hh, I3, rw2, q⟩) (fun r s3 h3 => wpAny_bind (wpAny_letTemporaryGo (wpAny_pure h3))) fun _ _ x => x)
  first
    | exact wpAny_pure (wpAny_bind fin)
    | exact wpAny_bind (wpAny_pure (wpAny_bind fin))
    | exact wpAny_bind fin
theorem oIx {k : Nat} (hr : Room k X.A) : IxR X (rIxU X.K) := (ix_dct (room_u1 hr)).or ix_seq
end
section
variable {K : PySem.W.Frag} {mg : Str → Option Value} {W : Wd} {A : AH} {H : Hp}
theorem Reps.atI {ds : List D} {xs : List V} {i : Int} {d : D} (r : Reps K W ds xs) (e : L2.atI ds i = some d) : ∃ v, L2.atI xs i = some v ∧ Rep K W d v := by
  unfold L2.atI at e ⊢
  rw [r.length]
  cases h : ixN ds.length i with
  | none =>
    rw [h] at e
    cases e
  | some j =>
    rw [h] at e
    exact r.get e
theorem oIxS : OpS K mg (rIxU K) ixD := fun W A H E Q d e x y k rx ry h => by
  unfold ixD at h
  split at h
  · split at h
    · rename_i c hc
      split at hc
      · rename_i z
        exact .inr (.inr (.inr ⟨_, _, c, rx, ry, sz_of z, hc, h.ok_at k rfl⟩))
      · cases hc
    · exact h.elim
  · split at h
    · rename_i kvs e1
      split at h
      · rename_i d' e2
        obtain ⟨kk, e3, e4⟩ := Option.bind_eq_some_iff.mp e2
        obtain ⟨a, vs, rfl, h1, h2⟩ := dctD_at k rx e1
        obtain ⟨v, h3, h4⟩ := h2.get e4
        refine .inl ⟨a, v, rfl, ?_, h.ok_at k h4⟩
        rw [keyD_at ry e3, ← h3]
        exact .k h1
      · exact h.elim
    · split at h
      · rename_i e1 _
        split at h
        · rename_i e2
          obtain ⟨a, xs, rfl, h1, h2⟩ := itemsD_at k rx e1
          obtain ⟨v, h3, h4⟩ := h2.atI e2
          rcases h1 with h1 | h1
          · exact .inr (.inl ⟨a, xs, _, v, rfl, ry, h1, h3, h.ok_at k h4⟩)
          · exact .inr (.inr (.inl ⟨a, xs, _, v, rfl, ry, h1, h3, h.ok_at k h4⟩))
        · exact h.elim
      · exact h.elim
end

/-! ### slices -/
def cutD (ds : List D) (lo hi : Option Int) : List D := (ds.drop (HT.sIx ds.length 0 lo)).take (HT.sIx ds.length ds.length hi - HT.sIx ds.length 0 lo)
def slD (x : D) (lo hi : Option Int) (A : AH) : R D := match x with
  | .str z => if z.length ≤ 16777216 then .ok (.str (cutS z lo hi)) A else .bad
  | .tup ds => .ok (.tup (cutD ds lo hi)) A
  | x => match seqL A x with
    | some ds => .ok (.lst (cutD ds lo hi)) A
    | none => .bad
def rSlU (K : PySem.W.Frag) : V → Option Int → Option Int → Hp → VK → Prop := fun x lo hi H Q => rSlS x lo hi H Q ∨ rSlA K x lo hi H Q ∨ rSlL K x lo hi H Q
theorem oSl {X : Cx} : L2.SlR X (rSlU X.K) := sl_str.or (sl_tupA.or sl_list)
section
variable {K : PySem.W.Frag} {mg : Str → Option Value} {W : Wd} {A : AH} {H : Hp}
theorem Reps.cut {ds : List D} {xs : List V} (r : Reps K W ds xs) (lo hi : Option Int) : Reps K W (cutD ds lo hi) (cutV xs lo hi) := by
  unfold cutD cutV
  rw [r.length]
  exact (r.drop _).take _
theorem oSlS {E : XK} {Q : VK} {d : D} {x : V} {lo hi : Option Int} (k : Ok K mg W A H) (rx : Rep K W d x) (h : Post K mg (Rep K) W H E Q (slD d lo hi A)) : rSlU K x lo hi H Q := by
  unfold slD at h
  split at h
  · split at h
    · rename_i z
      exact .inl ⟨_, rx, sz_of z, h.ok_at k rfl⟩
    · exact h.elim
  · rename_i ds
    obtain ⟨a, xs, rfl, h1, h2⟩ := tup_at k rx
    refine .inr (.inl ⟨a, xs, rfl, h1, fun q => ?_, fun _ p hp => post_tup k h (h2.cut lo hi) hp⟩)
    have e : cutD ds lo hi = ds := by
      unfold cutD
      rw [h2.length] at q
      rw [q.1, q.2]
      simp
    rw [e] at h
    exact h.ok_at k rx
  · split at h
    · rename_i ds e1
      obtain ⟨a, xs, rfl, h1, h2⟩ := seqL_at k rx e1
      exact .inr (.inr ⟨a, xs, rfl, h1, fun p hp => post_lst k h (h2.cut lo hi) hp⟩)
    · exact h.elim
end
end Tg

set_option Elab.async false
set_option linter.all false
set_option maxRecDepth 100000
set_option maxHeartbeats 1000000
/-! TgCall: subscripts, slices, displays, fields, calls as expressions. -/
namespace Tg
open PySem PySem.Spec PyProof.Rows L2

/-! ### a cell beside is taken in -/
def delH (H : Hp) (p : Addr) : Hp := fun b => if b = p then none else H b
theorem delH_same {H : Hp} {p : Addr} : delH H p p = none := if_pos rfl
theorem delH_ne {H : Hp} {p b : Addr} (h : b ≠ p) : delH H p b = H b := if_neg h
theorem upd_delH {H : Hp} {p : Addr} {o : HO} : upd (delH H p) p o = upd H p o := by
  funext b
  by_cases h : b = p
  · rw [h, upd_same, upd_same]
  · rw [upd_ne h, upd_ne h, delH_ne h]
section
variable {K : PySem.W.Frag} {mg : Str → Option Value} {W0 W1 : Wd} {A0 A1 : AH} {H0 H1 : Hp} {p : Addr} {u : HO}
theorem Ok.undo (hp : H0 p = none) (k0 : Ok K mg W0 A0 H0) (e : Ext W0 (upd H0 p u) W1 H1) (k1 : Ok K mg W1 A1 H1) (hu : ∀ tb, u ≠ .tbl tb := by intro _ h; cases h) :
    p ∉ W1.m ∧ W1.F p = none ∧ Ok K mg W1 A1 (delH H1 p) ∧ Ext W0 H0 W1 (delH H1 p) ∧ H1 p = some u := by
  have nm := k0.notm hp
  have nF := k0.notF hp
  have nm1 : p ∉ W1.m := fun q => by
    have z := e.fm p q nm
    rw [upd_same] at z
    cases z
  have nF1 : W1.F p = none := by
    cases q : W1.F p with
    | none => rfl
    | some o =>
      have z := e.fF p o q nF
      rw [upd_same] at z
      cases z
  refine ⟨nm1, nF1, ⟨fun a o h => ?_, fun n a o h1 h2 => (k1.sep n a o h1 h2).at rfl (delH_ne (show a ≠ p from fun q => nm1 (q ▸ List.mem_of_getElem? h1))), k1.nd, k1.len, fun n a o h1 h2 => ?_, fun x hx P hP => (k1.tab x hx P hP).keep (fun _ _ e => e) (delH_ne ((k0.tab x hx P hP).ne hp)) (k1.tab x hx P hP).nm (k1.tab x hx P hP).nF⟩, ⟨e.le, fun a o h t n => ?_, fun a h => ?_, fun a o h n => ?_, fun a h n => ?_⟩, e.out p u upd_same hu nm⟩
  · have z : a ≠ p := fun q => by
      rw [q, nF1] at h
      cases h
    rw [delH_ne z]
    exact k1.frz a o h
  · have z : a ≠ p := fun q => nm1 (q ▸ List.mem_of_getElem? h1)
    rw [delH_ne z]
    exact k1.obj n a o h1 h2
  · have z : a ≠ p := fun q => by
      rw [q, hp] at h
      cases h
    rw [delH_ne z]
    exact e.out a o (by rw [upd_ne z]; exact h) t n
  · by_cases q : a = p
    · rw [q]
      exact hp
    · rw [delH_ne q] at h
      have z := e.dom a h
      rw [upd_ne q] at z
      exact z
  · have z := e.fF a o h n
    by_cases q : a = p
    · rw [q]
      exact hp
    · rw [upd_ne q] at z
      exact z
  · have z := e.fm a h n
    by_cases q : a = p
    · rw [q]
      exact hp
    · rw [upd_ne q] at z
      exact z
end

/-! ### displays -/
def mTup (m : MA) : ME := fun s A => (m s A).bind fun ds A1 => if ds.length ≤ 16777216 then .ok (.tup ds) A1 else .bad
def mLst (m : MA) : ME := fun s A => (m s A).bind fun ds A1 => if ds.length ≤ 16777216 then .ok (.lst ds) A1 else .bad
/-- a list that will change -/
def mLstN (m : MA) : ME := fun s A => (m s A).bind fun ds A1 => if ds.length ≤ 16777216 then .ok (.ref A1.length) (A1 ++ [.lst ds]) else .bad
section
variable {X : Cx} {Wx : WX} {e : Expr} {es : List Expr} {te : TE} {t : TA} {me : ME} {m : MA} {pos : Pos}
theorem stup {j : Nat} (h : SA X Wx es t m) : SE X Wx (.Tuple es j pos) (tTup t) (mTup m) :=
  ⟨pe_tup h.pa, fun W σ s A H Q k sr z => h.sim W σ s A H _ k sr (z.bind fun ds A1 vs W1 H1 e1 k1 r1 h1 => by
    by_cases q : ds.length ≤ 16777216
    · rw [if_pos q] at h1
      exact ⟨by rw [r1.length]; exact sz_of q, fun p hp => post_tup k1 h1 r1 hp⟩
    · rw [if_neg q] at h1
      exact h1.elim)⟩
theorem slst (h : SA X Wx es t m) : SE X Wx (.List es pos) (tLst t) (mLst m) :=
  ⟨pe_lst h.pa, fun W σ s A H Q k sr z => h.sim W σ s A H _ k sr (z.bind fun ds A1 vs W1 H1 e1 k1 r1 h1 => by
    by_cases q : ds.length ≤ 16777216
    · rw [if_pos q] at h1
      exact ⟨by rw [r1.length]; exact sz_of q, fun p hp => post_lst k1 h1 r1 hp⟩
    · rw [if_neg q] at h1
      exact h1.elim)⟩
theorem slstN (h : SA X Wx es t m) : SE X Wx (.List es pos) (tLst t) (mLstN m) :=
  ⟨pe_lst h.pa, fun W σ s A H Q k sr z => h.sim W σ s A H _ k sr (z.bind fun ds A1 vs W1 H1 e1 k1 r1 h1 => by
    by_cases q : ds.length ≤ 16777216
    · rw [if_pos q] at h1
      exact ⟨by rw [r1.length]; exact sz_of q, fun p hp => post_new k1 h1 r1 hp⟩
    · rw [if_neg q] at h1
      exact h1.elim)⟩
end

/-! ### a[b], a[b:c] -/
def mPart (m : ME) : Sl → AH → R (Option Int) := fun s A => (m s A).bind fun x A1 => match x with
  | .int i => .ok (some i) A1
  | _ => .bad
def mNoPart : Sl → AH → R (Option Int) := fun _ A => .ok none A
def mSl (m : ME) (lo hi : Sl → AH → R (Option Int)) : ME := fun s A => (m s A).bind fun x A1 => (lo s A1).bind fun l A2 => (hi s A2).bind fun u A3 => slD x l u A3
section
variable {X : Cx} {Wx : WX} {a b e : Expr} {lo hi : Option Expr} {ta tb te : TE} {tl th : TO} {ma mb me : ME} {ml mh : Sl → AH → R (Option Int)} {pos p2 : Pos}
theorem six {k : Nat} (hr : Room k X.A) (ha : SE X Wx a ta ma) (hb : SE X Wx b tb mb) (hs : PlainIx b := by intro _ _; rfl) : SE X Wx (.Subscript a b pos) (tOp (rIxU X.K) ta tb) (mBin ixD ma mb) :=
  ⟨pe_ix (oIx hr) ha.pe hb.pe hs, sim_bin oIxS ha.sim hb.sim⟩
theorem onone : SO X Wx none tNoPart mNoPart := ⟨po_none, fun W σ s A H Q k sr h => h.ok_at k rfl⟩
theorem osome (h : SE X Wx e te me) : SO X Wx (some e) (tPart te) (mPart me) :=
  ⟨po_some h.pe, fun W σ s A H Q k sr z => h.sim W σ s A H _ k sr (z.bind fun x A1 v W1 H1 e1 k1 r1 h1 => by
    cases x with
    | int i => exact ⟨i, r1, h1.ok_at k1 rfl⟩
    | _ => exact h1.elim)⟩
theorem ssl (h : SE X Wx e te me) (hl : SO X Wx lo tl ml) (hh : SO X Wx hi th mh) : SE X Wx (.Subscript e (.Slice lo hi none p2) pos) (tSl (rSlU X.K) te tl th) (mSl me ml mh) :=
  ⟨pe_slice oSl h.pe hl.po hh.po, fun W σ s A H Q k sr z => h.sim W σ s A H _ k sr (z.bind fun x A1 v W1 H1 e1 k1 r1 h1 =>
    hl.sim W1 σ s A1 H1 _ k1 (sr.le e1.le) (h1.bind fun l A2 l' W2 H2 e2 k2 r2 h2 =>
      hh.sim W2 σ s A2 H2 _ k2 (sr.le (e1.trans e2).le) (h2.bind fun u A3 u' W3 H3 e3 k3 r3 h3 => by
        cases r2
        cases r3
        exact oSlS k3 (r1.le (e2.trans e3).le) h3)))⟩
end

/-! ### o.f -/
def Fds (K : PySem.W.Frag) (mg : Str → Option Value) (cs : List Str) (f : Str) : Prop := ∀ c ∈ cs, Cls K (clA mg c) ∧ NoAttr K (clA mg c) f
def fldD (cs : List Str) (f : Str) : D → AH → R D
  | .ref n, A => match A[n]? with
    | some (.ins c fs) => if c ∈ cs then match fs.lookup f with
      | some d => .ok d A
      | none => .bad
      else .bad
    | _ => .bad
  | _, _ => .bad
def mFld (cs : List Str) (f : Str) (m : ME) : ME := fun s A => (m s A).bind fun x A1 => fldD cs f x A1
section
variable {K : PySem.W.Frag} {mg : Str → Option Value} {W : Wd} {A : AH} {H : Hp}
theorem fld_at {f : Str} {d : D} : ∀ {fs : List (Str × D)} {vs : List (Str × V)}, vs.map (·.1) = fs.map (·.1) → Reps K W (fs.map (·.2)) (vs.map (·.2)) → fs.lookup f = some d → ∃ v, vs.lookup f = some v ∧ Rep K W d v
  | [], _, _, _, e => by cases e
  | (g, x) :: fs, vs, h1, h2, e => by
    cases vs with
    | nil => cases h1
    | cons q vs =>
      obtain ⟨qk, qv⟩ := q
      obtain ⟨v, r', e2, h3, h4⟩ := h2
      simp only [List.map_cons, List.cons.injEq] at h1 e2
      obtain ⟨e3, e4⟩ := h1
      obtain ⟨e5, e6⟩ := e2
      subst e3 e5 e6
      simp only [List.lookup] at e ⊢
      cases hb : (f == qk) with
      | true =>
        rw [hb] at e
        cases e
        exact ⟨_, rfl, h3⟩
      | false =>
        rw [hb] at e
        exact fld_at e4 h4 e
theorem fldn_at {f : Str} : ∀ {fs : List (Str × D)} {vs : List (Str × V)}, vs.map (·.1) = fs.map (·.1) → fs.lookup f = none → vs.lookup f = none
  | [], vs, h1, _ => by
    cases vs with
    | nil => rfl
    | cons q vs => cases h1
  | (g, x) :: fs, vs, h1, e => by
    cases vs with
    | nil => cases h1
    | cons q vs =>
      obtain ⟨qk, qv⟩ := q
      simp only [List.map_cons, List.cons.injEq] at h1
      obtain ⟨e3, e4⟩ := h1
      subst e3
      simp only [List.lookup] at e ⊢
      cases hb : (f == qk) with
      | true =>
        rw [hb] at e
        cases e
      | false =>
        rw [hb] at e
        exact fldn_at e4 e
def putFD (f : Str) (d : D) : List (Str × D) → List (Str × D)
  | [] => [(f, d)]
  | (g, x) :: r => if g = f then (g, d) :: r else (g, x) :: putFD f d r
theorem putFD_at {f : Str} {d : D} {v : V} (r : Rep K W d v) : ∀ {fs : List (Str × D)} {vs : List (Str × V)}, vs.map (·.1) = fs.map (·.1) → Reps K W (fs.map (·.2)) (vs.map (·.2)) →
    (putF f v vs).map (·.1) = (putFD f d fs).map (·.1) ∧ Reps K W ((putFD f d fs).map (·.2)) ((putF f v vs).map (·.2))
  | [], vs, h1, h2 => by
    cases vs with
    | nil => exact ⟨rfl, Reps.one r⟩
    | cons q vs => cases h1
  | (g, x) :: fs, vs, h1, h2 => by
    cases vs with
    | nil => cases h1
    | cons q vs =>
      obtain ⟨qk, qv⟩ := q
      obtain ⟨u, r', e2, h3, h4⟩ := h2
      simp only [List.map_cons, List.cons.injEq] at h1 e2
      obtain ⟨e3, e4⟩ := h1
      obtain ⟨e5, e6⟩ := e2
      subst e3 e5 e6
      obtain ⟨i1, i2⟩ := putFD_at (f := f) r e4 h4
      unfold putF putFD
      by_cases hq : qk = f
      · rw [if_pos hq, if_pos hq]
        exact ⟨by simp only [List.map_cons, e4], Reps.cons r h4⟩
      · rw [if_neg hq, if_neg hq]
        exact ⟨by simp only [List.map_cons, i1], Reps.cons h3 i2⟩
end
section
variable {X : Cx} {Wx : WX} {e : Expr} {te : TE} {me : ME} {pos : Pos}
theorem sfld {cs : List Str} {f : Str} (hc : Fds X.K X.mg cs f) (h : SE X Wx e te me) (hb : attributeBase e f X.env (eval e X.env) = eval e X.env := by rfl) : SE X Wx (.Attribute e f pos) (tFld X.K te f) (mFld cs f me) :=
  ⟨pe_fld h.pe hb, fun W σ s A H Q k sr z => h.sim W σ s A H _ k sr (z.bind fun x A1 v W1 H1 e1 k1 r1 h1 => by
    unfold fldD at h1
    split at h1
    · split at h1
      · rename_i n c fs q
        split at h1
        · rename_i hm
          split at h1
          · rename_i d hd
            obtain ⟨a, rfl, ha⟩ := r1
            obtain ⟨dx, vs, hx, hk, rr⟩ := k1.obj _ a _ ha q
            obtain ⟨v, h3, h4⟩ := fld_at hk rr hd
            exact ⟨a, _, dx, vs, v, rfl, hx, (hc c hm).1, (hc c hm).2, h3, h1.ok_at k1 h4⟩
          · exact h1.elim
        · exact h1.elim
      · exact h1.elim
    · exact h1.elim)⟩
end

/-! ### promises of defs -/
def spM (K : PySem.W.Frag) (mg : Str → Option Value) (g : List D → AH → R D) : Sp := fun vs H Q E => ∃ (W : Wd) (ds : List D) (A : AH), Ok K mg W A H ∧ Reps K W ds vs ∧ Post K mg (Rep K) W H E Q (g ds A)
/-- the def that the module's name x holds does as g says -/
def Dfn (P : Program) (w : World) (K : PySem.W.Frag) (mg : Str → Option Value) (base : Heap) (x : Str) (k : Nat) (g : List D → AH → R D) : Prop :=
  ∃ (f : Addr) (fd : FuncData) (ps : List Str), FnOk P w K mg base (L2.CX P w) k f fd ps (spM K mg g) ∧ mg x = some (.ref f) ∧ PySem.W.keepIn K (.ref f) = true ∧ Binds K fd ps []
/-- the method m of the class named c does as g says -/
def Mtd (P : Program) (w : World) (K : PySem.W.Frag) (mg : Str → Option Value) (base : Heap) (c m : Str) (k : Nat) (g : List D → AH → R D) : Prop :=
  ∃ (f : Addr) (fd : FuncData) (ps : List Str), FnOk P w K mg base (L2.CX P w) k f fd ps (spM K mg g) ∧ Meth K (clA mg c) m f ∧ Binds K fd ps [] ∧ Cls K (clA mg c)
/-- the class named c can be made; its __init__ does as g says -/
def Mkr (P : Program) (w : World) (K : PySem.W.Frag) (mg : Str → Option Value) (base : Heap) (c : Str) (k : Nat) (g : List D → AH → R D) : Prop :=
  ∃ (C f : Addr) (fd : FuncData) (ps : List Str), FnOk P w K mg base (L2.CX P w) k f fd ps (spM K mg g) ∧ mg c = some (.ref C) ∧ Mk K C f ∧ Binds K fd ps []
def mCall (g : List D → AH → R D) (m : MA) : ME := fun s A => (m s A).bind fun ds A1 => g ds A1
def mMeth (c m : Str) (g : List D → AH → R D) (o : ME) (ma : MA) : ME := fun s A => (o s A).bind fun x A1 => match x with
  | .ref n => match A1[n]? with
    | some (.ins c' fs) => if c' = c ∧ fs.lookup m = none then (ma s A1).bind fun ds A2 => g (.ref n :: ds) A2 else .bad
    | _ => .bad
  | _ => .bad
def mMake (c : Str) (g : List D → AH → R D) (ma : MA) : ME := fun s A => (ma s A).bind fun ds A1 => (g (.ref A1.length :: ds) (A1 ++ [.ins c []])).bind fun r A2 => match r with
  | .non => .ok (.ref A1.length) A2
  | _ => .bad
abbrev WxF : WX := fun _ _ _ _ => False

section
variable {X : Cx} {Wx : WX} {e o : Expr} {es : List Expr} {to : TE} {t : TA} {mo : ME} {m : MA} {p pos apos : Pos} {x c mn : Str} {k j : Nat} {g : List D → AH → R D}
theorem sim_call {K : PySem.W.Frag} {mg : Str → Option Value} (h : SimA K mg Wx t m) : SimE K mg Wx (tCallS (spM K mg g) (WE Wx) t) (mCall g m) := fun W σ s A H Q k sr z =>
  h W σ s A H _ k sr (z.bind fun ds A1 vs W1 H1 e1 k1 r1 h1 => ⟨W1, ds, A1, k1, r1, h1⟩)
theorem scall (d : Dfn X.prog X.w X.K X.mg X.base x k g) (hr : Room j X.A) (hk : k ≤ j) (tk : Takes X Wx) (ha : SA X Wx (e :: es) t m) (hg : Gl X x := by rfl) (hdb : (x == ("__debug__" : Str)) = false := by decide)
    (he : starEach (e :: es) X.env = (false, eval e X.env) :: starEach es X.env := by rfl) (hpl : (backTo pos (starEach es X.env)).any (·.1) = false := by rfl) :
    SE X Wx (.Call (.Name x p) (e :: es) [] pos) (tCallS (spM X.K X.mg g) (WE Wx) t) (mCall g m) := by
  obtain ⟨f, fd, ps, F, hm, kp, hb⟩ := d
  exact ⟨pe_callS F (hr.mono hk) hg hm kp hb (fun σ => passAt tk σ) ha.pa hdb he hpl, sim_call ha.sim⟩
theorem pe_call0S {CX : CXT} {f : Addr} {fd : FuncData} {ps : List Str} {sp : Sp} {E : L2.St → XK} (F : FnOk X.prog X.w X.K X.mg X.base CX k f fd ps sp) (hr : Room k X.A) (hg : Gl X x) (hm : X.mg x = some (.ref f)) (hk : PySem.W.keepIn X.K (.ref f) = true)
    (hb : Binds X.K fd ps []) (hx : ∀ σ, PassesAt CX X σ (E σ)) (hdb : (x == ("__debug__" : Str)) = false := by decide) : PE X (.Call (.Name x p) [] [] pos) (tCallS sp E tNil) :=
  ⟨fun pn st sg Hh QQ II hh => wpAny_Call_Name_kw (ld_glob II hg hm (PySem.W.callWith_K0 II.kIn hk (run_fnS (us := []) F hr hb (hx sg) II .nil hh)) hdb)⟩
theorem scall0 (d : Dfn X.prog X.w X.K X.mg X.base x k g) (hr : Room j X.A) (hk : k ≤ j) (tk : Takes X Wx) (hg : Gl X x := by rfl) (hdb : (x == ("__debug__" : Str)) = false := by decide) :
    SE X Wx (.Call (.Name x p) [] [] pos) (tCallS (spM X.K X.mg g) (WE Wx) tNil) (mCall g mNil) := by
  obtain ⟨f, fd, ps, F, hm, kp, hb⟩ := d
  exact ⟨pe_call0S F (hr.mono hk) hg hm kp hb (fun σ => passAt tk σ) hdb, sim_call fun W σ s A H Q k sr h => h.ok_at k rfl⟩

/-- o.m(..), what is raised wished for at the slots -/
def tMethS (C : Addr) (m : Str) (sp : Sp) (E : L2.St → XK) (ta : TE) (t : TA) : TE := fun σ H Q => ta σ H fun x H1 => ∃ a dx fs, x = .ref a ∧ H1 a = some (.ins C dx fs) ∧ fs.lookup m = none ∧ t σ H1 fun vs H2 => sp (x :: vs) H2 Q (E σ)
theorem pe_methS1 {CX : CXT} {C f : Addr} {fd : FuncData} {ps : List Str} {sp : Sp} {E : L2.St → XK} {pl : Sem Bool} (he : PE X o to) (cl : Cls X.K C) (hm : Meth X.K C mn f) (F : FnOk X.prog X.w X.K X.mg X.base CX k f fd ps sp) (hr : Room k X.A)
    (hb : Binds X.K fd ps []) (hx : ∀ σ, PassesAt CX X σ (E σ)) (ha : PA X (e :: es) t)
    (hst : starEach (e :: es) X.env = (false, eval e X.env) :: starEach es X.env) (hpl : (backTo pos (starEach es X.env)).any (·.1) = false)
    (ht : eval (.Call (.Attribute o mn apos) (e :: es) [] pos) X.env = (do
      let ov ← eval o X.env
      standAt apos.atName
      let (f, first) ← holding [ov] (getMethod ov mn pl)
      callWith pos f first (backTo pos (starEach (e :: es) X.env)) (backToKw pos (keywordEach [] X.env)))) :
    PE X (.Call (.Attribute o mn apos) (e :: es) [] pos) (tMethS C mn sp E to t) := by
  refine ⟨fun pn st sg Hh QQ II hh => ?_⟩
  refine PySem.W.methodCall_KW (pl := pl) (thn (he.run pn st sg Hh _ II hh) fun u s1 ⟨x, H1, I1, rx, a, dx, fs, ex, ea, l, q⟩ => ?_) ht
  subst ex
  obtain rfl : u = Value.ref a := rx
  refine getmeth_ok I1 ea cl hm l ?_
  refine PySem.W.callWith_K (first := [.ref a]) (h₀ := X.base) II.ok.mod.kin hm.kp (thn (ha.run pos pn s1 sg H1 _ I1 q) fun us s2 ⟨vs, H2, I2, r, q2⟩ => ⟨I2.kIn, ?_⟩) hst hpl
  exact run_fnS (us := .ref a :: us) (vs := .ref a :: vs) F hr hb (hx sg) I2 (.cons rfl r) q2
theorem pe_methS0 {CX : CXT} {C f : Addr} {fd : FuncData} {ps : List Str} {sp : Sp} {E : L2.St → XK} {pl : Sem Bool} (he : PE X o to) (cl : Cls X.K C) (hm : Meth X.K C mn f) (F : FnOk X.prog X.w X.K X.mg X.base CX k f fd ps sp) (hr : Room k X.A)
    (hb : Binds X.K fd ps []) (hx : ∀ σ, PassesAt CX X σ (E σ))
    (ht : eval (.Call (.Attribute o mn apos) [] [] pos) X.env = (do
      let ov ← eval o X.env
      standAt apos.atName
      let (f, first) ← holding [ov] (getMethod ov mn pl)
      callWith pos f first (backTo pos (starEach [] X.env)) (backToKw pos (keywordEach [] X.env)))) :
    PE X (.Call (.Attribute o mn apos) [] [] pos) (tMethS C mn sp E to tNil) := by
  refine ⟨fun pn st sg Hh QQ II hh => ?_⟩
  refine PySem.W.methodCall_KW (pl := pl) (thn (he.run pn st sg Hh _ II hh) fun u s1 ⟨x, H1, I1, rx, a, dx, fs, ex, ea, l, q⟩ => ?_) ht
  subst ex
  obtain rfl : u = Value.ref a := rx
  refine getmeth_ok I1 ea cl hm l ?_
  exact PySem.W.callWith_K0 (first := [.ref a]) I1.kIn hm.kp (run_fnS (us := [.ref a]) (vs := [.ref a]) F hr hb (hx sg) I1 (.cons rfl .nil) q)
theorem sim_meth {K : PySem.W.Frag} {mg : Str → Option Value} (ho : SimE K mg Wx to mo) (h : SimA K mg Wx t m) : SimE K mg Wx (tMethS (clA mg c) mn (spM K mg g) (WE Wx) to t) (mMeth c mn g mo m) := fun W σ s A H Q k sr z =>
  ho W σ s A H _ k sr (z.bind fun x A1 v W1 H1 e1 k1 r1 h1 => by
    split at h1
    · rename_i n
      split at h1
      · rename_i c' fs q
        split at h1
        · rename_i hm
          obtain ⟨a, rfl, ha⟩ := r1
          obtain ⟨dx, vs, hx, hk, rr⟩ := k1.obj n a _ ha q
          rw [hm.1] at hx
          refine ⟨a, dx, vs, rfl, hx, fldn_at hk hm.2, h W1 σ s A1 H1 _ k1 (sr.le e1.le) (h1.bind fun ds A2 us W2 H2 e2 k2 r2 h2 => ⟨W2, _, A2, k2, Reps.cons (d := .ref n) ⟨a, rfl, e2.le.at ha⟩ r2, h2⟩)⟩
        · exact h1.elim
      · exact h1.elim
    · exact h1.elim)
theorem smeth {pl : Sem Bool} (d : Mtd X.prog X.w X.K X.mg X.base c mn k g) (hr : Room j X.A) (hk : k ≤ j) (tk : Takes X Wx) (ho : SE X Wx o to mo) (ha : SA X Wx (e :: es) t m)
    (hst : starEach (e :: es) X.env = (false, eval e X.env) :: starEach es X.env := by rfl) (hpl : (backTo pos (starEach es X.env)).any (·.1) = false := by rfl)
    (ht : eval (.Call (.Attribute o mn apos) (e :: es) [] pos) X.env = (do
      let ov ← eval o X.env
      standAt apos.atName
      let (f, first) ← holding [ov] (getMethod ov mn pl)
      callWith pos f first (backTo pos (starEach (e :: es) X.env)) (backToKw pos (keywordEach [] X.env))) := by rfl) :
    SE X Wx (.Call (.Attribute o mn apos) (e :: es) [] pos) (tMethS (clA X.mg c) mn (spM X.K X.mg g) (WE Wx) to t) (mMeth c mn g mo m) := by
  obtain ⟨f, fd, ps, F, hm, hb, cl⟩ := d
  exact ⟨pe_methS1 ho.pe cl hm F (hr.mono hk) hb (fun σ => passAt tk σ) ha.pa hst hpl ht, sim_meth ho.sim ha.sim⟩
theorem smeth0 {pl : Sem Bool} (d : Mtd X.prog X.w X.K X.mg X.base c mn k g) (hr : Room j X.A) (hk : k ≤ j) (tk : Takes X Wx) (ho : SE X Wx o to mo)
    (ht : eval (.Call (.Attribute o mn apos) [] [] pos) X.env = (do
      let ov ← eval o X.env
      standAt apos.atName
      let (f, first) ← holding [ov] (getMethod ov mn pl)
      callWith pos f first (backTo pos (starEach [] X.env)) (backToKw pos (keywordEach [] X.env))) := by rfl) :
    SE X Wx (.Call (.Attribute o mn apos) [] [] pos) (tMethS (clA X.mg c) mn (spM X.K X.mg g) (WE Wx) to tNil) (mMeth c mn g mo mNil) := by
  obtain ⟨f, fd, ps, F, hm, hb, cl⟩ := d
  exact ⟨pe_methS0 ho.pe cl hm F (hr.mono hk) hb (fun σ => passAt tk σ) ht, sim_meth ho.sim fun W σ s A H Q k sr h => h.ok_at k rfl⟩

/-- C(..), what is raised wished for at the slots -/
def tMakeS (C : Addr) (sp : Sp) (E : L2.St → XK) (t : TA) : TE := fun σ H Q => t σ H fun vs H1 => ∀ x dx, H1 x = none → H1 dx = none → dx ≠ x →
  sp (.ref x :: vs) (upd (upd H1 dx (.own x)) x (.ins C dx [])) (fun v H2 => v = .non ∧ Q (.ref x) H2) (E σ)
theorem run_makeS {CX : CXT} {C f : Addr} {fd : FuncData} {ps : List Str} {sp : Sp} {E : L2.St → XK} {pn : List (Addr × Obj)} {sg : L2.St} {Hh : Hp} {st : Shared} {QQ : VK} {us : List Value} {vs : List V} (M : Mk X.K C f)
    (F : FnOk X.prog X.w X.K X.mg X.base CX k f fd ps sp) (hr : Room (k + 1) X.A) (hb : Binds X.K fd ps []) (hx : ∀ σ, PassesAt CX X σ (E σ)) (II : Inv X pn sg Hh st) (r : Vals vs us)
    (h : ∀ x dx, Hh x = none → Hh dx = none → dx ≠ x → sp (.ref x :: vs) (upd (upd Hh dx (.own x)) x (.ins C dx [])) (fun v H2 => v = .non ∧ QQ (.ref x) H2) (E sg)) :
    wpAny (model X.prog X.w) X.A (call (.ref C) us) (EP X pn sg QQ) X.xe st := by
  have hq := h (st.heap.objs.size + 1) st.heap.objs.size (II.hok.fresh (Nat.le_succ _)) (II.hok.fresh (Nat.le_refl _)) (Nat.ne_of_lt (Nat.lt_succ_self _))
  have I2 := Inv.made (C := C) II
  have r2 : Vals (V.ref (st.heap.objs.size + 1) :: vs) (Value.ref (st.heap.objs.size + 1) :: us) := .cons rfl r
  have hl : (Value.ref (st.heap.objs.size + 1) :: us).length = ps.length := by
    have e := r2.length
    rw [F.len _ _ _ _ hq] at e
    exact e.symm
  have hbb := hb _ (Value.ref (st.heap.objs.size + 1) :: us) I2.kIn (by rw [List.append_nil]; exact hl)
  rw [List.append_nil] at hbb
  refine wpAny_call (make_map (f := f) II.kIn M.makes M.init (beq_iff_eq.mp M.fn) (codeAny_mono (F.run _ X.stack _ _ ⟨Value.ref (st.heap.objs.size + 1) :: us, []⟩ _ _ _ (E sg) (hr.make C us []) (I2.env0.make C us []) hbb r2 hq) fun r s' hq' => ?_))
  cases r with
  | error e => exact hx sg pn _ _ e s' I2 hq'
  | ok fl =>
    cases fl with
    | ret u =>
      obtain ⟨v, H', I3, rv, ev, q3⟩ := I2.after hq'
      subst ev
      exact ⟨rv, ⟨V.ref (st.heap.objs.size + 1), H', I3, rfl, q3⟩⟩
    | next => exact False.elim hq'
    | brk => exact False.elim hq'
    | cont => exact False.elim hq'
theorem smake (d : Mkr X.prog X.w X.K X.mg X.base c k g) (hr : Room j X.A) (hk : k + 1 ≤ j) (tk : Takes X Wx) (ha : SA X Wx (e :: es) t m) (hg : Gl X c := by rfl) (hdb : (c == ("__debug__" : Str)) = false := by decide)
    (he : starEach (e :: es) X.env = (false, eval e X.env) :: starEach es X.env := by rfl) (hpl : (backTo pos (starEach es X.env)).any (·.1) = false := by rfl) :
    SE X Wx (.Call (.Name c p) (e :: es) [] pos) (tMakeS (clA X.mg c) (spM X.K X.mg g) (WE Wx) t) (mMake c g m) := by
  obtain ⟨C, f, fd, ps, F, hm, M, hb⟩ := d
  rw [clA_of hm]
  refine ⟨⟨fun pn st sg Hh QQ II hh => ?_⟩, fun W σ s A H Q k sr z => ?_⟩
  · refine wpAny_Call_Name_kw (ld_glob II hg hm ?_ hdb)
    refine PySem.W.callWith_K (h₀ := X.base) II.ok.mod.kin M.kp (thn (ha.pa.run pos pn st sg Hh _ II hh) fun us s1 ⟨vs, H1, I1, r, q⟩ => ⟨I1.kIn, ?_⟩) he hpl
    exact run_makeS (E := WE Wx) M F (hr.mono hk) hb (fun σ => passAt tk σ) I1 r q
  · refine ha.sim W σ s A H _ k sr (z.bind fun ds A1 vs W1 H1 e1 k1 r1 h1 => fun x dx hx hdx ne => ?_)
    obtain ⟨k2, e2⟩ := k1.aside hdx (.own x)
    have hx2 : upd H1 dx (.own x) x = none := by
      rw [upd_ne (Ne.symm ne)]
      exact hx
    obtain ⟨k3, e3⟩ := k2.fresh hx2 (o := .ins C dx []) (u := .ins c []) ⟨dx, [], by rw [clA_of hm], rfl, rfl⟩
    have hn : (W1.m ++ [x])[A1.length]? = some x := by
      rw [← k1.len]
      exact List.getElem?_concat_length
    refine ⟨_, .ref A1.length :: ds, _, k3, Reps.cons ⟨x, rfl, hn⟩ (r1.le (e2.trans e3).le), ?_⟩
    have h2 := Post.ext (e2.trans e3) h1
    exact h2.bind fun r A2 v W4 H4 e4 k4 r4 h4 => by
      cases r with
      | non => exact ⟨r4, h4.ok_at k4 ⟨x, rfl, e4.le.at hn⟩⟩
      | _ => exact h4.elim
end
end Tg

set_option Elab.async false
set_option linter.all false
set_option maxRecDepth 100000
set_option maxHeartbeats 2000000
/-! TgBuilt: built-in functions and methods. -/
namespace Tg
open PySem PySem.Spec PyProof.Rows L2

/-! ### a built-in by its name -/
section
variable {X : Cx} {Wx : WX} {e o : Expr} {es : List Expr} {to : TE} {t : TA} {mo : ME} {m : MA} {p pos apos : Pos} {x : Str} {id T : String} {r : List V → Hp → VK → Prop} {f : List D → AH → R D}
theorem sim_cb {K : PySem.W.Frag} {mg : Str → Option Value} (hs : CallS K mg r f) (ha : SimA K mg Wx t m) : SimE K mg Wx (tCB r t) (mCall f m) := fun W σ s A H Q k sr z =>
  ha W σ s A H _ k sr (z.bind fun ds A1 vs W1 H1 e1 k1 r1 h1 => hs W1 A1 H1 _ Q ds vs k1 r1 h1)
theorem sbuilt (hc : CallR X (.builtin id) r) (hs : CallS X.K X.mg r f) (hm : X.mg x = none) (ha : SA X Wx (e :: es) t m) (hg : Gl X x := by rfl) (hv : bootBuiltins x = some (.builtin id) := by decide +kernel) (hn : x ≠ "__name__" := by decide) (hdb : (x == ("__debug__" : Str)) = false := by decide)
    (he : starEach (e :: es) X.env = (false, eval e X.env) :: starEach es X.env := by rfl) (hpl : (backTo pos (starEach es X.env)).any (·.1) = false := by rfl) : SE X Wx (.Call (.Name x p) (e :: es) [] pos) (tCB r t) (mCall f m) :=
  ⟨pe_callB hc hg hm hv ha.pa hn hdb he hpl, sim_cb hs ha.sim⟩
theorem styp (hc : CallR X (.type T) r) (hs : CallS X.K X.mg r f) (hm : X.mg x = none) (ha : SA X Wx (e :: es) t m) (hg : Gl X x := by rfl) (hv : bootBuiltins x = some (.type T) := by decide +kernel) (hn : x ≠ "__name__" := by decide) (hdb : (x == ("__debug__" : Str)) = false := by decide)
    (he : starEach (e :: es) X.env = (false, eval e X.env) :: starEach es X.env := by rfl) (hpl : (backTo pos (starEach es X.env)).any (·.1) = false := by rfl) : SE X Wx (.Call (.Name x p) (e :: es) [] pos) (tCB r t) (mCall f m) :=
  ⟨pe_callTy hc hg hm hv ha.pa hn hdb he hpl, sim_cb hs ha.sim⟩
end

/-! ### len, int, str, abs, max, min, sum, sorted, tuple, list, dict -/
def lenD : List D → AH → R D
  | [.str z], A => if z.length ≤ 16777216 then .ok (.int z.length) A else .bad
  | [d], A => match dctD A d with
    | some kvs => .ok (.int kvs.length) A
    | none => match itemsD A d with
      | some ds => .ok (.int ds.length) A
      | none => .bad
  | _, _ => .bad
def intD : List D → AH → R D
  | [.int i], A => .ok (.int i) A
  | [.bl k], A => .ok (.int (if k then 1 else 0)) A
  | [.str a], A => match PySem.intText? a with
    | some n => if a.length ≤ 640 then .ok (.int n) A else .bad
    | none => .bad
  | _, _ => .bad
def strD : List D → AH → R D
  | [.int i], A => if i.natAbs.log2 < 1920 then .ok (.str (toString i)) A else .bad
  | [.str a], A => .ok (.str a) A
  | _, _ => .bad
def intsD : List D → Option (List Int)
  | [] => some []
  | .int i :: ds => (intsD ds).map (i :: ·)
  | _ :: _ => none
def maxI : List Int → Option Int
  | [] => none
  | i :: is => some (is.foldl (fun m j => if m < j then j else m) i)
def maxD : List D → AH → R D
  | [.int i, .int j], A => .ok (.int (if j > i then j else i)) A
  | [d], A => match (itemsD A d).bind intsD with
    | some ns => match maxI ns with
      | some m => .ok (.int m) A
      | none => .bad
    | none => .bad
  | _, _ => .bad
def minD : List D → AH → R D
  | [.int i, .int j], A => .ok (.int (if j < i then j else i)) A
  | _, _ => .bad
def sumD : List D → AH → R D
  | [d], A => match (seqL A d).bind intsD with
    | some ns => .ok (.int ns.sum) A
    | none => .bad
  | _, _ => .bad
def tupD : List D → AH → R D
  | [.tup ds], A => .ok (.tup ds) A
  | [d], A => match seqL A d with
    | some ds => .ok (.tup ds) A
    | none => .bad
  | _, _ => .bad
def keyOfK : Key → D
  | .inl i => .int i
  | .inr s => .str s
def listD : List D → AH → R D
  | [d], A => match dctD A d with
    | some kvs => .ok (.lst (kvs.map fun kv => keyOfK kv.1)) A
    | none => match itemsD A d with
      | some ds => .ok (.lst ds) A
      | none => .bad
  | _, _ => .bad
def listN : List D → AH → R D
  | [d], A => match itemsD A d with
      | some ds => .ok (.ref A.length) (A ++ [.lst ds])
      | none => .bad
  | _, _ => .bad
section
variable {K : PySem.W.Frag} {mg : Str → Option Value} {W : Wd} {A : AH} {H : Hp}
theorem reps1 {d : D} {xs : List V} (r : Reps K W [d] xs) : ∃ v, xs = [v] ∧ Rep K W d v := by
  obtain ⟨v, r', rfl, h1, h2⟩ := r
  cases (show r' = [] from h2)
  exact ⟨v, rfl, h1⟩
theorem reps2 {d e : D} {xs : List V} (r : Reps K W [d, e] xs) : ∃ v u, xs = [v, u] ∧ Rep K W d v ∧ Rep K W e u := by
  obtain ⟨v, r', rfl, h1, h2⟩ := r
  obtain ⟨u, rfl, h3⟩ := reps1 h2
  exact ⟨v, u, rfl, h1, h3⟩
theorem intsD_at : ∀ {ds : List D} {ns : List Int} {xs : List V}, intsD ds = some ns → Reps K W ds xs → xs = ns.map V.int
  | [], ns, xs, e, r => by
    cases (show some [] = some ns from e)
    exact r
  | d :: ds, ns, xs, e, r => by
    cases d with
    | int i =>
      obtain ⟨ns', e1, rfl⟩ := Option.map_eq_some_iff.mp (show (intsD ds).map (i :: ·) = some ns from e)
      obtain ⟨v, r', rfl, h1, h2⟩ := r
      rw [intsD_at e1 h2, (show v = .int i from h1)]
      rfl
    | _ => cases (show none = some ns from e)
theorem maxI_mem : ∀ (is : List Int) (i : Int), is.foldl (fun m j => if m < j then j else m) i ∈ i :: is ∧ ∀ y ∈ i :: is, y ≤ is.foldl (fun m j => if m < j then j else m) i
  | [], i => ⟨by simp, fun y h => by
      have e : y = i := by simpa using h
      rw [e]
      exact Int.le_refl i⟩
  | j :: is, i => by
    rw [List.foldl_cons]
    generalize hk : (if i < j then j else i) = k
    have hk1 : i ≤ k ∧ j ≤ k ∧ (k = i ∨ k = j) := by
      rw [← hk]
      split
      · exact ⟨by omega, by omega, .inr rfl⟩
      · exact ⟨by omega, by omega, .inl rfl⟩
    obtain ⟨h1, h2⟩ := maxI_mem is k
    have h3 := h2 k (by simp)
    refine ⟨?_, fun y h => ?_⟩
    · rcases List.mem_cons.mp h1 with e | e
      · rw [e]
        rcases hk1.2.2 with z | z
        · rw [z]
          simp
        · rw [z]
          simp
      · exact List.mem_cons_of_mem _ (List.mem_cons_of_mem _ e)
    · rcases List.mem_cons.mp h with e | e
      · rw [e]
        exact Int.le_trans hk1.1 h3
      · rcases List.mem_cons.mp e with e | e
        · rw [e]
          exact Int.le_trans hk1.2.1 h3
        · exact h2 y (List.mem_cons_of_mem _ e)
theorem maxI_eq {ns : List Int} {m n : Int} (h : maxI ns = some m) (h1 : n ∈ ns) (h2 : ∀ y, y ∈ ns → y ≤ n) : n = m := by
  cases ns with
  | nil => cases h1
  | cons i is =>
    have e : is.foldl (fun m j => if m < j then j else m) i = m := Option.some.inj h
    obtain ⟨q1, q2⟩ := maxI_mem is i
    rw [e] at q1 q2
    have z1 := h2 m q1
    have z2 := q2 n h1
    omega
def rLenU (K : PySem.W.Frag) : List V → Hp → VK → Prop := fun xs H Q => (∃ x n, xs = [x] ∧ LenV K x H n ∧ Q (.int n) H) ∨ ∃ a kvs, xs = [V.ref a] ∧ H a = some (.dK kvs) ∧ Q (.int kvs.length) H
theorem oLen {X : Cx} : CallR X (.builtin "len") (rLenU X.K) := call_len.or call_lenD
theorem oLenS : CallS K mg (rLenU K) lenD := fun W A H E Q ds xs k r h => by
  unfold lenD at h
  split at h
  · split at h
    · rename_i z
      obtain ⟨v, rfl, h1⟩ := reps1 r
      cases (show v = _ from h1)
      exact .inl ⟨_, _, rfl, ⟨sz_of z, rfl⟩, h.ok_at k rfl⟩
    · exact h.elim
  · obtain ⟨v, rfl, h1⟩ := reps1 r
    split at h
    · rename_i kvs e1
      obtain ⟨a, vs, rfl, h2, h3⟩ := dctD_at k h1 e1
      refine .inr ⟨a, vs, rfl, h2, ?_⟩
      rw [h3.len]
      exact h.ok_at k rfl
    · split at h
      · rename_i es e1
        obtain ⟨a, ys, rfl, h2, h3⟩ := itemsD_at k h1 e1
        refine .inl ⟨_, ys.length, rfl, ?_, ?_⟩
        · rcases h2 with h2 | h2
          · exact .inl ⟨ys, h2, rfl⟩
          · exact .inr ⟨ys, h2, rfl⟩
        · rw [h3.length]
          exact h.ok_at k rfl
      · exact h.elim
  · exact h.elim
def rIntU : List V → Hp → VK → Prop := fun xs H Q => ((∃ i, xs = [.int i] ∧ Q (.int i) H) ∨ ∃ k, xs = [.bl k] ∧ Q (.int (if k then 1 else 0)) H) ∨ ∃ a n, xs = [.str a] ∧ PySem.intText? a = some n ∧ a.length ≤ 640 ∧ Q (.int n) H
theorem oInt {X : Cx} : CallR X (.type "int") rIntU := call_int1.or call_int_str
theorem oIntS : CallS K mg rIntU intD := fun W A H E Q ds xs k r h => by
  unfold intD at h
  split at h
  · obtain ⟨v, rfl, h1⟩ := reps1 r
    cases (show v = _ from h1)
    exact .inl (.inl ⟨_, rfl, h.ok_at k rfl⟩)
  · obtain ⟨v, rfl, h1⟩ := reps1 r
    cases (show v = _ from h1)
    exact .inl (.inr ⟨_, rfl, h.ok_at k rfl⟩)
  · obtain ⟨v, rfl, h1⟩ := reps1 r
    cases (show v = _ from h1)
    split at h
    · rename_i n e1
      split at h
      · rename_i z
        exact .inr ⟨_, n, rfl, e1, z, h.ok_at k rfl⟩
      · exact h.elim
    · exact h.elim
  · exact h.elim
def rStrU : List V → Hp → VK → Prop := fun xs H Q => (∃ i : Int, xs = [.int i] ∧ i.natAbs.log2 < 1920 ∧ Q (.str (toString i)) H) ∨ ∃ a, xs = [.str a] ∧ Q (.str a) H
theorem oStr {X : Cx} : CallR X (.type "str") rStrU := call_str_int.or SkE.call_str_str
theorem oStrS : CallS K mg rStrU strD := fun W A H E Q ds xs k r h => by
  unfold strD at h
  split at h
  · obtain ⟨v, rfl, h1⟩ := reps1 r
    cases (show v = _ from h1)
    split at h
    · rename_i z
      exact .inl ⟨_, rfl, z, h.ok_at k rfl⟩
    · exact h.elim
  · obtain ⟨v, rfl, h1⟩ := reps1 r
    cases (show v = _ from h1)
    exact .inr ⟨_, rfl, h.ok_at k rfl⟩
  · exact h.elim
end

/-- max of a tuple of ints -/
theorem iter_intTup {prog : Program} {w : World} {B : Around} {E : Value → Shared → Prop} {s : Shared} {l : Addr} {items : Array Value} {Q : Value → Shared → Prop} (hl : s.heap.IsTuple l items)
    (h : ∀ s2 : Shared, s2 = { s with heap := s.heap.push { cls := .type "tuple_iterator", data := .fields #[.ref l, .int 0 0] } } →
      (s2.heap.IsTupleIter s.heap.objs.size l 0 ∧ s2.heap.IsTuple l items) → (∀ b ∈ [s.heap.objs.size, l], b < s2.heap.objs.size) → l ≠ s.heap.objs.size → Q (.ref s.heap.objs.size) s2) : wpAny (model prog w) B (pyIter (.ref l)) Q E s := by
  have hlt : l < s.heap.objs.size := by obtain ⟨_, e, _⟩ := hl; exact Heap.lt_size e
  refine wpAny_pyIter_tuple hl (h _ rfl ⟨⟨_, Heap.get?_push_size _ rfl, rfl, rfl⟩, hl.push _⟩ (fun b hb => ?_) (Nat.ne_of_lt hlt))
  rw [Heap.size_push]
  rcases List.mem_cons.mp hb with z | z
  · rw [z]
    exact Nat.lt_succ_self _
  · rw [List.mem_singleton.mp z]
    exact Nat.lt_succ_of_lt hlt
def rMaxT (K : PySem.W.Frag) : List V → Hp → VK → Prop := fun vs H Q => ∃ (a : Addr) (ns : List Int), vs = [V.ref a] ∧ SqT K H a (ns.map V.int) ∧ 0 < ns.length ∧ ∀ m, m ∈ ns → (∀ y, y ∈ ns → y ≤ m) → Q (.int m) H
theorem cr_maxT {X : Cx} (hc : X.calm = true) : CallR X (.builtin "max") (rMaxT X.K) := by
  intro pn st sg Hh vs us QQ II r hh
  obtain ⟨a, ns, rfl, hs, hne, q⟩ := hh
  obtain ⟨its, rv, ⟨o0, ho, hcl, n, hdat⟩, _⟩ := II.tuple hs
  rw [Vals.ref1 r]
  have hi := rv.ints
  obtain ⟨ys, e⟩ := hi.allInts.items
  have hn : numsOf (intItems ys).toList = ns := by rw [← e]; exact hi.numsOf
  rw [nums_intItems] at hn
  subst hn
  have hT : st.heap.IsTuple a (intItems ys) := ⟨o0, ho, hcl, n, by rw [hdat, ← e]⟩
  have hsz : 0 < ys.size := by simpa using hne
  refine call_max_walk (iter_intTup hT fun s2 e2 st2 hfp hlI => ?_)
  subst e2
  refine ⟨_, _, _, _, _, _, _, rfl, Walks.tuple (A := X.A.in1) (II.ok.hd hc) _ a hlI (intItems ys), st2, hfp, by simpa [intItems] using hsz, CmpOf.ints_gt (numAt ys) (fun _ _ => intItems_at), fun v h' tk hP hk => ?_⟩
  have hP' : (intItems ys)[argBest (fun i j => decide (numAt ys i > numAt ys j)) (ys.size - 1)]? = some v := by simpa [intItems] using hP
  have hk' : ∀ b o, st.heap.get? b = some o → h'.get? b = some o := fun b o e => by
    refine hk b o (fun hm => ?_) (Heap.get?_push_of_some _ e)
    rw [List.mem_singleton.mp hm] at e
    exact absurd (Heap.lt_size e) (Nat.lt_irrefl _)
  obtain ⟨t, rfl⟩ := intItems_at hP'
  obtain ⟨h1, h2⟩ := argBest_gt (numAt ys) (ys.size - 1)
  refine ⟨.int _, Hh, II.kept hk', ⟨_, rfl⟩, q _ ?_ fun y hy => ?_⟩
  · rw [numAt_eq]
    exact PySem.getD_mem (by rw [List.length_map, Array.length_toList]; omega)
  · obtain ⟨j, hj, rfl⟩ := mem_getD hy
    rw [List.length_map, Array.length_toList] at hj
    rw [← numAt_eq]
    exact h2 j (by omega)
def rMaxU (K : PySem.W.Frag) : List V → Hp → VK → Prop := fun xs H Q => (∃ i j, xs = [.int i, .int j] ∧ Q (.int (if j > i then j else i)) H) ∨ rMax K xs H Q ∨ rMaxT K xs H Q
theorem oMax {X : Cx} (hc : X.calm = true) : CallR X (.builtin "max") (rMaxU X.K) := (call_max2 hc).or ((cr_max hc).or (cr_maxT hc))
def rTupU (K : PySem.W.Frag) : List V → Hp → VK → Prop := fun xs H Q => ∃ p ys, xs = [.ref p] ∧ ((SqL K H p ys ∧ ∀ l, H l = none → Q (.ref l) (upd H l (.tup ys))) ∨ (SqT K H p ys ∧ Q (.ref p) H))
def rListU (K : PySem.W.Frag) : List V → Hp → VK → Prop := fun xs H Q => (∃ p ys, xs = [.ref p] ∧ (SqL K H p ys ∨ SqT K H p ys) ∧ ∀ l, H l = none → Q (.ref l) (upd H l (.lst ys))) ∨ rListD xs H Q
theorem oList {X : Cx} (hc : X.calm = true) : CallR X (.type "list") (rListU X.K) := call_list_of.or (call_list_dK hc)
section
variable {K : PySem.W.Frag} {mg : Str → Option Value} {W : Wd} {A : AH} {H : Hp}
theorem oMaxS : CallS K mg (rMaxU K) maxD := fun W A H E Q ds xs k r h => by
  unfold maxD at h
  split at h
  · obtain ⟨v, u, rfl, h1, h2⟩ := reps2 r
    cases (show v = _ from h1)
    cases (show u = _ from h2)
    exact .inl ⟨_, _, rfl, h.ok_at k rfl⟩
  · obtain ⟨v, rfl, h1⟩ := reps1 r
    split at h
    · rename_i ns e1
      obtain ⟨es, e2, e3⟩ := Option.bind_eq_some_iff.mp e1
      split at h
      · rename_i mx e4
        obtain ⟨a, ys, rfl, h2, h3⟩ := itemsD_at k h1 e2
        have ey := intsD_at e3 h3
        subst ey
        have hne : 0 < ns.length := by
          cases ns with
          | nil => cases e4
          | cons _ _ => exact Nat.succ_pos _
        have go : ∀ m, m ∈ ns → (∀ y, y ∈ ns → y ≤ m) → Q (.int m) H := fun m q1 q2 => by
          rw [maxI_eq e4 q1 q2]
          exact h.ok_at k rfl
        rcases h2 with h2 | h2
        · exact .inr (.inl ⟨a, ns, rfl, h2, hne, go⟩)
        · exact .inr (.inr ⟨a, ns, rfl, h2, hne, go⟩)
      · exact h.elim
    · exact h.elim
  · exact h.elim
theorem oMinS : CallS K mg (fun xs H Q => ∃ i j, xs = [.int i, .int j] ∧ Q (.int (if j < i then j else i)) H) minD := fun W A H E Q ds xs k r h => by
  unfold minD at h
  split at h
  · obtain ⟨v, u, rfl, h1, h2⟩ := reps2 r
    cases (show v = _ from h1)
    cases (show u = _ from h2)
    exact ⟨_, _, rfl, h.ok_at k rfl⟩
  · exact h.elim
theorem oSumS : CallS K mg (rSum K) sumD := fun W A H E Q ds xs k r h => by
  unfold sumD at h
  split at h
  · obtain ⟨v, rfl, h1⟩ := reps1 r
    split at h
    · rename_i ns e1
      obtain ⟨es, e2, e3⟩ := Option.bind_eq_some_iff.mp e1
      obtain ⟨a, ys, rfl, h2, h3⟩ := seqL_at k h1 e2
      have ey := intsD_at e3 h3
      subst ey
      exact ⟨a, ns, rfl, h2, h.ok_at k rfl⟩
    · exact h.elim
  · exact h.elim
theorem oTupS : CallS K mg (rTupU K) tupD := fun W A H E Q ds xs k r h => by
  unfold tupD at h
  split at h
  · obtain ⟨v, rfl, h1⟩ := reps1 r
    obtain ⟨a, ys, rfl, h2, h3⟩ := tup_at k h1
    exact ⟨a, ys, rfl, .inr ⟨h2, h.ok_at k h1⟩⟩
  · obtain ⟨v, rfl, h1⟩ := reps1 r
    split at h
    · rename_i es e1
      obtain ⟨a, ys, rfl, h2, h3⟩ := seqL_at k h1 e1
      exact ⟨a, ys, rfl, .inl ⟨h2, fun l hl => post_tup k h h3 hl⟩⟩
    · exact h.elim
  · exact h.elim
theorem reps_keys : ∀ {kvs : List (Key × D)} {vs : List (Key × V)}, KVR K W kvs vs → Reps K W (kvs.map fun kv => keyOfK kv.1) (vs.map fun kv => kV kv.1)
  | [], _, r => by
    cases r.nil_iff
    exact rfl
  | p :: kvs, vs, r => by
    obtain ⟨v, vs', rfl, h1, h2⟩ := r.cons_iff
    refine Reps.cons ?_ (reps_keys h2)
    obtain ⟨kk, d⟩ := p
    cases kk <;> exact rfl
theorem oListS : CallS K mg (rListU K) listD := fun W A H E Q ds xs k r h => by
  unfold listD at h
  split at h
  · obtain ⟨v, rfl, h1⟩ := reps1 r
    split at h
    · rename_i kvs e1
      obtain ⟨a, vs, rfl, h2, h3⟩ := dctD_at k h1 e1
      exact .inr ⟨a, vs, rfl, h2, fun q hq => post_lst k h (reps_keys h3) hq⟩
    · split at h
      · rename_i es e1
        obtain ⟨a, ys, rfl, h2, h3⟩ := itemsD_at k h1 e1
        exact .inl ⟨a, ys, rfl, h2, fun l hl => post_lst k h h3 hl⟩
      · exact h.elim
  · exact h.elim
theorem oListNS : CallS K mg (rListU K) listN := fun W A H E Q ds xs k r h => by
  unfold listN at h
  split at h
  · obtain ⟨v, rfl, h1⟩ := reps1 r
    split at h
    · rename_i es e1
      obtain ⟨a, ys, rfl, h2, h3⟩ := itemsD_at k h1 e1
      exact .inl ⟨a, ys, rfl, h2, fun l hl => post_new k h h3 hl⟩
    · exact h.elim
  · exact h.elim
end

/-! ### isinstance -/
def tyD (A : AH) : D → Option String
  | .non => some "NoneType"
  | .bl _ => some "bool"
  | .int _ => some "int"
  | .str _ => some "str"
  | .tup _ => some "tuple"
  | .lst _ => some "list"
  | .scr _ => some "list"
  | .dct _ _ => some "dict"
  | .ref n => match A[n]? with
    | some (.lst _) => some "list"
    | some (.dct _) => some "dict"
    | _ => none
/-- is a thing of the type a one of T? -/
def subTy (a T : String) : Bool := a == T || (a == "bool" && T == "int")
def isiD (T : String) (d : D) (A : AH) : R D := match tyD A d with
  | some a => .ok (.bl (subTy a T)) A
  | none => .bad
def isiD2 (T U : String) (d : D) (A : AH) : R D := match tyD A d with
  | some a => .ok (.bl (subTy a T || subTy a U)) A
  | none => .bad
/-- the types that are asked about -/
def askTy : List String := ["int", "bool", "str", "tuple", "list", "dict"]
theorem kit_all : ∀ a ∈ ["NoneType", "bool", "int", "str", "tuple", "list", "dict"], ∀ T ∈ askTy, kitB a T = some (subTy a T) := by decide +kernel
section
variable {K : PySem.W.Frag} {mg : Str → Option Value} {W : Wd} {A : AH} {H : Hp}
theorem tyD_at (k : Ok K mg W A H) {d : D} {v : V} (r : Rep K W d v) {a : String} (e : tyD A d = some a) : TyX K H v (.type a) ∧ a ∈ ["NoneType", "bool", "int", "str", "tuple", "list", "dict"] := by
  cases d with
  | non =>
    cases (show some "NoneType" = some a from e)
    cases (show v = .non from r)
    exact ⟨.base .non, by simp⟩
  | bl b =>
    cases (show some "bool" = some a from e)
    cases (show v = .bl b from r)
    exact ⟨.base (.bl b), by simp⟩
  | int b =>
    cases (show some "int" = some a from e)
    cases (show v = .int b from r)
    exact ⟨.base (.int b), by simp⟩
  | str b =>
    cases (show some "str" = some a from e)
    cases (show v = .str b from r)
    exact ⟨.base (.str b), by simp⟩
  | tup ds =>
    cases (show some "tuple" = some a from e)
    obtain ⟨p, xs, rfl, h1, _⟩ := tup_at k r
    rcases h1 with (h1 | ⟨o, h1⟩) | ⟨o, its, n, h1, h2, _⟩
    · exact ⟨.base (.tup h1), by simp⟩
    · exact ⟨.fTuple h1, by simp⟩
    · exact ⟨.kTuple h1 h2, by simp⟩
  | lst ds =>
    cases (show some "list" = some a from e)
    obtain ⟨p, xs, rfl, h1, _⟩ := r
    exact ⟨.base (.lst (k.frz _ _ h1)), by simp⟩
  | scr ns =>
    cases (show some "list" = some a from e)
    obtain ⟨p, rfl, h1⟩ := r
    rcases k.sqL h1 with (h1 | ⟨o, h1⟩) | ⟨o, its, n, h1, h2, _⟩
    · exact ⟨.base (.lst h1), by simp⟩
    · exact ⟨.base (.frz h1), by simp⟩
    · exact ⟨.kList h1 h2, by simp⟩
  | dct ks ds =>
    cases (show some "dict" = some a from e)
    obtain ⟨p, xs, rfl, h1, _⟩ := r
    exact ⟨.base (.dK (k.frz _ _ h1)), by simp⟩
  | ref n =>
    obtain ⟨p, rfl, hp⟩ := r
    unfold tyD at e
    dsimp only at e
    split at e
    · rename_i ds q
      cases e
      obtain ⟨xs, h1, _⟩ := k.obj n p _ hp q
      exact ⟨.base (.lst h1), by simp⟩
    · rename_i ds q
      cases e
      obtain ⟨xs, h1, _⟩ := k.obj n p _ hp q
      exact ⟨.base (.dK h1), by simp⟩
    · cases e
end
section
variable {X : Cx} {Wx : WX} {e : Expr} {te : TE} {me : ME} {p pos : Pos}
theorem sisi {T : String} {y : Str} {p2 : Pos} (hT : T ∈ askTy) (hm : X.mg "isinstance" = none) (hm2 : X.mg y = none) (h : SE X Wx e te me) (hg : Gl X "isinstance" := by rfl) (hg2 : Gl X y := by rfl) (hv : bootBuiltins y = some (.type T) := by decide +kernel)
    (hn : y ≠ "__name__" := by decide) (hdb : (y == ("__debug__" : Str)) = false := by decide)
    (he1 : starEach [.Name y p2] X.env = (false, eval (.Name y p2) X.env) :: starEach [] X.env := by rfl) (he2 : starEach [e, .Name y p2] X.env = (false, eval e X.env) :: starEach [.Name y p2] X.env := by rfl)
    (hpl : (backTo pos (starEach [.Name y p2] X.env)).any (·.1) = false := by rfl) :
    SE X Wx (.Call (.Name "isinstance" p) [e, .Name y p2] [] pos) (tCB (rIsi X.K) (tCons te (tCons (tC (.ty T)) tNil))) (mUn (isiD T) me) :=
  ⟨pe_callB call_isi hg hm (by decide +kernel) (pa_cons h.pe (pa_cons (pe_bltn hg2 hm2 hv rfl hn hdb) pa_nil he1) he2) (by decide) (by decide) he2 hpl, fun W σ s A H Q k sr z =>
    h.sim W σ s A H _ k sr (z.bind fun x A1 v W1 H1 e1 k1 r1 h1 => by
      show rIsi X.K [v, .ty T] H1 Q
      unfold isiD at h1
      split at h1
      · rename_i a e2
        obtain ⟨q1, q2⟩ := tyD_at k1 r1 e2
        exact ⟨v, .ty T, .type a, .type T, subTy a T, rfl, .ty T, q1, kit_ty (kit_all a q2 T hT), h1.ok_at k1 rfl⟩
      · exact h1.elim)⟩
theorem sisi2 {T U : String} {y z : Str} {p2 p3 p4 : Pos} {j : Nat} (hT : T ∈ askTy) (hU : U ∈ askTy) (hm : X.mg "isinstance" = none) (hm2 : X.mg y = none) (hm3 : X.mg z = none) (h : SE X Wx e te me) (hg : Gl X "isinstance" := by rfl) (hg2 : Gl X y := by rfl) (hg3 : Gl X z := by rfl)
    (hv : bootBuiltins y = some (.type T) := by decide +kernel) (hv3 : bootBuiltins z = some (.type U) := by decide +kernel)
    (hn : y ≠ "__name__" := by decide) (hdb : (y == ("__debug__" : Str)) = false := by decide) (hn3 : z ≠ "__name__" := by decide) (hdb3 : (z == ("__debug__" : Str)) = false := by decide)
    (he3 : starEach [.Name z p3] X.env = (false, eval (.Name z p3) X.env) :: starEach [] X.env := by rfl) (he4 : starEach [.Name y p2, .Name z p3] X.env = (false, eval (.Name y p2) X.env) :: starEach [.Name z p3] X.env := by rfl)
    (he1 : starEach [.Tuple [.Name y p2, .Name z p3] j p4] X.env = (false, eval (.Tuple [.Name y p2, .Name z p3] j p4) X.env) :: starEach [] X.env := by rfl)
    (he2 : starEach [e, .Tuple [.Name y p2, .Name z p3] j p4] X.env = (false, eval e X.env) :: starEach [.Tuple [.Name y p2, .Name z p3] j p4] X.env := by rfl)
    (hpl : (backTo pos (starEach [.Tuple [.Name y p2, .Name z p3] j p4] X.env)).any (·.1) = false := by rfl) :
    SE X Wx (.Call (.Name "isinstance" p) [e, .Tuple [.Name y p2, .Name z p3] j p4] [] pos) (tCB (rIsiT X.K) (tCons te (tCons (tTup (tCons (tC (.ty T)) (tCons (tC (.ty U)) tNil))) tNil))) (mUn (isiD2 T U) me) :=
  ⟨pe_callB call_isiT hg hm (by decide +kernel) (pa_cons h.pe (pa_cons (pe_tup (pa_cons (pe_bltn hg2 hm2 hv rfl hn hdb) (pa_cons (pe_bltn hg3 hm3 hv3 rfl hn3 hdb3) pa_nil he3) he4)) pa_nil he1) he2) (by decide) (by decide) he2 hpl, fun W σ s A H Q k sr z =>
    h.sim W σ s A H _ k sr (z.bind fun x A1 v W1 H1 e1 k1 r1 h1 => by
      show ([V.ty T, V.ty U] : List V).length ≤ sizeLine ∧ ∀ p, H1 p = none → rIsiT X.K [v, .ref p] (upd H1 p (.tup [.ty T, .ty U])) Q
      refine ⟨sz_of (by show 2 ≤ 16777216; decide), fun p hp => ?_⟩
      obtain ⟨k2, e2⟩ := k1.aside hp (.tup [.ty T, .ty U])
      have h2 := Post.ext e2 h1
      unfold isiD2 at h2
      split at h2
      · rename_i a e3
        obtain ⟨q1, q2⟩ := tyD_at k2 r1 e3
        refine ⟨v, p, [.ty T, .ty U], .type a, [.type T, .type U], subTy a T || subTy a U, rfl, upd_same, .cons (.ty T) (.cons (.ty U) .nil), q1, ?_, h2.ok_at k2 rfl⟩
        refine kitAny_cons (kit_ty (kit_all a q2 T hT)) (fun q => ?_) (fun q => by rw [q]; rfl)
        rw [q]
        refine kitAny_cons (kit_ty (kit_all a q2 U hU)) (fun q' => ?_) (fun q' => by rw [q']; rfl)
        rw [q']
        rfl
      · exact h2.elim)⟩
end
end Tg

set_option Elab.async false
set_option linter.all false
set_option maxRecDepth 100000
set_option maxHeartbeats 2000000
/-! TgMeth: methods of lists, dicts, texts; dict displays. -/
namespace Tg
open PySem PySem.Spec PyProof.Rows L2

def tyMD (A : AH) (T : String) (d : D) : Bool :=
  if T = "list" then (seqL A d).isSome else if T = "dict" then (dctD A d).isSome else if T = "str" then (match d with
    | .str _ => true
    | _ => false) else false
def mMt (T : String) (f : D → List D → AH → R D) (mo : ME) (ma : MA) : ME := fun s A => (mo s A).bind fun x A1 => if tyMD A1 T x then (ma s A1).bind fun ds A2 => f x ds A2 else .bad
def MtS (K : PySem.W.Frag) (mg : Str → Option Value) (r : V → List V → Hp → VK → Prop) (f : D → List D → AH → R D) : Prop :=
  ∀ (W : Wd) (A : AH) (H : Hp) (E : XK) (Q : VK) (d : D) (x : V) (ds : List D) (xs : List V), Ok K mg W A H → Rep K W d x → Reps K W ds xs → Post K mg (Rep K) W H E Q (f d ds A) → r x xs H Q
section
variable {K : PySem.W.Frag} {mg : Str → Option Value} {W : Wd} {A : AH} {H : Hp}
theorem tyMD_at (k : Ok K mg W A H) {d : D} {x : V} (r : Rep K W d x) {T : String} (h : tyMD A T d = true) : tyV K T x H := by
  unfold tyMD at h
  split at h
  · rename_i e
    subst e
    obtain ⟨ds, e1⟩ := Option.isSome_iff_exists.mp h
    obtain ⟨a, xs, rfl, h1, h2⟩ := seqL_at k r e1
    exact .inl ⟨rfl, xs, h1⟩
  · split at h
    · rename_i e
      subst e
      obtain ⟨ds, e1⟩ := Option.isSome_iff_exists.mp h
      obtain ⟨a, xs, rfl, h1, h2⟩ := dctD_at k r e1
      exact .inr (.inr (.inl ⟨rfl, .inl ⟨xs, h1⟩⟩))
    · split at h
      · rename_i e
        subst e
        split at h
        · cases (show x = _ from r)
          exact rfl
        · cases h
      · cases h
end
section
variable {X : Cx} {Wx : WX} {e o : Expr} {es : List Expr} {to : TE} {t : TA} {mo : ME} {m : MA} {apos cpos : Pos} {name : Str} {T id : String} {r : V → List V → Hp → VK → Prop} {f : D → List D → AH → R D}
theorem smt (pa : PlainAttrs T) (slot : Slot T name id) (hty : typeOf (.builtin id) = pure (.type "method_descriptor")) (hm : MtR X id r) (hs : MtS X.K X.mg r f) (ho : SE X Wx o to mo) (ha : SA X Wx (e :: es) t m)
    (hbase : attributeBase o name X.env (eval o X.env) = eval o X.env := by rfl)
    (hfew : ((backTo cpos (starEach (e :: es) X.env)).all (fun x => !x.1) && (backToKw cpos (keywordEach [] X.env)).all (fun x => x.1.isSome) && decide ((e :: es).length + ([] : List Keyword).length + (if ([] : List Keyword).isEmpty then 0 else 1) < 30)) = true := by rfl)
    (hline : (apos.endLine == cpos.line) = true := by rfl) (hst : starEach (e :: es) X.env = (false, eval e X.env) :: starEach es X.env := by rfl) (hplain : (backTo cpos (starEach es X.env)).any (·.1) = false := by rfl) :
    SE X Wx (.Call (.Attribute o name apos) (e :: es) [] cpos) (tBM X.K T r to t) (mMt T f mo m) :=
  ⟨pe_bm pa slot hty hm ho.pe ha.pa hbase hfew hline hst hplain, fun W σ s A H Q k sr z => ho.sim W σ s A H _ k sr (z.bind fun x A1 v W1 H1 e1 k1 r1 h1 => by
    by_cases q : tyMD A1 T x = true
    · rw [if_pos q] at h1
      exact ⟨tyMD_at k1 r1 q, ha.sim W1 σ s A1 H1 _ k1 (sr.le e1.le) (h1.bind fun ds A2 us W2 H2 e2 k2 r2 h2 => hs W2 A2 H2 _ Q x v ds us k2 (r1.le e2.le) r2 h2)⟩
    · rw [if_neg q] at h1
      exact h1.elim)⟩
theorem smt0 (pa : PlainAttrs T) (slot : Slot T name id) (hty : typeOf (.builtin id) = pure (.type "method_descriptor")) (hm : MtR X id r) (hs : MtS X.K X.mg r f) (ho : SE X Wx o to mo)
    (hbase : attributeBase o name X.env (eval o X.env) = eval o X.env := by rfl) (hline : (apos.endLine == cpos.line) = true := by rfl) :
    SE X Wx (.Call (.Attribute o name apos) [] [] cpos) (tBM0 X.K T r to) (mMt T f mo mNil) :=
  ⟨pe_bm0 pa slot hty hm ho.pe hbase hline, fun W σ s A H Q k sr z => ho.sim W σ s A H _ k sr (z.bind fun x A1 v W1 H1 e1 k1 r1 h1 => by
    by_cases q : tyMD A1 T x = true
    · rw [if_pos q] at h1
      exact ⟨tyMD_at k1 r1 q, hs W1 A1 H1 _ Q x v [] [] k1 r1 rfl h1⟩
    · rw [if_neg q] at h1
      exact h1.elim)⟩
end

/-! ### lists that change -/
def appD : D → List D → AH → R D
  | .ref n, [d], A => match A[n]? with
    | some (.lst ds) => if ds.length < 16777216 then .ok .non (A.set n (.lst (ds ++ [d]))) else .bad
    | _ => .bad
  | _, _, _ => .bad
def extD : D → List D → AH → R D
  | .ref n, [d], A => match A[n]?, lstL A d with
    | some (.lst ds), some es => if ds.length + es.length ≤ 16777216 then .ok .non (A.set n (.lst (ds ++ es))) else .bad
    | _, _ => .bad
  | _, _, _ => .bad
def popD : D → List D → AH → R D
  | .ref n, [], A => match A[n]? with
    | some (.lst ds) => match ds[ds.length - 1]? with
      | some d => .ok d (A.set n (.lst ds.dropLast))
      | none => .bad
    | _ => .bad
  | _, _, _ => .bad
def popAtD : D → List D → AH → R D
  | .ref n, [.int i], A => match A[n]? with
    | some (.lst ds) => if 0 ≤ i ∧ i < ds.length ∧ i < 2 ^ 63 then match ds[i.toNat]? with
      | some d => .ok d (A.set n (.lst (ds.eraseIdx i.toNat)))
      | none => .bad
      else .bad
    | _ => .bad
  | _, _, _ => .bad
def revD : D → List D → AH → R D
  | .ref n, [], A => match A[n]? with
    | some (.lst ds) => .ok .non (A.set n (.lst ds.reverse))
    | _ => .bad
  | _, _, _ => .bad
def clrD : D → List D → AH → R D
  | .ref n, [], A => match A[n]? with
    | some (.lst _) => .ok .non (A.set n (.lst []))
    | _ => .bad
  | _, _, _ => .bad
def findI (k : Int) : List Int → Option Nat
  | [] => none
  | i :: is => if i = k then some 0 else (findI k is).map (· + 1)
def remD : D → List D → AH → R D
  | .ref n, [.int k], A => match A[n]? with
    | some (.lst ds) => match intsD ds with
      | some ns => match findI k ns with
        | some j => .ok .non (A.set n (.lst ((ns.eraseIdx j).map .int)))
        | none => .bad
      | none => .bad
    | _ => .bad
  | _, _, _ => .bad
section
variable {K : PySem.W.Frag} {mg : Str → Option Value}
theorem obl {W : Wd} {ds : List D} {xs : List V} (h : Reps K W ds xs) : ObR K mg W (.lst ds) (some (.lst xs)) := ⟨xs, rfl, h⟩
theorem obd {W : Wd} {kvs : List (Key × D)} {vs : List (Key × V)} (h : KVR K W kvs vs) : ObR K mg W (.dct kvs) (some (.dK vs)) := ⟨vs, rfl, h.1, h.2⟩
theorem post_write {W : Wd} {A : AH} {H : Hp} {E : XK} {Q : VK} {n : Nat} {a : Addr} {d : D} {v : V} {u : AO} {o : HO} (k : Ok K mg W A H) (ha : W.m[n]? = some a) (ob : ObR K mg W u (some o)) (rv : Rep K W d v)
    (h : Post K mg (Rep K) W H E Q (.ok d (A.set n u))) (nl : NL A n := by (first | exact nl_of ‹_› rfl | (apply nl_of <;> first | assumption | rfl))) (hu : u.isL = false := by rfl) : Q v (upd H a o) := by
  obtain ⟨k1, e1⟩ := k.write ha ob nl hu
  exact h _ _ _ e1 k1 (rv.le e1.le)
theorem oAppS : MtS K mg rAppend appD := fun W A H E Q d x ds xs k rx r h => by
  unfold appD at h
  split at h
  · obtain ⟨a, rfl, ha⟩ := rx
    obtain ⟨v, rfl, h1⟩ := reps1 r
    split at h
    · rename_i es q
      split at h
      · rename_i z
        obtain ⟨ys, h2, h3⟩ := k.lookL ha q
        exact ⟨a, ys, v, rfl, rfl, h2, by rw [sizeLine_eq, h3.length]; exact z, post_write (d := .non) k ha (obl (h3.append (Reps.one h1))) rfl h⟩
      · exact h.elim
    · exact h.elim
  · exact h.elim
theorem oExtS : MtS K mg rExtend extD := fun W A H E Q d x ds xs k rx r h => by
  unfold extD at h
  split at h
  · obtain ⟨a, rfl, ha⟩ := rx
    obtain ⟨v, rfl, h1⟩ := reps1 r
    split at h
    · rename_i es fs q q2
      split at h
      · rename_i z
        obtain ⟨ys, h2, h3⟩ := k.lookL ha q
        obtain ⟨b, zs, rfl, h4, h5⟩ := lstL_at k h1 q2
        exact ⟨a, b, ys, zs, rfl, rfl, h2, h4, by rw [h3.length, h5.length]; exact sz_of z, post_write (d := .non) k ha (obl (h3.append h5)) rfl h⟩
      · exact h.elim
    · exact h.elim
  · exact h.elim
theorem Reps.dropLast {W : Wd} {ds : List D} {xs : List V} (r : Reps K W ds xs) : Reps K W ds.dropLast xs.dropLast := by
  rw [List.dropLast_eq_take, List.dropLast_eq_take, r.length]
  exact r.take _
theorem oPopS : MtS K mg rPop popD := fun W A H E Q d x ds xs k rx r h => by
  unfold popD at h
  split at h
  · obtain ⟨a, rfl, ha⟩ := rx
    cases (show xs = [] from r)
    split at h
    · rename_i es q
      split at h
      · rename_i d' q2
        obtain ⟨ys, h2, h3⟩ := k.lookL ha q
        obtain ⟨v, h4, h5⟩ := h3.get q2
        exact ⟨a, ys, v, rfl, rfl, h2, by rw [h3.length]; exact h4, post_write k ha (obl (h3.dropLast)) h5 h⟩
      · exact h.elim
    · exact h.elim
  · exact h.elim
theorem oPopAtS : MtS K mg rPopAt popAtD := fun W A H E Q d x ds xs k rx r h => by
  unfold popAtD at h
  split at h
  · obtain ⟨a, rfl, ha⟩ := rx
    obtain ⟨v, rfl, h1⟩ := reps1 r
    cases (show v = _ from h1)
    split at h
    · rename_i i _ es q
      split at h
      · rename_i z
        split at h
        · rename_i d' q2
          obtain ⟨ys, h2, h3⟩ := k.lookL ha q
          obtain ⟨v, h4, h5⟩ := h3.get q2
          refine ⟨a, ys, _, _, v, rfl, rfl, h2, by omega, z.2.2, ?_, h4, post_write k ha (obl (h3.eraseIdx _)) h5 h⟩
          rw [h3.length]
          exact (ixN_seq (by unfold ixN; rw [if_pos z.1, if_pos z.2.1])).1
        · exact h.elim
      · exact h.elim
    · exact h.elim
  · exact h.elim
theorem oRevS : MtS K mg rReverse revD := fun W A H E Q d x ds xs k rx r h => by
  unfold revD at h
  split at h
  · obtain ⟨a, rfl, ha⟩ := rx
    cases (show xs = [] from r)
    split at h
    · rename_i es q
      obtain ⟨ys, h2, h3⟩ := k.lookL ha q
      exact ⟨a, ys, rfl, rfl, h2, post_write (d := .non) k ha (obl (h3.reverse)) rfl h⟩
    · exact h.elim
  · exact h.elim
theorem oClrS : MtS K mg rClear clrD := fun W A H E Q d x ds xs k rx r h => by
  unfold clrD at h
  split at h
  · obtain ⟨a, rfl, ha⟩ := rx
    cases (show xs = [] from r)
    split at h
    · rename_i es q
      obtain ⟨ys, h2, h3⟩ := k.lookL ha q
      exact ⟨a, ys, rfl, rfl, h2, post_write (d := .non) k ha (obl (show Reps K W [] [] from rfl)) rfl h⟩
    · exact h.elim
  · exact h.elim
theorem findI_at : ∀ {ns : List Int} {k : Int} {j : Nat}, findI k ns = some j → ns[j]? = some k ∧ ∀ m : Nat, m < j → ns[m]? ≠ some k
  | [], _, _, e => by cases e
  | i :: is, k, j, e => by
    unfold findI at e
    by_cases q : i = k
    · rw [if_pos q] at e
      cases e
      exact ⟨by simp [q], fun m hm => absurd hm (Nat.not_lt_zero m)⟩
    · rw [if_neg q] at e
      obtain ⟨j', e1, rfl⟩ := Option.map_eq_some_iff.mp e
      obtain ⟨h1, h2⟩ := findI_at e1
      refine ⟨by simpa using h1, fun m hm => ?_⟩
      cases m with
      | zero => simpa using q
      | succ m => simpa using h2 m (by omega)
theorem oRemS : MtS K mg rRemI remD := fun W A H E Q d x ds xs k rx r h => by
  unfold remD at h
  split at h
  · obtain ⟨a, rfl, ha⟩ := rx
    obtain ⟨v, rfl, h1⟩ := reps1 r
    cases (show v = _ from h1)
    split at h
    · rename_i es q
      split at h
      · rename_i ns q2
        split at h
        · rename_i j q3
          obtain ⟨ys, h2, h3⟩ := k.lookL ha q
          have ey := intsD_at q2 h3
          subst ey
          obtain ⟨f1, f2⟩ := findI_at q3
          exact ⟨a, ns, _, j, rfl, rfl, h2, f1, f2, post_write (d := .non) k ha (obl (reps_ints W _)) rfl h⟩
        · exact h.elim
      · exact h.elim
    · exact h.elim
  · exact h.elim
end

/-! ### texts -/
def strsD : List D → Option (List Str)
  | [] => some []
  | .str z :: ds => (strsD ds).map (z :: ·)
  | _ :: _ => none
def joinD : D → List D → AH → R D
  | .str a, [d], A => match (itemsD A d).bind strsD with
    | some ys => if (ys.map (·.length)).sum + ys.length * a.length ≤ 16777216 then .ok (.str (Txt.join a ys)) A else .bad
    | none => .bad
  | _, _, _ => .bad
def splitD : D → List D → AH → R D
  | .str a, [.str b], A => if (b.length == 0) = false ∧ a.length + 2 ≤ 16777216 then .ok (.lst ((Txt.split a b).map .str)) A else .bad
  | _, _, _ => .bad
section
variable {K : PySem.W.Frag} {mg : Str → Option Value}
theorem strsD_at {W : Wd} : ∀ {ds : List D} {ys : List Str} {xs : List V}, strsD ds = some ys → Reps K W ds xs → xs = ys.map V.str
  | [], ys, xs, e, r => by
    cases (show some [] = some ys from e)
    exact r
  | d :: ds, ys, xs, e, r => by
    cases d with
    | str z =>
      obtain ⟨ys', e1, rfl⟩ := Option.map_eq_some_iff.mp (show (strsD ds).map (z :: ·) = some ys from e)
      obtain ⟨v, r', rfl, h1, h2⟩ := r
      rw [strsD_at e1 h2, (show v = .str z from h1)]
      rfl
    | _ => cases (show none = some ys from e)
theorem reps_strs (W : Wd) : ∀ ys : List Str, Reps K W (ys.map .str) (ys.map V.str)
  | [] => rfl
  | y :: ys => ⟨_, _, rfl, rfl, reps_strs W ys⟩
theorem oJoinS : MtS K mg (fun x xs H Q => ∃ a p, ∃ ys : List Str, x = .str a ∧ xs = [.ref p] ∧ (SqL K H p (ys.map V.str) ∨ SqT K H p (ys.map V.str)) ∧ (ys.map (·.length)).sum + ys.length * a.length ≤ 16777216 ∧ Q (.str (Txt.join a ys)) H) joinD :=
  fun W A H E Q d x ds xs k rx r h => by
    unfold joinD at h
    split at h
    · cases (show x = _ from rx)
      obtain ⟨v, rfl, h1⟩ := reps1 r
      split at h
      · rename_i ys e1
        obtain ⟨es, e2, e3⟩ := Option.bind_eq_some_iff.mp e1
        split at h
        · rename_i z
          obtain ⟨p, zs, rfl, h2, h3⟩ := itemsD_at k h1 e2
          have ez := strsD_at e3 h3
          subst ez
          exact ⟨_, p, ys, rfl, rfl, h2, z, h.ok_at k rfl⟩
        · exact h.elim
      · exact h.elim
    · exact h.elim
theorem oSplitS : MtS K mg (fun x xs H Q => ∃ a b, x = .str a ∧ xs = [.str b] ∧ (b.length == 0) = false ∧ a.length + 2 ≤ sizeLine ∧ rNewStrs (Txt.split a b) H Q) splitD :=
  fun W A H E Q d x ds xs k rx r h => by
    unfold splitD at h
    split at h
    · cases (show x = _ from rx)
      obtain ⟨v, rfl, h1⟩ := reps1 r
      cases (show v = _ from h1)
      split at h
      · rename_i z
        exact ⟨_, _, rfl, rfl, z.1, sz_of z.2, fun p hp => post_lst k h (reps_strs W _) hp⟩
      · exact h.elim
    · exact h.elim
end

/-! ### dicts -/
def getD1 (x y : D) (A : AH) : R D := match dctD A x, keyD y with
  | some kvs, some k => .ok ((lkK kvs k).getD .non) A
  | _, _ => .bad
def getD2 (x y z : D) (A : AH) : R D := match dctD A x, keyD y with
  | some kvs, some k => .ok ((lkK kvs k).getD z) A
  | _, _ => .bad
def mGet1 (o y : ME) : ME := fun s A => (o s A).bind fun x A1 => if (dctD A1 x).isSome then (y s A1).bind fun d A2 => getD1 x d A2 else .bad
def mGet2 (o y z : ME) : ME := fun s A => (o s A).bind fun x A1 => if (dctD A1 x).isSome then (y s A1).bind fun d A2 => (z s A2).bind fun e A3 => getD2 x d e A3 else .bad
section
variable {X : Cx} {Wx : WX} {o e f : Expr} {to te tf : TE} {mo me mf : ME} {apos cpos : Pos} {kk : Nat}
theorem isD_of {K : PySem.W.Frag} {mg : Str → Option Value} {W : Wd} {A : AH} {H : Hp} (k : Ok K mg W A H) {d : D} {x : V} (r : Rep K W d x) (h : (dctD A d).isSome = true) : ∃ a, x = .ref a ∧ IsD H a := by
  obtain ⟨kvs, e1⟩ := Option.isSome_iff_exists.mp h
  obtain ⟨a, vs, rfl, h1, _⟩ := dctD_at k r e1
  exact ⟨a, rfl, .inl ⟨vs, .inl h1⟩⟩
theorem sget1 (hr : Room kk X.A) (ho : SE X Wx o to mo) (he : SE X Wx e te me) (m : M1 X o "get" apos e cpos := by exact ⟨by rfl, by rfl, by rfl, by rfl⟩) : SE X Wx (.Call (.Attribute o "get" apos) [e] [] cpos) (tDGet1 to te) (mGet1 mo me) :=
  ⟨pe_dget1 (room_u1 hr) ho.pe he.pe m, fun W σ s A H Q k sr z => ho.sim W σ s A H _ k sr (z.bind fun x A1 v W1 H1 e1 k1 r1 h1 => by
    by_cases q : (dctD A1 x).isSome = true
    · rw [if_pos q] at h1
      obtain ⟨a, rfl, hd⟩ := isD_of k1 r1 q
      refine ⟨a, rfl, hd, he.sim W1 σ s A1 H1 _ k1 (sr.le e1.le) (h1.bind fun y A2 u W2 H2 e2 k2 r2 h2 => ?_)⟩
      unfold getD1 at h2
      split at h2
      · rename_i kvs kx q1 q2
        obtain ⟨b, vs, ev, h3, h4⟩ := dctD_at k2 (r1.le e2.le) q1
        cases ev
        refine ⟨valV vs kx, ?_, h2.ok_at k2 ?_⟩
        · rw [keyD_at r2 q2]
          exact .k h3
        · cases q3 : lkK kvs kx with
          | none =>
            rw [h4.none q3]
            exact rfl
          | some d =>
            obtain ⟨w', h5, h6⟩ := h4.get q3
            rw [h5]
            exact h6
      · exact h2.elim
    · rw [if_neg q] at h1
      exact h1.elim)⟩
theorem sget2 (hr : Room kk X.A) (ho : SE X Wx o to mo) (he : SE X Wx e te me) (hf : SE X Wx f tf mf) (m : M2 X o "get" apos e f cpos := by exact ⟨by rfl, by rfl, by rfl, by rfl⟩) : SE X Wx (.Call (.Attribute o "get" apos) [e, f] [] cpos) (tDGet2 to te tf) (mGet2 mo me mf) :=
  ⟨pe_dget2 (room_u1 hr) ho.pe he.pe hf.pe m, fun W σ s A H Q k sr z => ho.sim W σ s A H _ k sr (z.bind fun x A1 v W1 H1 e1 k1 r1 h1 => by
    by_cases q : (dctD A1 x).isSome = true
    · rw [if_pos q] at h1
      obtain ⟨a, rfl, hd⟩ := isD_of k1 r1 q
      refine ⟨a, rfl, hd, he.sim W1 σ s A1 H1 _ k1 (sr.le e1.le) (h1.bind fun y A2 u W2 H2 e2 k2 r2 h2 => hf.sim W2 σ s A2 H2 _ k2 (sr.le (e1.trans e2).le) (h2.bind fun dz A3 uz W3 H3 e3 k3 r3 h3 => ?_))⟩
      unfold getD2 at h3
      split at h3
      · rename_i kvs kx q1 q2
        obtain ⟨b, vs, ev, h4, h5⟩ := dctD_at k3 (r1.le (e2.trans e3).le) q1
        cases ev
        refine ⟨valV vs kx, ?_, h3.ok_at k3 ?_⟩
        · rw [keyD_at r2 q2]
          exact .k h4
        · cases q3 : lkK kvs kx with
          | none =>
            rw [h5.none q3]
            exact r3
          | some d =>
            obtain ⟨w', h6, h7⟩ := h5.get q3
            rw [h6]
            exact h7
      · exact h3.elim
    · rw [if_neg q] at h1
      exact h1.elim)⟩
end

/-! ### {k: v, ..} -/
abbrev MP := Sl → AH → R (List (D × D))
def RepP (K : PySem.W.Frag) (W : Wd) : List (D × D) → List (V × V) → Prop
  | [], ps => ps = []
  | p :: ds, ps => ∃ q r, ps = q :: r ∧ Rep K W p.1 q.1 ∧ Rep K W p.2 q.2 ∧ RepP K W ds r
structure SPs (X : Cx) (Wx : WX) (pos : Pos) (keys : List (Option Expr)) (values : List Expr) (trs : List (TE × TE)) (m : MP) : Prop where
  pps : PPs X pos keys values trs
  sim : ∀ (W : Wd) (σ : L2.St) (s : Sl) (A : AH) (H : Hp) (Q : List (V × V) → Hp → Prop), Ok X.K X.mg W A H → SlR X.K W s σ → Post X.K X.mg (RepP X.K) W H (fun c d H' => Wx c d σ H') Q (m s A) → tPairs trs σ H Q
def mPNil : MP := fun _ A => .ok [] A
def mPCons (a b : ME) (r : MP) : MP := fun s A => (a s A).bind fun x A1 => (b s A1).bind fun y A2 => (r s A2).bind fun ps A3 => .ok ((x, y) :: ps) A3
def keysD : List (D × D) → Option (List (Key × D))
  | [] => some []
  | p :: ps => match keyD p.1, keysD ps with
    | some k, some kvs => some ((k, p.2) :: kvs)
    | _, _ => none
def mergeD (kvs more : List (Key × D)) : List (Key × D) := more.foldl (fun acc kv => ptK acc kv.1 kv.2) kvs
/-- a dict that lies still; one that will change -/
def mDct (m : MP) : ME := fun s A => (m s A).bind fun ps A1 => match keysD ps with
  | some kvs => if kvs.length ≤ 15 then .ok (.dct ((mergeD [] kvs).map (·.1)) ((mergeD [] kvs).map (·.2))) A1 else .bad
  | none => .bad
def mDctN (m : MP) : ME := fun s A => (m s A).bind fun ps A1 => match keysD ps with
  | some kvs => if kvs.length ≤ 15 then .ok (.ref A1.length) (A1 ++ [.dct (mergeD [] kvs)]) else .bad
  | none => .bad
section
variable {K : PySem.W.Frag} {mg : Str → Option Value} {W : Wd}
theorem RepP.le {W' : Wd} (l : Le W W') : ∀ {ds : List (D × D)} {ps : List (V × V)}, RepP K W ds ps → RepP K W' ds ps
  | [], _, h => h
  | _ :: _, _, h => by
    obtain ⟨q, r, e, h1, h2, h3⟩ := h
    exact ⟨q, r, e, h1.le l, h2.le l, RepP.le l h3⟩
theorem keysD_at : ∀ {ds : List (D × D)} {ps : List (V × V)} {kvs : List (Key × D)}, RepP K W ds ps → keysD ds = some kvs → ∃ vs : List (Key × V), ps = vs.map (fun kv => (kV kv.1, kv.2)) ∧ KVR K W kvs vs
  | [], ps, kvs, r, e => by
    cases (show some [] = some kvs from e)
    cases (show ps = [] from r)
    exact ⟨[], rfl, rfl, rfl⟩
  | p :: ds, ps, kvs, r, e => by
    obtain ⟨q, r', rfl, h1, h2, h3⟩ := r
    unfold keysD at e
    split at e
    · rename_i kx kvs' e1 e2
      cases e
      obtain ⟨vs, e3, e4⟩ := keysD_at h3 e2
      refine ⟨(kx, q.2) :: vs, ?_, KVR.mk_cons h2 e4⟩
      rw [List.map_cons, ← e3, ← keyD_at h1 e1]
    · cases e
theorem KVR.merge : ∀ {more : List (Key × D)} {ms : List (Key × V)} {kvs : List (Key × D)} {vs : List (Key × V)}, KVR K W more ms → KVR K W kvs vs → KVR K W (mergeD kvs more) (mergeK vs ms)
  | [], ms, kvs, vs, r, r' => by
    cases r.nil_iff
    exact r'
  | p :: more, ms, kvs, vs, r, r' => by
    obtain ⟨v, ms', rfl, h1, h2⟩ := r.cons_iff
    have e : mergeK vs ((p.1, v) :: ms') = mergeK (putK vs p.1 v) ms' := rfl
    rw [e]
    exact KVR.merge (more := more) h2 (r'.put h1)
theorem KVR.zipMap {kvs : List (Key × D)} : ((kvs.map (·.1)).zip (kvs.map (·.2))) = kvs := by
  induction kvs with
  | nil => rfl
  | cons p r ih => simp only [List.map_cons, List.zip_cons_cons, ih]
end
section
variable {X : Cx} {Wx : WX} {pos : Pos} {a b : Expr} {keys : List (Option Expr)} {values : List Expr} {ta tb : TE} {ma mb : ME} {trs : List (TE × TE)} {m : MP}
theorem spnil : SPs X Wx pos [] [] [] mPNil := ⟨pps_nil, fun W σ s A H Q k sr h => h.ok_at k rfl⟩
theorem spcons (ha : SE X Wx a ta ma) (hb : SE X Wx b tb mb) (h : SPs X Wx pos keys values trs m) : SPs X Wx pos (some a :: keys) (b :: values) ((ta, tb) :: trs) (mPCons ma mb m) :=
  ⟨pps_cons ha.pe hb.pe h.pps, fun W σ s A H Q k sr z => ha.sim W σ s A H _ k sr (z.bind fun x A1 v W1 H1 e1 k1 r1 h1 => hb.sim W1 σ s A1 H1 _ k1 (sr.le e1.le) (h1.bind fun y A2 u W2 H2 e2 k2 r2 h2 =>
    h.sim W2 σ s A2 H2 _ k2 (sr.le (e1.trans e2).le) (h2.bind fun ps A3 qs W3 H3 e3 k3 r3 h3 => h3.ok_at k3 ⟨(v, u), qs, rfl, r1.le (e2.trans e3).le, r2.le e3.le, r3⟩)))⟩
theorem sdct (h : SPs X Wx pos keys values trs m) (hall : keys.all (·.isSome) = true := by rfl) (hl : keys.length = values.length := by rfl) (h0 : keys ≠ [] := by (intro z; cases z)) (h15 : keys.length ≤ 15 := by decide) : SE X Wx (.Dict keys values pos) (tDisp trs) (mDct m) :=
  ⟨pe_disp h.pps hall hl h0 h15, fun W σ s A H Q k sr z p hp => by
    obtain ⟨k0, e0⟩ := k.aside hp (.dK [])
    refine h.sim W σ s A _ _ k0 (sr.le e0.le) (z.bind0 e0 fun ps A1 qs W1 H1 e1 k1 r1 h1 => ?_)
    obtain ⟨nm, nF, k2, e2, hh⟩ := Ok.undo hp k e1 k1
    refine ⟨hh, ?_⟩
    split at h1
    · rename_i kvs q
      split at h1
      · rename_i q15
        obtain ⟨vs, ev, rr⟩ := keysD_at r1 q
        refine ⟨vs, ev, by rw [rr.len]; exact q15, ?_⟩
        have mm := KVR.merge rr (kvs := []) (vs := []) ⟨rfl, rfl⟩
        obtain ⟨k3, e3⟩ := k2.frozen delH_same (.dK (mergeK [] vs))
        rw [upd_delH] at k3 e3
        exact h1 _ _ _ (e2.trans e3) k3 ⟨p, _, rfl, upd_same, mm.1, mm.2.le e3.le⟩
      · exact h1.elim
    · exact h1.elim⟩
theorem sdctN (h : SPs X Wx pos keys values trs m) (hall : keys.all (·.isSome) = true := by rfl) (hl : keys.length = values.length := by rfl) (h0 : keys ≠ [] := by (intro z; cases z)) (h15 : keys.length ≤ 15 := by decide) : SE X Wx (.Dict keys values pos) (tDisp trs) (mDctN m) :=
  ⟨pe_disp h.pps hall hl h0 h15, fun W σ s A H Q k sr z p hp => by
    obtain ⟨k0, e0⟩ := k.aside hp (.dK [])
    refine h.sim W σ s A _ _ k0 (sr.le e0.le) (z.bind0 e0 fun ps A1 qs W1 H1 e1 k1 r1 h1 => ?_)
    obtain ⟨nm, nF, k2, e2, hh⟩ := Ok.undo hp k e1 k1
    refine ⟨hh, ?_⟩
    split at h1
    · rename_i kvs q
      split at h1
      · rename_i q15
        obtain ⟨vs, ev, rr⟩ := keysD_at r1 q
        refine ⟨vs, ev, by rw [rr.len]; exact q15, ?_⟩
        have mm := KVR.merge rr (kvs := []) (vs := []) ⟨rfl, rfl⟩
        have l : Le W1 ⟨W1.F, W1.m ++ [p]⟩ := ⟨fun _ _ e => e, [p], rfl⟩
        obtain ⟨k3, e3⟩ := k2.fresh delH_same (obd (mm.le l))
        rw [upd_delH] at k3 e3
        refine h1 _ _ _ (e2.trans e3) k3 ⟨p, rfl, ?_⟩
        rw [← k2.len]
        exact List.getElem?_concat_length
      · exact h1.elim
    · exact h1.elim⟩
theorem sdct0 : SE X Wx (.Dict [] [] pos) tDNewK (mDct mPNil) := ⟨pe_dnewK, fun W σ s A H Q k sr z p hp => by
    obtain ⟨k3, e3⟩ := k.frozen hp (.dK [])
    exact z _ _ _ e3 k3 ⟨p, _, rfl, upd_same, rfl, rfl⟩⟩
theorem sdct0N : SE X Wx (.Dict [] [] pos) tDNewK (mDctN mPNil) := ⟨pe_dnewK, fun W σ s A H Q k sr z p hp => by
    obtain ⟨k3, e3⟩ := k.fresh hp (o := .dK []) (u := .dct []) ⟨[], rfl, rfl, rfl⟩
    refine z _ _ _ e3 k3 ⟨p, rfl, ?_⟩
    rw [← k.len]
    exact List.getElem?_concat_length⟩
end
end Tg

set_option Elab.async false
set_option linter.all false
set_option maxRecDepth 100000
set_option maxHeartbeats 2000000
/-! TgStmt: statements, loops, comprehensions. -/
namespace Tg
open PySem PySem.Spec PyProof.Rows L2

inductive RS where
  | nx (s : Sl) (A : AH)
  | rt (d : D) (A : AH)
  | bk (s : Sl) (A : AH)
  | ct (s : Sl) (A : AH)
  | exc (x : XV) (s : Sl) (A : AH)
  | bad
abbrev MS := Sl → AH → RS
def PostS (K : PySem.W.Frag) (mg : Str → Option Value) (W : Wd) (H : Hp) (De : Ends) (Wx : WX) : RS → Prop
  | .nx s A => ∀ W' σ' H', Ext W H W' H' → Ok K mg W' A H' → SlR K W' s σ' → De.nx σ' H'
  | .rt d A => ∀ W' v H', Ext W H W' H' → Ok K mg W' A H' → Rep K W' d v → De.rt v H'
  | .bk s A => ∀ W' σ' H', Ext W H W' H' → Ok K mg W' A H' → SlR K W' s σ' → De.bk σ' H'
  | .ct s A => ∀ W' σ' H', Ext W H W' H' → Ok K mg W' A H' → SlR K W' s σ' → De.ct σ' H'
  | .exc x s A => ∀ W' σ' H' c d, Ext W H W' H' → Ok K mg W' A H' → SlR K W' s σ' → XRep K mg W' x c d H' → Wx c d σ' H'
  | .bad => False
section
variable {K : PySem.W.Frag} {mg : Str → Option Value} {W W1 : Wd} {H H1 : Hp} {De : Ends} {Wx : WX}
theorem PostS.ext {r : RS} (e : Ext W H W1 H1) (h : PostS K mg W H De Wx r) : PostS K mg W1 H1 De Wx r := by
  cases r with
  | nx s A => exact fun W' σ' H' x => h W' σ' H' (e.trans x)
  | rt s A => exact fun W' σ' H' x => h W' σ' H' (e.trans x)
  | bk s A => exact fun W' σ' H' x => h W' σ' H' (e.trans x)
  | ct s A => exact fun W' σ' H' x => h W' σ' H' (e.trans x)
  | exc y s A => exact fun W' σ' H' c d x => h W' σ' H' c d (e.trans x)
  | bad => exact h
theorem PostS.nx_at {s : Sl} {A : AH} {σ : L2.St} (h : PostS K mg W H De Wx (.nx s A)) (k : Ok K mg W A H) (sr : SlR K W s σ) : De.nx σ H := h W σ H (Ext.refl W H) k sr
end
def SimS (K : PySem.W.Frag) (mg : Str → Option Value) (Wx : WX) (t : TS) (m : MS) : Prop :=
  ∀ (W : Wd) (σ : L2.St) (s : Sl) (A : AH) (H : Hp) (De : Ends), Ok K mg W A H → SlR K W s σ → PostS K mg W H De Wx (m s A) → t De σ H
structure SS (X : Cx) (Wx : WX) (st : Stmt) (t : TS) (m : MS) : Prop where
  ps : PS X st t
  sim : SimS X.K X.mg Wx t m
structure SSs (X : Cx) (Wx : WX) (st : List Stmt) (t : TS) (m : MS) : Prop where
  ps : PSs X st t
  sim : SimS X.K X.mg Wx t m
/-- behind an expression -/
def R.thenS {α : Type} (r : R α) (s : Sl) (f : α → AH → RS) : RS := match r with
  | .ok a A => f a A
  | .exc x A => .exc x s A
  | .bad => .bad
@[simp] theorem R.thenS_ok {α : Type} (a : α) (A : AH) (s : Sl) (f : α → AH → RS) : (R.ok a A).thenS s f = f a A := rfl
@[simp] theorem R.thenS_exc {α : Type} (x : XV) (A : AH) (s : Sl) (f : α → AH → RS) : (R.exc x A).thenS s f = .exc x s A := rfl
@[simp] theorem R.thenS_bad {α : Type} (s : Sl) (f : α → AH → RS) : (R.bad : R α).thenS s f = .bad := rfl
theorem PostS.bind {α β : Type} {K : PySem.W.Frag} {mg : Str → Option Value} {rel : Wd → α → β → Prop} {W : Wd} {H : Hp} {De : Ends} {Wx : WX} {Q : β → Hp → Prop} {r : R α} {s : Sl} {σ : L2.St} {f : α → AH → RS} (sr : SlR K W s σ) (h : PostS K mg W H De Wx (r.thenS s f))
    (g : ∀ a A1 b W1 H1, Ext W H W1 H1 → Ok K mg W1 A1 H1 → rel W1 a b → PostS K mg W1 H1 De Wx (f a A1) → Q b H1) : Post K mg rel W H (fun c d H' => Wx c d σ H') Q r := by
  cases r with
  | ok a A' => exact fun W' H' b x k z => g a A' b W' H' x k z (PostS.ext x h)
  | exc x A' => exact fun W' H' c d y k z => h W' σ H' c d y k (sr.le y.le) z
  | bad => exact h

def mNx : MS := fun s A => .nx s A
def mSeq (a b : MS) : MS := fun s A => match a s A with
  | .nx s1 A1 => b s1 A1
  | r => r
def mDrop (m : ME) : MS := fun s A => (m s A).thenS s fun _ A1 => .nx s A1
def mRet (m : ME) : MS := fun s A => (m s A).thenS s fun d A1 => .rt d A1
def mRetN : MS := fun _ A => .rt .non A
def mIfS (c : MT) (a b : MS) : MS := fun s A => (c s A).thenS s fun k A1 => if k then a s A1 else b s A1
def mCt : MS := fun s A => .ct s A
def mBk : MS := fun s A => .bk s A
def mNever : MS := fun _ _ => .bad
abbrev MG := D → Sl → Option Sl
def mAsg (m : ME) (g : MG) : MS := fun s A => (m s A).thenS s fun d A1 => match g d s with
  | some s1 => .nx s1 A1
  | none => .bad
def gmN (i : Nat) : MG := fun d s => some (s.set i (some d))
abbrev MGs := List D → Sl → Option Sl
def gmNil : MGs := fun ds s => match ds with
  | [] => some s
  | _ => none
def gmCons (g : MG) (gs : MGs) : MGs := fun ds s => match ds with
  | d :: r => match g d s with
    | some s1 => gs r s1
    | none => none
  | _ => none
def gmTup (n : Nat) (gs : MGs) : MG := fun d s => match d with
  | .tup ds => if ds.length = n then gs ds s else none
  | _ => none
theorem wipe_set {i : Nat} {o : Option V} : ∀ {vs : List Nat} {σ : L2.St}, wipe (σ.set i o) vs = if i ∈ vs then wipe σ vs else (wipe σ vs).set i o
  | [], σ => rfl
  | v :: vs, σ => by
    show (wipe (σ.set i o) vs).set v none = if i ∈ v :: vs then (wipe σ vs).set v none else ((wipe σ vs).set v none).set i o
    rw [wipe_set]
    by_cases h : i ∈ vs
    · rw [if_pos h, if_pos (List.mem_cons_of_mem _ h)]
    · rw [if_neg h]
      by_cases q : i = v
      · subst q
        rw [if_pos (List.mem_cons_self ..), List.set_set]
      · rw [if_neg (by simp only [List.mem_cons, not_or]; exact ⟨q, h⟩), List.set_comm _ _ q]
theorem wipe_in {i : Nat} {o : Option V} {vs : List Nat} {σ : L2.St} (h : i ∈ vs) : wipe (σ.set i o) vs = wipe σ vs := by rw [wipe_set, if_pos h]
def wpD (s : Sl) : List Nat → Sl
  | [] => s
  | v :: vs => (wpD s vs).set v none
theorem SlR.wipe {K : PySem.W.Frag} {W : Wd} {s : Sl} {σ : L2.St} (h : Tg.SlR K W s σ) : ∀ vs : List Nat, Tg.SlR K W (wpD s vs) (L2.wipe σ vs)
  | [] => h
  | v :: vs => (SlR.wipe h vs).unset v
/-- a target; is: its slots -/
structure SG (X : Cx) (tg : Expr) (g : TG) (m : MG) (is : List Nat) : Prop where
  pg : PG X tg g
  sim : ∀ (W : Wd) (σ : L2.St) (s s1 : Sl) (A : AH) (H : Hp) (d : D) (x : V) (Q : L2.St → Hp → Prop), Ok X.K X.mg W A H → SlR X.K W s σ → Rep X.K W d x → m d s = some s1 →
    (∀ σ', SlR X.K W s1 σ' → (∀ vs, (∀ i ∈ is, i ∈ vs) → wipe σ' vs = wipe σ vs) → Q σ' H) → g x σ H Q
structure SGs (X : Cx) (tg : List Expr) (g : TGs) (m : MGs) (is : List Nat) : Prop where
  pgs : PGs X tg g
  sim : ∀ (W : Wd) (σ : L2.St) (s s1 : Sl) (A : AH) (H : Hp) (ds : List D) (xs : List V) (Q : L2.St → Hp → Prop), Ok X.K X.mg W A H → SlR X.K W s σ → Reps X.K W ds xs → m ds s = some s1 →
    (∀ σ', SlR X.K W s1 σ' → (∀ vs, (∀ i ∈ is, i ∈ vs) → wipe σ' vs = wipe σ vs) → Q σ' H) → g xs σ H Q
section
variable {X : Cx} {Wx : WX} {e : Expr} {es : List Expr} {te : TE} {me : ME} {pos : Pos}
theorem gname {i : Nat} {x : Str} (hN : X.N.Nodup) (hi : X.N[i]? = some x := by rfl) (hx : Loc X.env.scope x := by first | exact Or.inl rfl | exact Or.inr rfl) (hf : X.fn x = true ∨ X.env.scope.names.lookup x = some .local := by first | exact .inl rfl | exact .inr rfl | assumption) :
    SG X (.Name x pos) (gName i) (gmN i) [i] := ⟨pg_name hN hi hx hf, fun W σ s s1 A H d x Q k sr r e h => by
  cases e
  exact h _ (sr.set i r) fun vs hv => wipe_in (hv i (by simp))⟩
theorem gnil : SGs X [] gNil gmNil [] := ⟨pgs_nil, fun W σ s s1 A H ds xs Q k sr r e h => by
  cases ds with
  | nil =>
    cases e
    exact ⟨r, h σ sr fun _ _ => rfl⟩
  | cons d ds => cases e⟩
theorem gcons {g : TG} {gs : TGs} {m : MG} {ms : MGs} {is js : List Nat} (h1 : SG X e g m is) (h2 : SGs X es gs ms js) (hs : (assignEach (e :: es) X.env).map (·.2) = assign e X.env :: (assignEach es X.env).map (·.2) := by rfl) :
    SGs X (e :: es) (gCons g gs) (gmCons m ms) (is ++ js) := ⟨pgs_cons h1.pg h2.pgs hs, fun W σ s s1 A H ds xs Q k sr r eq h => by
  cases ds with
  | nil => cases eq
  | cons d ds =>
    obtain ⟨v, r', rfl, r1, r2⟩ := r
    unfold gmCons at eq
    dsimp only at eq
    split at eq
    · rename_i s2 e1
      exact ⟨v, r', rfl, h1.sim W σ s s2 A H d v _ k sr r1 e1 fun σ2 sr2 w2 => h2.sim W σ2 s2 s1 A H ds r' _ k sr2 r2 eq fun σ3 sr3 w3 => h σ3 sr3 fun vs hv =>
        (w3 vs fun i hi => hv i (List.mem_append_right _ hi)).trans (w2 vs fun i hi => hv i (List.mem_append_left _ hi))⟩
    · cases eq⟩
theorem gtup {gs : TGs} {ms : MGs} {is : List Nat} {n j : Nat} (hc : X.calm = true) (h : SGs X es gs ms is) (hn : (assignEach es X.env).length = n := by rfl) (hst : (assignEach es X.env).findIdx? (·.1) = none := by rfl) :
    SG X (.Tuple es j pos) (gTup X.K n gs) (gmTup n ms) is := ⟨pg_tup hc h.pgs hn hst, fun W σ s s1 A H d x Q k sr r eq hq => by
  unfold gmTup at eq
  split at eq
  · rename_i ds
    split at eq
    · rename_i hl
      obtain ⟨a, xs, rfl, q1, q2⟩ := tup_at k r
      exact ⟨a, xs, rfl, q1, q2.length.trans hl, h.sim W σ s s1 A H ds xs Q k sr q2 eq hq⟩
    · cases eq
  · cases eq⟩
end

section
variable {X : Cx} {Wx : WX} {c e o : Expr} {es : List Expr} {st : Stmt} {rest as bs : List Stmt} {te to : TE} {me mo : ME} {tc : TT} {mc' : MT} {t u : TS} {m n : MS} {pos pos' : Pos}
theorem ssnil : SSs X Wx [] tNext mNx := ⟨pss_nil, fun W σ s A H De k sr h => h.nx_at k sr⟩
theorem sscons (h1 : SS X Wx st t m) (h2 : SSs X Wx rest u n) : SSs X Wx (st :: rest) (tSeq t u) (mSeq m n) :=
  ⟨pss_cons h1.ps h2.ps, fun W σ s A H De k sr h => h1.sim W σ s A H _ k sr (by
    unfold mSeq at h
    split at h
    · rename_i s1 A1 e1
      rw [e1]
      exact fun W' σ' H' x k' sr' => h2.sim W' σ' s1 A1 H' De k' sr' (PostS.ext x h)
    · rename_i z
      generalize hm : m s A = r at h z
      cases r with
      | nx s1 A1 => exact absurd rfl (z s1 A1)
      | _ => exact h)⟩
theorem ssone (h1 : SS X Wx st t m) : SSs X Wx [st] t m := ⟨pss_one h1.ps, h1.sim⟩
theorem spass : SS X Wx (.Pass pos) tNext mNx := ⟨ps_pass, fun W σ s A H De k sr h => h.nx_at k sr⟩
theorem scont : SS X Wx (.Continue pos) tCont mCt := ⟨ps_continue, fun W σ s A H De k sr h => h W σ H (Ext.refl W H) k sr⟩
theorem sbrk : SS X Wx (.Break pos) tBreak mBk := ⟨ps_break, fun W σ s A H De k sr h => h W σ H (Ext.refl W H) k sr⟩
theorem snever : SS X Wx st tNever mNever := ⟨ps_never, fun W σ s A H De k sr h => h.elim⟩
theorem sexpr (h : SE X Wx e te me) (hs : swapsWith e none pos.line X.env = pure false := by rfl) : SS X Wx (.Expr e pos) (tDrop te) (mDrop me) :=
  ⟨ps_expr h.pe hs, fun W σ s A H De k sr z => h.sim W σ s A H _ k sr (PostS.bind (rel := Rep X.K) sr z fun d A1 v W1 H1 e1 k1 r1 h1 => h1.nx_at k1 (sr.le e1.le))⟩
theorem sret (h : SE X Wx e te me) : SS X Wx (.Return (some e) pos) (tRet te) (mRet me) :=
  ⟨ps_ret h.pe, fun W σ s A H De k sr z => h.sim W σ s A H _ k sr (PostS.bind (rel := Rep X.K) sr z fun d A1 v W1 H1 e1 k1 r1 h1 => h1 W1 v H1 (Ext.refl _ _) k1 r1)⟩
theorem sretN : SS X Wx (.Return none pos) tRetN mRetN := ⟨ps_retN, fun W σ s A H De k sr h => h W .non H (Ext.refl _ _) k rfl⟩
theorem sifS (hc : ST X Wx c tc mc') (ha : SSs X Wx as t m) (hb : SSs X Wx bs u n) : SS X Wx (.If c as bs pos) (tIfS tc t u) (mIfS mc' m n) :=
  ⟨ps_if hc.pt ha.ps hb.ps, fun W σ s A H De k sr z => hc.sim W σ s A H _ k sr (PostS.bind (rel := relB) sr z fun x A1 v W1 H1 e1 k1 r1 h1 => by
    cases r1
    cases x with
    | true => exact ha.sim W1 σ s A1 H1 De k1 (sr.le e1.le) h1
    | false => exact hb.sim W1 σ s A1 H1 De k1 (sr.le e1.le) h1)⟩
theorem sim_asg {K : PySem.W.Frag} {mg : Str → Option Value} {g : TG} {mgt : MG} (h : SimE K mg Wx te me) (hg : ∀ (W : Wd) (σ : L2.St) (s s1 : Sl) (A : AH) (H : Hp) (d : D) (x : V) (Q : L2.St → Hp → Prop), Ok K mg W A H → SlR K W s σ → Rep K W d x → mgt d s = some s1 →
    (∀ σ', SlR K W s1 σ' → Q σ' H) → g x σ H Q) : SimS K mg Wx (tAsg te g) (mAsg me mgt) := fun W σ s A H De k sr z => h W σ s A H _ k sr (PostS.bind (rel := Rep K) sr z fun d A1 v W1 H1 e1 k1 r1 h1 => by
  split at h1
  · rename_i s1 q
    exact hg W1 σ s s1 A1 H1 d v _ k1 (sr.le e1.le) r1 q fun σ' sr' => h1.nx_at k1 sr'
  · exact h1.elim)
/-- name = e -/
theorem sset (i : Nat) {x : Str} (hN : X.N.Nodup) (h : SE X Wx e te me) (hi : X.N[i]? = some x := by rfl) (hx : Loc X.env.scope x := by first | exact Or.inl rfl | exact Or.inr rfl) (hs : swapsWith e (some (.Name x pos')) pos.line X.env = pure false := by rfl)
    (hf : X.fn x = true ∨ X.env.scope.names.lookup x = some .local := by first | exact .inl rfl | exact .inr rfl | assumption) : SS X Wx (.Assign [.Name x pos'] e pos) (tAsg te (gName i)) (mAsg me (gmN i)) :=
  ⟨ps_set hN hi hx h.pe hs hf, sim_asg h.sim fun W σ s s1 A H d x Q k sr r eq hq => by
    cases eq
    exact hq _ (sr.set i r)⟩
/-- (a, b) = e -/
theorem sasg {tg : Expr} {g : TG} {m : MG} {is : List Nat} (h : SE X Wx e te me) (hg : SG X tg g m is) (hs : swapsWithSole [tg] e pos.line X.env = pure false := by rfl) (hw : swappedStores [tg] e X.env = pure none := by rfl)
    (h1 : (assignEach [tg] X.env).map (·.2) = [assign tg X.env] := by rfl) : SS X Wx (.Assign [tg] e pos) (tAsg te g) (mAsg me m) :=
  ⟨ps_asg h.pe hg.pg hs hw h1, sim_asg h.sim fun W σ s s1 A H d x Q k sr r eq hq => hg.sim W σ s s1 A H d x Q k sr r eq fun σ' sr' _ => hq σ' sr'⟩
/-- a, b = e1, e2 and a, b, c = e1, e2, e3 -/
def mPar (is : List Nat) (m : MA) : MS := fun s A => (m s A).thenS s fun ds A1 => match is, ds with
  | [i, j], [d, e] => .nx ((s.set i (some d)).set j (some e)) A1
  | [i, j, l], [d, e, f] => .nx (((s.set i (some d)).set j (some e)).set l (some f)) A1
  | _, _ => .bad
theorem spar {i j : Nat} {x y : Str} {a b : Expr} {ta : TA} {ma : MA} {px py pt pt2 : Pos} {kt k2 : Nat} (hc : X.calm = true) (hN : X.N.Nodup) (h : SA X Wx [a, b] ta ma) (hp : PS X (.Assign [.Tuple [.Name x px, .Name y py] kt pt] (.Tuple [a, b] k2 pt2) pos) (tPar i j ta)) :
    SS X Wx (.Assign [.Tuple [.Name x px, .Name y py] kt pt] (.Tuple [a, b] k2 pt2) pos) (tPar i j ta) (mPar [i, j] ma) :=
  ⟨hp, fun W σ s A H De k sr z => h.sim W σ s A H _ k sr (PostS.bind (rel := Reps X.K) sr z fun ds A1 v W1 H1 e1 k1 r1 h1 => by
    split at h1
    · rename_i i' j' d' e' q
      simp only [List.cons.injEq] at q
      obtain ⟨rfl, rfl, _⟩ := q
      obtain ⟨v1, v2, rfl, q1, q2⟩ := reps2 r1
      exact ⟨v1, v2, rfl, h1.nx_at k1 (((sr.le e1.le).set _ q1).set _ q2)⟩
    · rename_i q
      simp at q
    · exact h1.elim)⟩
theorem spar3 {i j l : Nat} {x y z : Str} {a b c : Expr} {ta : TA} {ma : MA} {px py pz pt pt2 : Pos} {kt k2 : Nat} (hc : X.calm = true) (hN : X.N.Nodup) (h : SA X Wx [a, b, c] ta ma)
    (hp : PS X (.Assign [.Tuple [.Name x px, .Name y py, .Name z pz] kt pt] (.Tuple [a, b, c] k2 pt2) pos) (tPar3 i j l ta)) :
    SS X Wx (.Assign [.Tuple [.Name x px, .Name y py, .Name z pz] kt pt] (.Tuple [a, b, c] k2 pt2) pos) (tPar3 i j l ta) (mPar [i, j, l] ma) :=
  ⟨hp, fun W σ s A H De k sr z => h.sim W σ s A H _ k sr (PostS.bind (rel := Reps X.K) sr z fun ds A1 v W1 H1 e1 k1 r1 h1 => by
    split at h1
    · rename_i q
      simp at q
    · rename_i i' j' l' d' e' f' q
      simp only [List.cons.injEq] at q
      obtain ⟨rfl, rfl, rfl, _⟩ := q
      obtain ⟨v1, r', rfl, q1, r2⟩ := r1
      obtain ⟨v2, v3, rfl, q2, q3⟩ := reps2 r2
      exact ⟨v1, v2, v3, rfl, h1.nx_at k1 ((((sr.le e1.le).set _ q1).set _ q2).set _ q3)⟩
    · exact h1.elim)⟩

/-! ### o.f = e, o[i] = e -/
def stFld (cs : List Str) (f : Str) (o d : D) (A : AH) : Option AH := match o with
  | .ref n => match A[n]? with
    | some (.ins c fs) => if c ∈ cs ∧ fs.length < 1000 then some (A.set n (.ins c (putFD f d fs))) else none
    | _ => none
  | _ => none
def mFldS (cs : List Str) (f : Str) (mo me : ME) : MS := fun s A => (me s A).thenS s fun d A1 => (mo s A1).thenS s fun x A2 => match stFld cs f x d A2 with
  | some A3 => .nx s A3
  | none => .bad
theorem sfldS {cs : List Str} {f : Str} (hc : Fds X.K X.mg cs f) (ho : SE X Wx o to mo) (h : SE X Wx e te me) (hs : swapsWith e (some (.Attribute o f pos')) pos.line X.env = pure false := by rfl) : SS X Wx (.Assign [.Attribute o f pos'] e pos) (sFld X.K to te f) (mFldS cs f mo me) :=
  ⟨ps_fld ho.pe h.pe hs, fun W σ s A H De k sr z => h.sim W σ s A H _ k sr (PostS.bind (rel := Rep X.K) sr z fun d A1 v W1 H1 e1 k1 r1 h1 =>
    ho.sim W1 σ s A1 H1 _ k1 (sr.le e1.le) (PostS.bind (rel := Rep X.K) (sr.le e1.le) h1 fun x A2 u W2 H2 e2 k2 r2 h2 => by
      split at h2
      · rename_i A3 q
        unfold stFld at q
        split at q
        · rename_i j
          split at q
          · rename_i c' fs q2
            split at q
            · rename_i q3
              cases q
              obtain ⟨a, rfl, ha⟩ := r2
              obtain ⟨dx, vs, hx, hk, rr⟩ := k2.obj _ a _ ha q2
              obtain ⟨p1, p2⟩ := putFD_at (f := f) (r1.le e2.le) hk rr
              have hl : vs.length = fs.length := by simpa using congrArg List.length hk
              obtain ⟨k3, e3⟩ := k2.write ha (u := .ins c' (putFD f d fs)) (o := .ins (clA X.mg c') dx (putF f v vs)) ⟨dx, _, rfl, p1, p2⟩
              exact ⟨a, _, dx, vs, rfl, hx, (hc c' q3.1).1, (hc c' q3.1).2, by rw [hl]; exact q3.2, h2 _ _ _ e3 k3 (sr.le ((e1.trans e2).trans e3).le)⟩
            · cases q
          · cases q
        · cases q
      · exact h2.elim))⟩
def rSetU : V → V → V → Hp → (Hp → Prop) → Prop := fun o i v H Q => rSetL o i v H Q ∨ ∃ a H', o = .ref a ∧ DPut H a i v H' ∧ Q H'
theorem set_any {kk : Nat} (hr : Room kk X.A) : PSet X rSetU := by
  intro pn st' sg Hh ov iv vv o1 i1 v1 QQ II ro ri rv hh
  rcases hh with hh | ⟨a, H', rfl, g, q⟩
  · exact set_list pn st' sg Hh ov iv vv o1 i1 v1 QQ II ro ri rv hh
  · obtain rfl : o1 = Value.ref a := ro
    exact d_setItem (room_u1 hr) II g ri rv fun s4 I4 => ⟨_, I4, q⟩
def stSub (o i d : D) (A : AH) : Option AH := match o with
  | .ref n => match A[n]? with
    | some (.lst ds) => match i with
      | .int k => match ixN ds.length k with
        | some j => some (A.set n (.lst (ds.set j d)))
        | none => none
      | _ => none
    | some (.dct kvs) => match keyD i with
      | some k => if kvs.length < 16777216 then some (A.set n (.dct (ptK kvs k d))) else none
      | none => none
    | _ => none
  | _ => none
def mSubS (mo mi me : ME) : MS := fun s A => (me s A).thenS s fun d A1 => (mo s A1).thenS s fun x A2 => (mi s A2).thenS s fun y A3 => match stSub x y d A3 with
  | some A4 => .nx s A4
  | none => .bad
theorem ssub {i : Expr} {ti : TE} {mi : ME} {kk : Nat} (hr : Room kk X.A) (ho : SE X Wx o to mo) (hi : SE X Wx i ti mi) (h : SE X Wx e te me)
    (ha : ∀ v, assign (.Subscript o i pos') X.env v = (do
      let ov ← holding [v] (eval o X.env)
      let iv ← holding [v, ov] (eval i X.env)
      standAt pos'
      holding [v, ov, iv] (setItem ov iv v)
      release [v, ov, iv] []) := by intro _; rfl)
    (hs : swapsWithSole [.Subscript o i pos'] e pos.line X.env = pure false := by rfl) (hw : swappedStores [.Subscript o i pos'] e X.env = pure none := by rfl)
    (h1 : (assignEach [.Subscript o i pos'] X.env).map (·.2) = [assign (.Subscript o i pos') X.env] := by rfl) :
    SS X Wx (.Assign [.Subscript o i pos'] e pos) (tAsg te (gSub to ti rSetU)) (mSubS mo mi me) :=
  ⟨ps_asg h.pe (pg_sub ho.pe hi.pe (set_any hr) ha) hs hw h1, fun W σ s A H De k sr z => h.sim W σ s A H _ k sr (PostS.bind (rel := Rep X.K) sr z fun d A1 v W1 H1 e1 k1 r1 h1 =>
    ho.sim W1 σ s A1 H1 _ k1 (sr.le e1.le) (PostS.bind (rel := Rep X.K) (sr.le e1.le) h1 fun x A2 u W2 H2 e2 k2 r2 h2 =>
      hi.sim W2 σ s A2 H2 _ k2 (sr.le (e1.trans e2).le) (PostS.bind (rel := Rep X.K) (sr.le (e1.trans e2).le) h2 fun y A3 w W3 H3 e3 k3 r3 h3 => by
        have rd := r1.le (e2.trans e3).le
        have ro := r2.le e3.le
        have sr3 := sr.le ((e1.trans e2).trans e3).le
        split at h3
        · rename_i A4 q
          unfold stSub at q
          split at q
          · rename_i n'
            obtain ⟨a, rfl, ha'⟩ := ro
            split at q
            · rename_i ds q2
              split at q
              · rename_i kx
                split at q
                · rename_i jx q4
                  cases q
                  obtain ⟨xs, hx, rr⟩ := k3.lookL ha' q2
                  obtain ⟨k4, e4⟩ := k3.write ha' (u := .lst (ds.set jx d)) (o := .lst (xs.set jx v)) (obl (rr.set jx rd))
                  exact .inl ⟨a, xs, kx, jx, rfl, r3, hx, by rw [rr.length]; exact q4, h3 _ _ _ e4 k4 (sr3.le e4.le)⟩
                · cases q
              · cases q
            · rename_i kvs q2
              split at q
              · rename_i kx q3
                split at q
                · rename_i q4
                  cases q
                  obtain ⟨vs, hx, hk, rr⟩ := k3.obj _ a _ ha' q2
                  have kr : KVR X.K W3 kvs vs := ⟨hk, rr⟩
                  obtain ⟨k4, e4⟩ := k3.write ha' (u := .dct (ptK kvs kx d)) (o := .dK (putK vs kx v)) (obd (kr.put rd))
                  refine .inr ⟨a, _, rfl, ?_, h3 _ _ _ e4 k4 (sr3.le e4.le)⟩
                  rw [keyD_at r3 q3]
                  exact .k hx (by rw [sizeLine_eq, kr.len]; exact q4)
                · cases q
              · cases q
            · cases q
          · cases q
        · exact h3.elim)))⟩
end
end Tg

set_option Elab.async false
set_option linter.all false
set_option maxRecDepth 100000
set_option maxHeartbeats 2000000
/-! TgLoop: for, while, comprehensions. -/
namespace Tg
open PySem PySem.Spec PyProof.Rows L2

/-- what is walked: data that lies still, or a list that may change -/
inductive IT where
  | data (ds : List D)
  | ref (n : Nat)
def itNext : IT → Nat → AH → Option (Option D)
  | .data ds, i, _ => some ds[i]?
  | .ref n, i, A => match A[n]? with
    | some (.lst ds) => some ds[i]?
    | _ => none
def itLen : IT → AH → Nat
  | .data ds, _ => ds.length
  | .ref n, A => match A[n]? with
    | some (.lst ds) => ds.length
    | _ => 0
/-- J goes as it does, from W on -/
def JR (K : PySem.W.Frag) (mg : Str → Option Value) (W : Wd) (it : IT) (J : It) : Prop :=
  ∀ (W' : Wd) (A' : AH) (H' : Hp) (i : Nat), Le W W' → Ok K mg W' A' H' → match itNext it i A' with
    | some (some d) => J.go i H' ∧ ∀ x H2, J.yld i H' x H2 → ∃ W2, Ext W' H' W2 H2 ∧ Ok K mg W2 A' H2 ∧ Rep K W2 d x
    | some none => J.stop i H'
    | none => True
def SimI (K : PySem.W.Frag) (mg : Str → Option Value) (Wx : WX) (t : TI) (m : Sl → AH → R IT) : Prop :=
  ∀ (W : Wd) (σ : L2.St) (s : Sl) (A : AH) (H : Hp) (Rr : It → Hp → Prop), Ok K mg W A H → SlR K W s σ → Post K mg (JR K mg) W H (fun c d H' => Wx c d σ H') Rr (m s A) → t σ H Rr
structure SI (X : Cx) (Wx : WX) (tg iter : Expr) (t : TI) (m : Sl → AH → R IT) : Prop where
  pi : PI X tg iter t
  sim : SimI X.K X.mg Wx t m

/-! ### what is walked -/
def iAny (K : PySem.W.Frag) (te : TE) : TI := fun σ H Rr => te σ H fun x H1 => (∃ a, x = .ref a ∧ (∃ xs, SqL K H1 a xs) ∧ Rr (Itl K a) H1) ∨ (∃ a, x = .ref a ∧ (∃ xs, SqT K H1 a xs) ∧ Rr (Itt K a) H1) ∨ ∃ z, x = .str z ∧ Rr (Its z) H1
def signs (z : Str) : List D := z.cps.toList.map fun c => .str ⟨#[c]⟩
def itOf : D → AH → R IT
  | .str z, A => .ok (.data (signs z)) A
  | .tup ds, A => .ok (.data ds) A
  | .lst ds, A => .ok (.data ds) A
  | .scr ns, A => .ok (.data (ns.map .int)) A
  | .ref n, A => match A[n]? with
    | some (.lst _) => .ok (.ref n) A
    | _ => .bad
  | _, _ => .bad
def miAny (m : ME) : Sl → AH → R IT := fun s A => (m s A).bind itOf
section
variable {X : Cx} {Wx : WX} {e tg : Expr} {es : List Expr} {te : TE} {me : ME} {ta : TA} {ma : MA} {p pos : Pos}
theorem pi_any (he : PE X e te) : PI X tg e (iAny X.K te) := by
  refine ⟨fun pn st sg Hh RR II hh => thn (he.run pn st sg Hh _ II hh) fun v s1 ⟨y, H1, I1, r1, q1⟩ => ?_⟩
  rcases q1 with ⟨a, rfl, ⟨xs, hq⟩, q⟩ | ⟨a, rfl, ⟨xs, hq⟩, q⟩ | ⟨z, rfl, q⟩
  · cases r1
    obtain ⟨its, rv, pp, hz⟩ := I1.list hq
    exact wpAny_pyIter_list pp.isList (pi_one (tk := s1.toks) I1 _ (turn_list a _) ⟨_, Heap.get?_push_size _ rfl, rfl, rfl⟩ q)
  · cases r1
    obtain ⟨its, rv, pp, hz⟩ := I1.tuple hq
    exact wpAny_pyIter_tuple (show s1.heap.IsTuple a its.toArray from pp) (pi_one (tk := s1.toks) I1 _ (turn_tuple a _) ⟨_, Heap.get?_push_size _ rfl, rfl, rfl⟩ q)
  · obtain ⟨t, rfl⟩ := r1
    cases ha : z.cps.all (· < 128)
    · exact wpAny_pyIter_wide ha (pi_one (tk := s1.toks) I1 _ (turn_str _ z t "str_iterator" (.inr rfl)) ⟨_, Heap.get?_push_size _ rfl, rfl, rfl⟩ q)
    · exact wpAny_pyIter_ascii ha (pi_one (tk := s1.toks) I1 _ (turn_str _ z t "str_ascii_iterator" (.inl rfl)) ⟨_, Heap.get?_push_size _ rfl, rfl, rfl⟩ q)
theorem jr_list {K : PySem.W.Frag} {mg : Str → Option Value} {W : Wd} {a : Addr} {xs : List V} {ds : List D} (h : SqL K W.F a xs) (r : Reps K W ds xs) : JR K mg W (.data ds) (Itl K a) := fun W' A' H' i l k => by
  have q := k.sqL (sqL_le l h)
  have r' := r.le l
  show match some ds[i]? with
    | some (some d) => _
    | some none => _
    | none => True
  cases hd : ds[i]? with
  | none => exact ⟨xs, q, by rw [r.length]; exact List.getElem?_eq_none_iff.mp hd⟩
  | some d =>
    obtain ⟨v, h1, h2⟩ := r'.get hd
    refine ⟨⟨xs, v, q, h1⟩, fun x H2 y => ?_⟩
    obtain ⟨rfl, y⟩ := y
    have := y xs q
    rw [h1] at this
    cases this
    exact ⟨W', Ext.refl _ _, k, h2⟩
theorem jr_tup {K : PySem.W.Frag} {mg : Str → Option Value} {W : Wd} {a : Addr} {xs : List V} {ds : List D} (h : SqT K W.F a xs) (r : Reps K W ds xs) : JR K mg W (.data ds) (Itt K a) := fun W' A' H' i l k => by
  have q := k.sqT (sqT_le l h)
  have r' := r.le l
  show match some ds[i]? with
    | some (some d) => _
    | some none => _
    | none => True
  cases hd : ds[i]? with
  | none => exact ⟨xs, q, by rw [r.length]; exact List.getElem?_eq_none_iff.mp hd⟩
  | some d =>
    obtain ⟨v, h1, h2⟩ := r'.get hd
    refine ⟨⟨xs, v, q, h1⟩, fun x H2 y => ?_⟩
    obtain ⟨rfl, y⟩ := y
    have := y xs q
    rw [h1] at this
    cases this
    exact ⟨W', Ext.refl _ _, k, h2⟩
theorem jr_ref {K : PySem.W.Frag} {mg : Str → Option Value} {W : Wd} {a : Addr} {n : Nat} (h : W.m[n]? = some a) : JR K mg W (.ref n) (Itl K a) := fun W' A' H' i l k => by
  have ha := l.at h
  cases hq : A'[n]? with
  | none =>
    rw [show itNext (.ref n) i A' = none by simp only [itNext, hq]]
    trivial
  | some o =>
    cases o with
    | lst ds =>
      obtain ⟨xs, q, r⟩ := k.lookL ha hq
      rw [show itNext (.ref n) i A' = some ds[i]? by simp only [itNext, hq]]
      cases hd : ds[i]? with
      | none => exact ⟨xs, .of q, by rw [r.length]; exact List.getElem?_eq_none_iff.mp hd⟩
      | some d =>
        obtain ⟨v, h1, h2⟩ := r.get hd
        refine ⟨⟨xs, v, .of q, h1⟩, fun x H2 y => ?_⟩
        obtain ⟨rfl, y⟩ := y
        have := y xs (.of q)
        rw [h1] at this
        cases this
        exact ⟨W', Ext.refl _ _, k, h2⟩
    | dct _ =>
      rw [show itNext (.ref n) i A' = none by simp only [itNext, hq]]
      trivial
    | ins _ _ =>
      rw [show itNext (.ref n) i A' = none by simp only [itNext, hq]]
      trivial
    | lck _ =>
      rw [show itNext (.ref n) i A' = none by simp only [itNext, hq]]
      trivial
theorem jr_str {K : PySem.W.Frag} {mg : Str → Option Value} {W : Wd} {z : Str} : JR K mg W (.data (signs z)) (Its z) := fun W' A' H' i l k => by
  show match some (signs z)[i]? with
    | some (some d) => _
    | some none => _
    | none => True
  unfold signs
  rw [List.getElem?_map, Array.getElem?_toList]
  cases hd : z.cps[i]? with
  | none => exact Array.getElem?_eq_none_iff.mp hd
  | some c =>
    refine ⟨(Array.getElem?_eq_some_iff.mp hd).1, fun x H2 y => ?_⟩
    obtain ⟨rfl, c', hc, rfl⟩ := y
    rw [hd] at hc
    cases hc
    exact ⟨W', Ext.refl _ _, k, rfl⟩
theorem iany (h : SE X Wx e te me) : SI X Wx tg e (iAny X.K te) (miAny me) :=
  ⟨pi_any h.pe, fun W σ s A H Rr k sr z => h.sim W σ s A H _ k sr (z.bind fun x A1 v W1 H1 e1 k1 r1 h1 => by
    unfold itOf at h1
    split at h1
    · exact .inr (.inr ⟨_, r1, h1.ok_at k1 jr_str⟩)
    · obtain ⟨a, xs, rfl, q1, q2⟩ := r1
      exact .inr (.inl ⟨a, rfl, ⟨xs, k1.sqT q1⟩, h1.ok_at k1 (jr_tup q1 q2)⟩)
    · obtain ⟨a, xs, rfl, q1, q2⟩ := r1
      exact .inl ⟨a, rfl, ⟨xs, .of (k1.frz _ _ q1)⟩, h1.ok_at k1 (jr_list (.of q1) q2)⟩
    · obtain ⟨a, rfl, q1⟩ := r1
      exact .inl ⟨a, rfl, ⟨_, k1.sqL q1⟩, h1.ok_at k1 (jr_list q1 (reps_ints _ _))⟩
    · obtain ⟨a, rfl, q1⟩ := r1
      split at h1
      · rename_i q2
        obtain ⟨xs, q3, _⟩ := k1.lookL q1 q2
        exact .inl ⟨a, rfl, ⟨xs, .of q3⟩, h1.ok_at k1 (jr_ref q1)⟩
      · exact h1.elim
    · exact h1.elim)⟩

/-- range(n), range(a, b), range(a, b, c) -/
def rngL (lo c : Int) (n : Nat) : List D := (List.range n).map fun i => .int (lo + (i : Nat) * c)
def mRng1 (m : MA) : Sl → AH → R IT := fun s A => (m s A).bind fun ds A1 => match ds with
  | [.int j] => if -(2 ^ 62) ≤ j ∧ j < 2 ^ 62 then .ok (.data (rngL 0 1 j.toNat)) A1 else .bad
  | _ => .bad
def mRng2 (m : MA) : Sl → AH → R IT := fun s A => (m s A).bind fun ds A1 => match ds with
  | [.int i, .int j] => if -(2 ^ 62) ≤ i ∧ i < 2 ^ 62 ∧ -(2 ^ 62) ≤ j ∧ j < 2 ^ 62 then .ok (.data (rngL i 1 (j - i).toNat)) A1 else .bad
  | _ => .bad
def mRng3 (m : MA) : Sl → AH → R IT := fun s A => (m s A).bind fun ds A1 => match ds with
  | [.int i, .int j, .int c] => if c ≠ 0 ∧ c.natAbs < 1073741824 ∧ Builtin.Range.small i j c = true then .ok (.data (rngL i c (Builtin.Range.rangeSize i j c).toNat)) A1 else .bad
  | _ => .bad
theorem jr_rng {K : PySem.W.Frag} {mg : Str → Option Value} {W : Wd} {lo c : Int} {n : Nat} : JR K mg W (.data (rngL lo c n)) (Itc lo c n) := fun W' A' H' i l k => by
  show match some (rngL lo c n)[i]? with
    | some (some d) => _
    | some none => _
    | none => True
  unfold rngL
  rw [List.getElem?_map]
  by_cases hi : i < n
  · rw [List.getElem?_range hi]
    refine ⟨hi, fun x H2 y => ?_⟩
    obtain ⟨rfl, rfl⟩ := y
    exact ⟨W', Ext.refl _ _, k, rfl⟩
  · rw [List.getElem?_eq_none_iff.mpr (by simpa using hi)]
    exact Nat.le_of_not_lt hi
theorem jr_rng1 {K : PySem.W.Frag} {mg : Str → Option Value} {W : Wd} {lo : Int} {n : Nat} : JR K mg W (.data (rngL lo 1 n)) (Itr lo n) := fun W' A' H' i l k => by
  show match some (rngL lo 1 n)[i]? with
    | some (some d) => _
    | some none => _
    | none => True
  unfold rngL
  rw [List.getElem?_map]
  by_cases hi : i < n
  · rw [List.getElem?_range hi]
    refine ⟨hi, fun x H2 y => ?_⟩
    obtain ⟨rfl, rfl⟩ := y
    refine ⟨W', Ext.refl _ _, k, ?_⟩
    show V.int _ = V.int _
    rw [Int.mul_one]
  · rw [List.getElem?_eq_none_iff.mpr (by simpa using hi)]
    exact Nat.le_of_not_lt hi
theorem irng1 {a : Expr} (hm : X.mg "range" = none) (ha : SA X Wx [a] ta ma) (hg : Gl X "range" := by rfl) (hs : starEach [a] X.env = [(false, eval a X.env)] := by rfl) : SI X Wx tg (.Call (.Name "range" p) [a] [] pos) (iRng1 ta) (mRng1 ma) :=
  ⟨pi_range1 hg hm ha.pa hs, fun W σ s A H Rr k sr z => ha.sim W σ s A H _ k sr (z.bind fun ds A1 vs W1 H1 e1 k1 r1 h1 => by
    split at h1
    · obtain ⟨v, rfl, q⟩ := reps1 r1
      cases (show v = _ from q)
      split at h1
      · rename_i b
        exact ⟨_, rfl, b.1, b.2, h1.ok_at k1 jr_rng1⟩
      · exact h1.elim
    · exact h1.elim)⟩
theorem irng2 {a b : Expr} (hm : X.mg "range" = none) (ha : SA X Wx [a, b] ta ma) (hg : Gl X "range" := by rfl) (hs : starEach [a, b] X.env = [(false, eval a X.env), (false, eval b X.env)] := by rfl) (hs2 : starEach [b] X.env = [(false, eval b X.env)] := by rfl) :
    SI X Wx tg (.Call (.Name "range" p) [a, b] [] pos) (iRng2 ta) (mRng2 ma) :=
  ⟨pi_range2 hg hm ha.pa hs hs2, fun W σ s A H Rr k sr z => ha.sim W σ s A H _ k sr (z.bind fun ds A1 vs W1 H1 e1 k1 r1 h1 => by
    split at h1
    · obtain ⟨v, u, rfl, q, q'⟩ := reps2 r1
      cases (show v = _ from q)
      cases (show u = _ from q')
      split at h1
      · rename_i b
        exact ⟨_, _, rfl, b, h1.ok_at k1 jr_rng1⟩
      · exact h1.elim
    · exact h1.elim)⟩
theorem irng3 {a b c : Expr} (hm : X.mg "range" = none) (ha : SA X Wx [a, b, c] ta ma) (hg : Gl X "range" := by rfl) (hs : starEach [a, b, c] X.env = (false, eval a X.env) :: starEach [b, c] X.env := by rfl) (hpl : (backTo pos (starEach [b, c] X.env)).any (·.1) = false := by rfl) :
    SI X Wx tg (.Call (.Name "range" p) [a, b, c] [] pos) (iRng3 ta) (mRng3 ma) :=
  ⟨pi_range3 hg hm ha.pa hs hpl, fun W σ s A H Rr k sr z => ha.sim W σ s A H _ k sr (z.bind fun ds A1 vs W1 H1 e1 k1 r1 h1 => by
    split at h1
    · obtain ⟨v, r', rfl, q, r2⟩ := r1
      obtain ⟨u, w, rfl, q', q2⟩ := reps2 r2
      cases (show v = _ from q)
      cases (show u = _ from q')
      cases (show w = _ from q2)
      split at h1
      · rename_i i j c' b
        refine ⟨i, j, c', (Builtin.Range.rangeSize i j c').toNat, rfl, ⟨b.1, b.2.1, b.2.2, ?_⟩, h1.ok_at k1 jr_rng⟩
        have : 0 ≤ Builtin.Range.rangeSize i j c' := by
          unfold Builtin.Range.rangeSize
          split
          · split
            · have := Int.ediv_nonneg (a := j - i - 1) (b := c') (by omega) (by omega)
              omega
            · exact Int.le_refl 0
          · split
            · have := Int.ediv_nonneg (a := i - j - 1) (b := -c') (by omega) (by omega)
              omega
            · exact Int.le_refl 0
        omega
      · exact h1.elim
    · exact h1.elim)⟩
end

/-! ### for -/
def forG (g : MG) (b : MS) (it : IT) : Nat → Nat → Sl → AH → RS
  | 0, _, _, _ => .bad
  | f + 1, i, s, A => match itNext it i A with
    | none => .bad
    | some none => .nx s A
    | some (some d) => match g d s with
      | none => .bad
      | some s1 => match b s1 A with
        | .nx s2 A2 => forG g b it f (i + 1) s2 A2
        | .ct s2 A2 => forG g b it f (i + 1) s2 A2
        | .bk s2 A2 => .nx s2 A2
        | r => r
def mFor (mi : Sl → AH → R IT) (g : MG) (b : MS) : MS := fun s A => (mi s A).thenS s fun it A1 => forG g b it (itLen it A1 + 1) 0 s A1
/-- over data -/
def forL (g : MG) (b : MS) : List D → Sl → AH → RS
  | [], s, A => .nx s A
  | d :: ds, s, A => match g d s with
    | none => .bad
    | some s1 => match b s1 A with
      | .nx s2 A2 => forL g b ds s2 A2
      | .ct s2 A2 => forL g b ds s2 A2
      | .bk s2 A2 => .nx s2 A2
      | r => r
theorem forG_data (g : MG) (b : MS) (ds : List D) : ∀ (f i : Nat) (s : Sl) (A : AH), i + f = ds.length + 1 → forG g b (.data ds) f i s A = if f = 0 then .bad else forL g b (ds.drop i) s A
  | 0, i, s, A, h => rfl
  | f + 1, i, s, A, h => by
    rw [if_neg (Nat.succ_ne_zero f)]
    show (match some ds[i]? with
      | none => RS.bad
      | some none => .nx s A
      | some (some d) => _) = _
    cases hd : ds[i]? with
    | none =>
      rw [List.drop_eq_nil_of_le (List.getElem?_eq_none_iff.mp hd)]
      rfl
    | some d =>
      have hi := (List.getElem?_eq_some_iff.mp hd).1
      rw [List.drop_eq_getElem_cons hi, (List.getElem?_eq_some_iff.mp hd).2]
      have hf : f ≠ 0 := by omega
      show (match g d s with
        | none => RS.bad
        | some s1 => _) = (match g d s with
        | none => RS.bad
        | some s1 => _)
      cases g d s with
      | none => rfl
      | some s1 =>
        dsimp only
        cases b s1 A with
        | nx s2 A2 =>
          dsimp only
          rw [forG_data g b ds f (i + 1) s2 A2 (by omega), if_neg hf]
        | ct s2 A2 =>
          dsimp only
          rw [forG_data g b ds f (i + 1) s2 A2 (by omega), if_neg hf]
        | _ => rfl
theorem mFor_data {mi : Sl → AH → R IT} {g : MG} {b : MS} {s : Sl} {A A1 : AH} {ds : List D} (h : mi s A = .ok (.data ds) A1) : mFor mi g b s A = forL g b ds s A1 := by
  unfold mFor
  rw [h]
  show forG g b (.data ds) (ds.length + 1) 0 s A1 = _
  rw [forG_data g b ds _ _ _ _ (Nat.zero_add _), if_neg (Nat.succ_ne_zero _), List.drop_zero]
section
variable {X : Cx} {Wx : WX} {tg iter c : Expr} {body : List Stmt} {wi : TI} {mi : Sl → AH → R IT} {g : TG} {mgt : MG} {is : List Nat} {tb : TS} {mb : MS} {tc : TT} {mc' : MT} {pos : Pos}
theorem sfor (hp : PassesOwn (model X.prog X.w) X.A X.env X.xe) (hc : X.calm = true) (hi : SI X Wx tg iter wi mi) (hg : SG X tg g mgt is) (hb : SSs X Wx body tb mb) (hs : ∀ x, foldedSetIterable iter X.env x = pure x := by intro _; rfl) :
    SS X Wx (.For tg iter body [] pos) (tFor wi g tb) (mFor mi mgt mb) :=
  ⟨ps_for hp hc hi.pi hg.pg hb.ps hs, fun W σ s A H De k sr z => hi.sim W σ s A H _ k sr (PostS.bind (rel := JR X.K X.mg) sr z fun it A1 J W1 H1 e1 k1 j1 h1 => by
    refine ⟨fun i m σ2 H2 => ∃ W2 s2 A2, Ext W1 H1 W2 H2 ∧ Ok X.K X.mg W2 A2 H2 ∧ SlR X.K W2 s2 σ2 ∧ PostS X.K X.mg W2 H2 De Wx (forG mgt mb it m i s2 A2), ⟨_, W1, s, A1, Ext.refl _ _, k1, sr.le e1.le, h1⟩, ?_⟩
    rintro i m σ2 H2 ⟨W2, s2, A2, e2, k2, sr2, h2⟩
    cases m with
    | zero => exact h2.elim
    | succ m =>
      have jj := j1 W2 A2 H2 i e2.le k2
      unfold forG at h2
      cases hn : itNext it i A2 with
      | none =>
        rw [hn] at h2
        exact h2.elim
      | some o =>
        rw [hn] at h2 jj
        cases o with
        | none => exact .inl ⟨jj, h2.nx_at k2 sr2⟩
        | some d =>
          refine .inr ⟨jj.1, fun σ3 H3 => ∃ W3 s3 A3, Ext W1 H1 W3 H3 ∧ Ok X.K X.mg W3 A3 H3 ∧ SlR X.K W3 s3 σ3 ∧ PostS X.K X.mg W3 H3 De Wx (forG mgt mb it m (i + 1) s3 A3), fun σ3 H3 q => ⟨m, Nat.lt_succ_self m, q⟩, fun x H3 y => ?_⟩
          obtain ⟨W3, e3, k3, r3⟩ := jj.2 x H3 y
          have h3 := PostS.ext e3 h2
          dsimp only at h3
          cases hg1 : mgt d s2 with
          | none =>
            rw [hg1] at h3
            exact h3.elim
          | some s3 =>
            rw [hg1] at h3
            dsimp only at h3
            refine hg.sim W3 σ2 s2 s3 A2 H3 d x _ k3 (sr2.le e3.le) r3 hg1 fun σ4 sr4 _ => ?_
            refine hb.sim W3 σ4 s3 A2 H3 _ k3 sr4 ?_
            cases hb1 : mb s3 A2 with
            | nx s4 A4 =>
              rw [hb1] at h3
              exact fun W5 σ5 H5 e5 k5 sr5 => ⟨W5, s4, A4, (e2.trans e3).trans e5, k5, sr5, PostS.ext e5 h3⟩
            | ct s4 A4 =>
              rw [hb1] at h3
              exact fun W5 σ5 H5 e5 k5 sr5 => ⟨W5, s4, A4, (e2.trans e3).trans e5, k5, sr5, PostS.ext e5 h3⟩
            | bk s4 A4 =>
              rw [hb1] at h3
              exact h3
            | rt d4 A4 =>
              rw [hb1] at h3
              exact h3
            | exc x4 s4 A4 =>
              rw [hb1] at h3
              exact h3
            | bad =>
              rw [hb1] at h3
              exact h3.elim)⟩

/-! ### while -/
def whG (c : MT) (b : MS) : Nat → Sl → AH → RS
  | 0, _, _ => .bad
  | f + 1, s, A => (c s A).thenS s fun k A1 => if k then match b s A1 with
      | .nx s2 A2 => whG c b f s2 A2
      | .ct s2 A2 => whG c b f s2 A2
      | .bk s2 A2 => .nx s2 A2
      | r => r
    else .nx s A1
theorem swh (N : Nat) (hp : PassesOwn (model X.prog X.w) X.A X.env X.xe) (hc : ST X Wx c tc mc') (hb : SSs X Wx body tb mb) : SS X Wx (.While c body [] pos) (tWhile tc tb) (whG mc' mb N) :=
  ⟨ps_while hp hc.pt hb.ps, fun W σ s A H De k sr z => by
    refine ⟨fun m σ2 H2 => ∃ W2 s2 A2, Ok X.K X.mg W2 A2 H2 ∧ SlR X.K W2 s2 σ2 ∧ PostS X.K X.mg W2 H2 De Wx (whG mc' mb m s2 A2), ⟨N, W, s, A, k, sr, z⟩, ?_⟩
    rintro m σ2 H2 ⟨W2, s2, A2, k2, sr2, h2⟩
    cases m with
    | zero => exact h2.elim
    | succ m =>
      unfold whG at h2
      refine hc.sim W2 σ2 s2 A2 H2 _ k2 sr2 (PostS.bind (rel := relB) sr2 h2 fun b A3 b' W3 H3 e3 k3 r3 h3 => ?_)
      cases r3
      have sr3 := sr2.le e3.le
      cases b with
      | false => exact h3.nx_at k3 sr3
      | true =>
        rw [if_pos rfl] at h3 ⊢
        refine ⟨fun σ4 H4 => ∃ W4 s4 A4, Ok X.K X.mg W4 A4 H4 ∧ SlR X.K W4 s4 σ4 ∧ PostS X.K X.mg W4 H4 De Wx (whG mc' mb m s4 A4), fun σ4 H4 q => ⟨m, Nat.lt_succ_self m, q⟩, ?_⟩
        refine hb.sim W3 σ2 s2 A3 H3 _ k3 sr3 ?_
        cases hb1 : mb s2 A3 with
        | nx s4 A4 =>
          rw [hb1] at h3
          exact fun W5 σ5 H5 e5 k5 sr5 => ⟨W5, s4, A4, k5, sr5, PostS.ext e5 h3⟩
        | ct s4 A4 =>
          rw [hb1] at h3
          exact fun W5 σ5 H5 e5 k5 sr5 => ⟨W5, s4, A4, k5, sr5, PostS.ext e5 h3⟩
        | bk s4 A4 =>
          rw [hb1] at h3
          exact h3
        | rt d4 A4 =>
          rw [hb1] at h3
          exact h3
        | exc x4 s4 A4 =>
          rw [hb1] at h3
          exact h3
        | bad =>
          rw [hb1] at h3
          exact h3.elim⟩
end

/-! ### comprehensions -/
/-- nothing raised -/
def R.bindN {α β : Type} (r : R α) (f : α → AH → R β) : R β := match r with
  | .ok a A => f a A
  | _ => .bad
@[simp] theorem R.bindN_ok {α β : Type} (a : α) (A : AH) (f : α → AH → R β) : (R.ok a A).bindN f = f a A := rfl
@[simp] theorem R.bindN_bad {α β : Type} (f : α → AH → R β) : (R.bad : R α).bindN f = .bad := rfl
def lcG (g : MG) (tt : MT) (te : ME) (it : IT) (s : Sl) : Nat → Nat → AH → R (List D)
  | 0, _, _ => .bad
  | f + 1, i, A => match itNext it i A with
    | none => .bad
    | some none => .ok [] A
    | some (some d) => match g d s with
      | none => .bad
      | some s1 => (tt s1 A).bindN fun k A1 => if k then (te s1 A1).bindN fun y A2 => (lcG g tt te it s f (i + 1) A2).bind fun ys A3 => .ok (y :: ys) A3
        else lcG g tt te it s f (i + 1) A1
def lcL (g : MG) (tt : MT) (te : ME) (s : Sl) : List D → AH → R (List D)
  | [], A => .ok [] A
  | d :: ds, A => match g d s with
    | none => .bad
    | some s1 => (tt s1 A).bindN fun k A1 => if k then (te s1 A1).bindN fun y A2 => (lcL g tt te s ds A2).bind fun ys A3 => .ok (y :: ys) A3
      else lcL g tt te s ds A1
def finF (ds : List D) (A : AH) : R D := .ok (.lst ds) A
def finN (ds : List D) (A : AH) : R D := .ok (.ref A.length) (A ++ [.lst ds])
def mLc (mi : Sl → AH → R IT) (g : MG) (tt : MT) (te : ME) (vs : List Nat) (fin : List D → AH → R D) : ME := fun s A => (mi s A).bind fun it A1 => if itLen it A1 < 16777216 then (lcG g tt te it (wpD s vs) (itLen it A1 + 1) 0 A1).bind fin else .bad
theorem lcG_data (g : MG) (tt : MT) (te : ME) (ds : List D) (s : Sl) : ∀ (f i : Nat) (A : AH), i + f = ds.length + 1 → lcG g tt te (.data ds) s f i A = if f = 0 then .bad else lcL g tt te s (ds.drop i) A
  | 0, i, A, h => rfl
  | f + 1, i, A, h => by
    rw [if_neg (Nat.succ_ne_zero f)]
    show (match some ds[i]? with
      | none => R.bad
      | some none => .ok [] A
      | some (some d) => _) = _
    cases hd : ds[i]? with
    | none =>
      rw [List.drop_eq_nil_of_le (List.getElem?_eq_none_iff.mp hd)]
      rfl
    | some d =>
      have hi := (List.getElem?_eq_some_iff.mp hd).1
      rw [List.drop_eq_getElem_cons hi, (List.getElem?_eq_some_iff.mp hd).2]
      have hf : f ≠ 0 := by omega
      show (match g d s with
        | none => R.bad
        | some s1 => _) = (match g d s with
        | none => R.bad
        | some s1 => _)
      cases g d s with
      | none => rfl
      | some s1 =>
        dsimp only
        cases tt s1 A with
        | ok k A1 =>
          simp only [R.bindN_ok]
          cases k with
          | true =>
            simp only [if_true]
            cases te s1 A1 with
            | ok y A2 =>
              simp only [R.bindN_ok]
              rw [lcG_data g tt te ds s f (i + 1) A2 (by omega), if_neg hf]
            | _ => rfl
          | false =>
            simp only [Bool.false_eq_true, if_false]
            rw [lcG_data g tt te ds s f (i + 1) A1 (by omega), if_neg hf]
        | _ => rfl
theorem mLc_data {mi : Sl → AH → R IT} {g : MG} {tt : MT} {te : ME} {vs : List Nat} {fin : List D → AH → R D} {s : Sl} {A A1 : AH} {ds : List D} (h : mi s A = .ok (.data ds) A1) (hl : ds.length < 16777216) : mLc mi g tt te vs fin s A = (lcL g tt te (wpD s vs) ds A1).bind fin := by
  unfold mLc
  rw [h]
  show (if ds.length < 16777216 then (lcG g tt te (.data ds) (wpD s vs) (ds.length + 1) 0 A1).bind fin else .bad) = _
  rw [if_pos hl, lcG_data g tt te ds _ _ _ _ (Nat.zero_add _), if_neg (Nat.succ_ne_zero _), List.drop_zero]
theorem wipe_none (σ : L2.St) {u : Nat} : ∀ {vs : List Nat}, u ∈ vs → (wipe σ vs).set u none = wipe σ vs
  | v :: vs, h => by
    show ((wipe σ vs).set v none).set u none = (wipe σ vs).set v none
    by_cases q : u = v
    · rw [q, List.set_set]
    · rcases List.mem_cons.mp h with z | z
      · exact absurd z q
      · rw [List.set_comm _ _ (Ne.symm q), wipe_none σ z]
theorem wipe_twice (σ : L2.St) {vs : List Nat} : ∀ {us : List Nat}, (∀ i ∈ us, i ∈ vs) → wipe (wipe σ vs) us = wipe σ vs
  | [], _ => rfl
  | u :: us, h => by
    show (wipe (wipe σ vs) us).set u none = wipe σ vs
    rw [wipe_twice σ fun i hi => h i (List.mem_cons_of_mem _ hi), wipe_none σ (h u (List.mem_cons_self ..))]
theorem upd_self {H : Hp} {p : Addr} {o : HO} (h : H p = some o) : upd (delH H p) p o = H := by
  funext b
  by_cases q : b = p
  · rw [q, upd_same, h]
  · rw [upd_ne q, delH_ne q]
theorem delH_upd {H : Hp} {p : Addr} {o : HO} : delH (upd H p o) p = delH H p := by
  funext b
  by_cases q : b = p
  · rw [q, delH_same, delH_same]
  · rw [delH_ne q, delH_ne q, upd_ne q]
/-- how the new list is told -/
def FinOk (K : PySem.W.Frag) (mg : Str → Option Value) (fin : List D → AH → R D) : Prop :=
  ∀ (W : Wd) (H : Hp) (W1 : Wd) (H1 : Hp) (A1 : AH) (p : Addr) (E : XK) (Q : VK) (ds : List D) (xs : List V), Ext W H W1 (delH H1 p) → Ok K mg W1 A1 (delH H1 p) → H1 p = some (.lst xs) → Reps K W1 ds xs → Post K mg (Rep K) W H E Q (fin ds A1) → Q (.ref p) H1
theorem fin_f {K : PySem.W.Frag} {mg : Str → Option Value} : FinOk K mg finF := fun W H W1 H1 A1 p E Q ds xs e k hp r h => by
  obtain ⟨k3, e3⟩ := k.frozen delH_same (.lst xs)
  rw [upd_self hp] at k3 e3
  refine h _ _ _ (e.trans e3) k3 ⟨p, xs, rfl, upd_same, r.le e3.le⟩
theorem fin_n {K : PySem.W.Frag} {mg : Str → Option Value} : FinOk K mg finN := fun W H W1 H1 A1 p E Q ds xs e k hp r h => by
  have l : Le W1 ⟨W1.F, W1.m ++ [p]⟩ := ⟨fun _ _ e => e, [p], rfl⟩
  obtain ⟨k3, e3⟩ := k.fresh delH_same (obl (r.le l))
  rw [upd_self hp] at k3 e3
  refine h _ _ _ (e.trans e3) k3 ⟨p, rfl, ?_⟩
  rw [← k.len]
  exact List.getElem?_concat_length
section
variable {X : Cx} {Wx : WX} {tg iter elt : Expr} {ifs : List Expr} {scope : Scope} {own : List (Str × Nat)} {wi : TI} {mi : Sl → AH → R IT} {g : TG} {mgt : MG} {is : List Nat} {tt : TT} {mt : MT} {te : TE} {me : ME} {pos spos : Pos} {fin : List D → AH → R D}
structure STs (X : Cx) (Wx : WX) (ifs : List Expr) (t : TT) (m : MT) : Prop where
  pts : PTs X ifs t
  sim : SimT X.K X.mg Wx t m
def mYes : MT := fun _ A => .ok true A
theorem stsnil : STs X Wx [] tYes mYes := ⟨pts_nil, fun W σ s A H Q k sr h => h.ok_at k rfl⟩
theorem stsone {c : Expr} (h : ST X Wx c tt mt) : STs X Wx [c] tt mt := ⟨pts_one h.pt, h.sim⟩
theorem sim_lc {K : PySem.W.Frag} {mg : Str → Option Value} {vs : List Nat} (hf : FinOk K mg fin) (hi : SimI K mg Wx wi mi)
    (hg : ∀ (W : Wd) (σ : L2.St) (s s1 : Sl) (A : AH) (H : Hp) (d : D) (x : V) (Q : L2.St → Hp → Prop), Ok K mg W A H → SlR K W s σ → Rep K W d x → mgt d s = some s1 → (∀ σ', SlR K W s1 σ' → (∀ vs, (∀ i ∈ is, i ∈ vs) → wipe σ' vs = wipe σ vs) → Q σ' H) → g x σ H Q)
    (hw : ∀ i ∈ is, i ∈ vs) (ht : SimT K mg WxF tt mt) (he : SimE K mg WxF te me) : SimE K mg Wx (tLc wi g tt te vs) (mLc mi mgt mt me vs fin) := fun W σ s A H Q k sr z => by
  refine hi W σ s A H _ k sr (z.bind fun it A1 J W1 H1 e1 k1 j1 h1 => ?_)
  intro Da hDa
  by_cases hl : itLen it A1 < 16777216
  · rw [if_pos hl] at h1
    have wsr := (sr.le e1.le).wipe vs
    refine ⟨fun i m H2 => ∃ W2 A2 acc accV, Ext W1 H1 W2 (delH H2 Da) ∧ Ok K mg W2 A2 (delH H2 Da) ∧ H2 Da = some (.lst accV) ∧ Reps K W2 acc accV ∧ acc.length ≤ i ∧ i + m = itLen it A1 + 1 ∧
      Post K mg (Rep K) W1 H1 (fun c d H' => Wx c d σ H') Q ((lcG mgt mt me it (wpD s vs) m i A2).bind fun ys A3 => fin (acc ++ ys) A3), ⟨itLen it A1 + 1, W1, A1, [], [], ?_, ?_, upd_same, rfl, Nat.le_refl _, Nat.zero_add _, h1⟩, ?_⟩
    · rw [delH_upd]
      have : delH H1 Da = H1 := by
        funext b
        by_cases q : b = Da
        · rw [q, delH_same, hDa]
        · rw [delH_ne q]
      rw [this]
      exact Ext.refl _ _
    · rw [delH_upd]
      have : delH H1 Da = H1 := by
        funext b
        by_cases q : b = Da
        · rw [q, delH_same, hDa]
        · rw [delH_ne q]
      rw [this]
      exact k1
    · rintro i m H2 ⟨W2, A2, acc, accV, e2, k2, hD2, r2, hal, him, h2⟩
      cases m with
      | zero => exact h2.elim
      | succ m =>
        obtain ⟨k2', e2'⟩ := k2.aside delH_same (.lst accV)
        rw [upd_self hD2] at k2' e2'
        have jj := j1 W2 A2 H2 i (e2.trans e2').le k2'
        unfold lcG at h2
        cases hn : itNext it i A2 with
        | none =>
          rw [hn] at h2
          exact h2.elim
        | some o =>
          rw [hn] at h2 jj
          cases o with
          | none =>
            refine .inl ⟨jj, ?_⟩
            have h2' : Post K mg (Rep K) W1 H1 (fun c d H' => Wx c d σ H') Q (fin (acc ++ []) A2) := h2
            rw [List.append_nil] at h2'
            exact hf W1 H1 W2 H2 A2 Da _ Q acc accV e2 k2 hD2 r2 h2'
          | some d =>
            refine .inr ⟨jj.1, fun H3 => ∃ W3 A3 acc accV, Ext W1 H1 W3 (delH H3 Da) ∧ Ok K mg W3 A3 (delH H3 Da) ∧ H3 Da = some (.lst accV) ∧ Reps K W3 acc accV ∧ acc.length ≤ i + 1 ∧ (i + 1) + m = itLen it A1 + 1 ∧
              Post K mg (Rep K) W1 H1 (fun c d H' => Wx c d σ H') Q ((lcG mgt mt me it (wpD s vs) m (i + 1) A3).bind fun ys A4 => fin (acc ++ ys) A4), fun H3 q => ⟨m, Nat.lt_succ_self m, q⟩, fun x H3 y => ?_⟩
            obtain ⟨W3, e3, k3, r3⟩ := jj.2 x H3 y
            dsimp only at h2
            cases hg1 : mgt d (wpD s vs) with
            | none =>
              rw [hg1] at h2
              exact h2.elim
            | some s3 =>
              rw [hg1] at h2
              dsimp only at h2
              refine hg W3 (wipe σ vs) (wpD s vs) s3 A2 H3 d x _ k3 (((wsr.le e2.le).le e2'.le).le e3.le) r3 hg1 fun σ4 sr4 w4 => ⟨(w4 vs hw).trans (wipe_twice σ fun _ h => h), ?_⟩
              cases hT : mt s3 A2 with
              | ok b A4 =>
                rw [hT] at h2
                simp only [R.bindN_ok] at h2
                refine ht W3 σ4 s3 A2 H3 _ k3 sr4 ?_
                rw [hT]
                intro W4 H4 b' e4 k4 rb
                cases rb
                cases b with
                | true =>
                  simp only [if_true] at h2 ⊢
                  cases hE : me s3 A4 with
                  | ok yd A5 =>
                    rw [hE] at h2
                    simp only [R.bindN_ok] at h2
                    refine he W4 σ4 s3 A4 H4 _ k4 (sr4.le e4.le) ?_
                    rw [hE]
                    intro W5 H5 yv e5 k5 ry
                    obtain ⟨q1, q2, q3, q4, q5⟩ := Ok.undo delH_same k2 (u := .lst accV) (by rw [upd_self hD2]; exact (e3.trans e4).trans e5) k5
                    refine ⟨accV, q5, ?_, W5, A5, acc ++ [yd], accV ++ [yv], ?_, ?_, upd_same, (r2.le (((e2'.trans e3).trans e4).trans e5).le).append (Reps.one ry), ?_, by omega, ?_⟩
                    · rw [sizeLine_eq, r2.length]
                      omega
                    · rw [delH_upd]
                      exact e2.trans q4
                    · rw [delH_upd]
                      exact q3
                    · rw [List.length_append]
                      simp
                      omega
                    · have e6 : ((lcG mgt mt me it (wpD s vs) m (i + 1) A5).bind fun ys A3 => R.ok (yd :: ys) A3).bind (fun ys A3 => fin (acc ++ ys) A3) = (lcG mgt mt me it (wpD s vs) m (i + 1) A5).bind fun ys A4 => fin (acc ++ [yd] ++ ys) A4 := by
                        cases lcG mgt mt me it (wpD s vs) m (i + 1) A5 with
                        | ok ys A6 =>
                          simp only [R.bind_ok, List.append_assoc, List.singleton_append]
                        | exc _ _ => rfl
                        | bad => rfl
                      rw [e6] at h2
                      exact h2
                  | exc _ _ =>
                    rw [hE] at h2
                    exact h2.elim
                  | bad =>
                    rw [hE] at h2
                    exact h2.elim
                | false =>
                  simp only [Bool.false_eq_true, if_false] at h2 ⊢
                  obtain ⟨q1, q2, q3, q4, q5⟩ := Ok.undo delH_same k2 (u := .lst accV) (by rw [upd_self hD2]; exact e3.trans e4) k4
                  exact ⟨W4, A4, acc, accV, e2.trans q4, q3, q5, r2.le ((e2'.trans e3).trans e4).le, by omega, by omega, h2⟩
              | exc _ _ =>
                rw [hT] at h2
                exact h2.elim
              | bad =>
                rw [hT] at h2
                exact h2.elim
  · rw [if_neg hl] at h1
    exact h1.elim
/-- [elt for tg in iter if ..] -/
theorem slc (hf : FinOk X.K X.mg fin) (hc : X.calm = true) (hN : X.N.Nodup) (hi : SI X Wx tg iter wi mi) (ok : BlkOk X.N X.env.scope scope own)
    (hg : ∀ (s : Shared) (H : Hp) (C : Addr) (cl : List (Str × Addr)) (fp : List Addr), SG (X.blk s H scope (compEnvC scope cl C X.env) fp) tg g mgt is)
    (ht : ∀ (s : Shared) (H : Hp) (C : Addr) (cl : List (Str × Addr)) (fp : List Addr), STs (X.blk s H scope (compEnvC scope cl C X.env) fp) WxF ifs tt mt)
    (he : ∀ (s : Shared) (H : Hp) (C : Addr) (cl : List (Str × Addr)) (fp : List Addr), SE (X.blk s H scope (compEnvC scope cl C X.env) fp) WxF elt te me)
    (hw : ∀ i ∈ is, i ∈ own.map (·.2)) (hs : ∀ x, foldedSetIterable iter X.env x = pure x := by intro _; rfl) :
    SE X Wx (.ListComp elt [⟨tg, iter, ifs, 0⟩] scope pos) (tLc wi g tt te (own.map (·.2))) (mLc mi mgt mt me (own.map (·.2)) fin) :=
  ⟨pe_lc hc hN hi.pi ok (fun s H C cl fp => (hg s H C cl fp).pg) (fun s H C cl fp => (ht s H C cl fp).pts) (fun s H C cl fp => (he s H C cl fp).pe) hs,
    sim_lc hf hi.sim (hg X.s_0 X.H_0 0 [] []).sim hw (ht X.s_0 X.H_0 0 [] []).sim (he X.s_0 X.H_0 0 [] []).sim⟩
/-- name = [..] on one line -/
theorem ssetLc (i : Nat) {y : Str} {py : Pos} (hf : FinOk X.K X.mg fin) (hc : X.calm = true) (hN : X.N.Nodup) (hi : SI X Wx tg iter wi mi) (ok : BlkOk X.N X.env.scope scope own)
    (hg : ∀ (s : Shared) (H : Hp) (C : Addr) (cl : List (Str × Addr)) (fp : List Addr), SG (X.blk s H scope (compEnvC scope cl C X.env) fp) tg g mgt is)
    (ht : ∀ (s : Shared) (H : Hp) (C : Addr) (cl : List (Str × Addr)) (fp : List Addr), STs (X.blk s H scope (compEnvC scope cl C X.env) fp) WxF ifs tt mt)
    (he : ∀ (s : Shared) (H : Hp) (C : Addr) (cl : List (Str × Addr)) (fp : List Addr), SE (X.blk s H scope (compEnvC scope cl C X.env) fp) WxF elt te me)
    (hw : ∀ i ∈ is, i ∈ own.map (·.2)) (hy : X.N[i]? = some y := by rfl) (hyl : X.env.scope.names.lookup y = some .local := by rfl)
    (hsw : swapsWith (.ListComp elt [⟨tg, iter, ifs, 0⟩] scope pos) (some (.Name y py)) spos.line X.env = pure true := by exact sw_true rfl rfl rfl (by decide +kernel)) (hs : ∀ x, foldedSetIterable iter X.env x = pure x := by intro _; rfl) :
    SS X Wx (.Assign [.Name y py] (.ListComp elt [⟨tg, iter, ifs, 0⟩] scope pos) spos) (tAsg (tLc wi g tt te (own.map (·.2))) (gName i)) (mAsg (mLc mi mgt mt me (own.map (·.2)) fin) (gmN i)) :=
  ⟨ps_setLc hc hN hy hyl hsw hi.pi ok (fun s H C cl fp => (hg s H C cl fp).pg) (fun s H C cl fp => (ht s H C cl fp).pts) (fun s H C cl fp => (he s H C cl fp).pe) hs,
    sim_asg (sim_lc hf hi.sim (hg X.s_0 X.H_0 0 [] []).sim hw (ht X.s_0 X.H_0 0 [] []).sim (he X.s_0 X.H_0 0 [] []).sim) fun W σ s s1 A H d x Q k sr r eq hq => by
      cases eq
      exact hq _ (sr.set i r)⟩
end
end Tg

set_option Elab.async false
set_option linter.all false
set_option maxRecDepth 100000
set_option maxHeartbeats 2000000
/-! TgFn: defs as plain functions; constants and written tables of the module. -/
namespace Tg
open PySem PySem.Spec PyProof.Rows L2

def startD (n : Nat) (ds : List D) : Sl := ds.map some ++ List.replicate (n - ds.length) none
def finS : RS → R D
  | .nx _ A => .ok .non A
  | .rt d A => .ok d A
  | .exc x _ A => .exc x A
  | _ => .bad
/-- a def of n parameters and m names whose body does as b -/
def mFun (n m : Nat) (b : MS) : List D → AH → R D := fun ds A => if ds.length = n then finS (b (startD m ds) A) else .bad
def mBad : List D → AH → R D := fun _ _ => .bad
section
variable {P : Program} {w : World} {K : PySem.W.Frag} {mg : Str → Option Value} {base : Heap} {x qual c : Str} {st : Stmt} {N ps : List Str} {k : Nat} {m : MS}
abbrev CxT (P : Program) (w : World) (K : PySem.W.Frag) (mg : Str → Option Value) (base : Heap) (N : List Str) (qual : Str) (st : Stmt) (f : Addr) (cd : Value) (A : Around) (outer : List Env) (s : Shared) (H : Hp) (E : XK) : Cx :=
  cxOf (L2.CX P w) P w K mg base N qual (defScope st) f cd A outer s H E
theorem tkF {f : Addr} {cd : Value} {A : Around} {outer : List Env} {s : Shared} {H : Hp} {E : XK} : Takes (CxT P w K mg base N qual st f cd A outer s H E) (fun c d _ H => E c d H) := takes_of rfl rfl rfl rfl
theorem psF {f : Addr} {cd : Value} {A : Around} {outer : List Env} {s : Shared} {H : Hp} {E : XK} : PassesOwn (model (CxT P w K mg base N qual st f cd A outer s H E).prog (CxT P w K mg base N qual st f cd A outer s H E).w) (CxT P w K mg base N qual st f cd A outer s H E).A (CxT P w K mg base N qual st f cd A outer s H E).env (CxT P w K mg base N qual st f cd A outer s H E).xe := passes_of rfl
/-- the body's term -/
def Body (P : Program) (w : World) (K : PySem.W.Frag) (mg : Str → Option Value) (base : Heap) (N : List Str) (qual : Str) (st : Stmt) (k : Nat) (m : MS) : Prop :=
  ∀ (f : Addr) (cd : Value) (A : Around) (outer : List Env) (s : Shared) (H : Hp) (E : XK), Room k (CxT P w K mg base N qual st f cd A outer s H E).A →
    ∃ t, SSs (CxT P w K mg base N qual st f cd A outer s H E) (fun c d _ H => E c d H) (defBody st) t m
theorem fnok_of {f : Addr} {fd : FuncData} (F : Fun K x qual st f fd) (S : FnScope N ps (defScope st)) (h : Body P w K mg base N qual st k m) : FnOk P w K mg base (L2.CX P w) (k + 1) f fd ps (spM K mg (mFun ps.length N.length m)) := by
  have hl : ∀ vs H Q E, spM K mg (mFun ps.length N.length m) vs H Q E → vs.length = ps.length := fun vs H Q E ⟨W, ds, A, k, r, z⟩ => by
    unfold mFun at z
    split at z
    · rename_i e
      rw [r.length, e]
    · exact z.elim
  refine F.okX S hl fun cdv A outer s H vs Q E hr hsp => ?_
  have hvl := hl _ _ _ _ hsp
  obtain ⟨W, ds, A', k, r, z⟩ := hsp
  obtain ⟨t, ss⟩ := h f cdv A outer s H E hr
  refine ⟨t, ss.ps, ?_⟩
  have hd : ds.length = ps.length := by rw [← r.length, hvl]
  unfold mFun at z
  rw [if_pos hd] at z
  have sr : SlR K W (startD N.length ds) (L2.start N vs) := by
    unfold startD L2.start
    rw [r.length]
    exact SlR.of r
  refine ss.sim W _ _ A' H _ k sr ?_
  generalize m (startD N.length ds) A' = q at z
  cases q with
  | nx s1 A1 => exact fun W' σ' H' e k' _ => z W' H' .non e k' rfl
  | rt d A1 => exact fun W' v H' e k' r' => z W' H' v e k' r'
  | exc y s1 A1 => exact fun W' σ' H' c d e k' _ x' => z W' H' c d e k' x'
  | bk _ _ => exact z.elim
  | ct _ _ => exact z.elim
  | bad => exact z.elim
/-- as Body, told of the code object that the def named x has -/
def BodyC (P : Program) (w : World) (K : PySem.W.Frag) (mg : Str → Option Value) (base : Heap) (N : List Str) (x : Str) (st : Stmt) (k : Nat) (m : MS) : Prop :=
  ∀ (f : Addr) (cd : Value) (A : Around) (outer : List Env) (s : Shared) (H : Hp) (E : XK), (∀ c, codeA K mg x = some c → cd = .ref c) → Room k (CxT P w K mg base N x st f cd A outer s H E).A →
    ∃ t, SSs (CxT P w K mg base N x st f cd A outer s H E) (fun c d _ H => E c d H) (defBody st) t m
theorem body_c (h : Body P w K mg base N x st k m) : BodyC P w K mg base N x st k m := fun f cd A outer s H E _ hr => h f cd A outer s H E hr
theorem fnokC_of {f : Addr} {fd : FuncData} (F : Fun K x x st f fd) (hm : mg x = some (.ref f)) (S : FnScope N ps (defScope st)) (h : BodyC P w K mg base N x st k m) : FnOk P w K mg base (L2.CX P w) (k + 1) f fd ps (spM K mg (mFun ps.length N.length m)) := by
  have hl : ∀ vs H Q E, spM K mg (mFun ps.length N.length m) vs H Q E → vs.length = ps.length := fun vs H Q E ⟨W, ds, A, k, r, z⟩ => by
    unfold mFun at z
    split at z
    · rename_i e
      rw [r.length, e]
    · exact z.elim
  obtain ⟨oc, od, kV, doc, pm, an, cdv, ct, osl, rfl, lk, hcd⟩ := F.ex
  refine fn_of lk hcd S hl fun A outer s H vs Q E hr hsp => ?_
  have hvl := hl _ _ _ _ hsp
  obtain ⟨W, ds, A', k, r, z⟩ := hsp
  obtain ⟨t, ss⟩ := h f cdv A outer s H E (fun c hc => by
    unfold codeA at hc
    rw [hm] at hc
    dsimp only at hc
    rw [lk] at hc
    dsimp only at hc
    cases cdv with
    | ref c' =>
      cases hc
      rfl
    | _ => cases hc) hr
  refine ⟨t, ss.ps, ?_⟩
  have hd : ds.length = ps.length := by rw [← r.length, hvl]
  unfold mFun at z
  rw [if_pos hd] at z
  have sr : SlR K W (startD N.length ds) (L2.start N vs) := by
    unfold startD L2.start
    rw [r.length]
    exact SlR.of r
  refine ss.sim W _ _ A' H _ k sr ?_
  generalize m (startD N.length ds) A' = q at z
  cases q with
  | nx s1 A1 => exact fun W' σ' H' e k' _ => z W' H' .non e k' rfl
  | rt d A1 => exact fun W' v H' e k' r' => z W' H' v e k' r'
  | exc y s1 A1 => exact fun W' σ' H' c d e k' _ x' => z W' H' c d e k' x'
  | bk _ _ => exact z.elim
  | ct _ _ => exact z.elim
  | bad => exact z.elim
theorem fnok_bad {f : Addr} {fd : FuncData} : FnOk P w K mg base (L2.CX P w) k f fd ps (spM K mg mBad) :=
  ⟨fun vs H Q E ⟨W, ds, A, k, r, z⟩ => z.elim, fun A outer s H args us vs Q E _ _ _ _ ⟨W, ds, A', k, r, z⟩ => z.elim⟩

/-- what stands behind the module's top: a def, a method, a class that can be made -/
def TF (K : PySem.W.Frag) (mg : Str → Option Value) (x qual : Str) (st : Stmt) (ps : List Str) : Prop := ∃ f fd, Fun K x qual st f fd ∧ mg x = some (.ref f) ∧ Binds K fd ps []
def TM (K : PySem.W.Frag) (mg : Str → Option Value) (c x qual : Str) (st : Stmt) (ps : List Str) : Prop := ∃ f fd, Fun K x qual st f fd ∧ Meth K (clA mg c) x f ∧ Binds K fd ps [] ∧ Cls K (clA mg c)
def TI (K : PySem.W.Frag) (mg : Str → Option Value) (c qual : Str) (st : Stmt) (ps : List Str) : Prop := ∃ C f fd, Fun K "__init__" qual st f fd ∧ mg c = some (.ref C) ∧ Mk K C f ∧ Binds K fd ps []
theorem dfn_of (T : TF K mg x qual st ps) (S : FnScope N ps (defScope st)) (h : Body P w K mg base N qual st k m) : Dfn P w K mg base x (k + 1) (mFun ps.length N.length m) := by
  obtain ⟨f, fd, F, hm, hb⟩ := T
  exact ⟨f, fd, ps, fnok_of F S h, hm, F.kp, hb⟩
theorem dfn_bad (T : TF K mg x qual st ps) : Dfn P w K mg base x k mBad := by
  obtain ⟨f, fd, F, hm, hb⟩ := T
  exact ⟨f, fd, ps, fnok_bad, hm, F.kp, hb⟩
theorem mtd_of (T : TM K mg c x qual st ps) (S : FnScope N ps (defScope st)) (h : Body P w K mg base N qual st k m) : Mtd P w K mg base c x (k + 1) (mFun ps.length N.length m) := by
  obtain ⟨f, fd, F, hm, hb, cl⟩ := T
  exact ⟨f, fd, ps, fnok_of F S h, hm, hb, cl⟩
theorem mtd_bad (T : TM K mg c x qual st ps) : Mtd P w K mg base c x k mBad := by
  obtain ⟨f, fd, F, hm, hb, cl⟩ := T
  exact ⟨f, fd, ps, fnok_bad, hm, hb, cl⟩
theorem mkr_of (T : TI K mg c qual st ps) (S : FnScope N ps (defScope st)) (h : Body P w K mg base N qual st k m) : Mkr P w K mg base c (k + 1) (mFun ps.length N.length m) := by
  obtain ⟨C, f, fd, F, hm, M, hb⟩ := T
  exact ⟨C, f, fd, ps, fnok_of F S h, hm, M, hb⟩
theorem Dfn.mono {g : List D → AH → R D} {j : Nat} (d : Dfn P w K mg base x k g) (h : k ≤ j) : Dfn P w K mg base x j g := by
  obtain ⟨f, fd, ps, F, a, b, c⟩ := d
  exact ⟨f, fd, ps, F.mono h, a, b, c⟩
end

/-! ### constants of the module -/
def GDat (K : PySem.W.Frag) (mg : Str → Option Value) (x : Str) (d : D) : Prop := ∃ u v, mg x = some u ∧ RelV v u ∧ ∀ W, Rep K W d v
noncomputable def gV {K : PySem.W.Frag} {mg : Str → Option Value} {x : Str} {d : D} (g : GDat K mg x d) : V := g.choose_spec.choose
theorem sglob {X : Cx} {Wx : WX} {x : Str} {d : D} {pos : Pos} (g : GDat X.K X.mg x d) (hg : Gl X x := by rfl) (hdb : (x == ("__debug__" : Str)) = false := by decide) : SE X Wx (.Name x pos) (tC (gV g)) (mc d) :=
  ⟨pe_glob hg g.choose_spec.choose_spec.1 g.choose_spec.choose_spec.2.1 hdb, fun W σ s A H Q k sr h => h.ok_at k (g.choose_spec.choose_spec.2.2 W)⟩
section
variable {K : PySem.W.Frag} {mg : Str → Option Value} {x : Str}
theorem gint {i : Int} {t : Tok} (h : mg x = some (.int i t)) : GDat K mg x (.int i) := ⟨_, .int i, h, ⟨t, rfl⟩, fun _ => rfl⟩
theorem gstr {i : Str} {t : Tok} (h : mg x = some (.str i t)) : GDat K mg x (.str i) := ⟨_, .str i, h, ⟨t, rfl⟩, fun _ => rfl⟩
/-- numbers and texts, as they are written -/
def fltOk : List D → List Value → Bool
  | [], [] => true
  | .int i :: ds, .int j _ :: us => decide (i = j) && fltOk ds us
  | .str i :: ds, .str j _ :: us => decide (i = j) && fltOk ds us
  | _, _ => false
theorem flt_at {W : Wd} : ∀ {ds : List D} {us : List Value}, fltOk ds us = true → ∃ vs, Reps K W ds vs ∧ Vals vs us
  | [], [], _ => ⟨[], rfl, .nil⟩
  | [], _ :: _, h => by cases h
  | .int i :: ds, [], h => by cases h
  | .int i :: ds, u :: us, h => by
    cases u with
    | int j t =>
      simp only [fltOk, Bool.and_eq_true, decide_eq_true_eq] at h
      obtain ⟨vs, r, v⟩ := flt_at h.2
      exact ⟨.int i :: vs, Reps.cons rfl r, .cons ⟨t, by rw [h.1]⟩ v⟩
    | _ => cases h
  | .str i :: ds, [], h => by cases h
  | .str i :: ds, u :: us, h => by
    cases u with
    | str j t =>
      simp only [fltOk, Bool.and_eq_true, decide_eq_true_eq] at h
      obtain ⟨vs, r, v⟩ := flt_at h.2
      exact ⟨.str i :: vs, Reps.cons rfl r, .cons ⟨t, by rw [h.1]⟩ v⟩
    | _ => cases h
  | .non :: ds, us, h => by cases us <;> cases h
  | .bl _ :: ds, us, h => by cases us <;> cases h
  | .tup _ :: ds, us, h => by cases us <;> cases h
  | .lst _ :: ds, us, h => by cases us <;> cases h
  | .dct _ _ :: ds, us, h => by cases us <;> cases h
  | .ref _ :: ds, us, h => by cases us <;> cases h
  | .scr _ :: ds, us, h => by cases us <;> cases h
/-- where a tuple of numbers and texts stands -/
def tupAt (K : PySem.W.Frag) (a : Addr) (ds : List D) : Bool := match K.lookup a with
  | some ⟨.type c, _, .seq its _, _⟩ => decide (c = "tuple") && (decide (its.size ≤ 1000) && fltOk ds its.toList)
  | _ => false
theorem gtupc {a : Addr} {ds : List D} (h : mg x = some (.ref a)) (h1 : tupAt K a ds = true) : GDat K mg x (.tup ds) := by
  unfold tupAt at h1
  split at h1
  · rename_i c od its n sl e
    simp only [Bool.and_eq_true, decide_eq_true_eq] at h1
    obtain ⟨rfl, h2, h3⟩ := h1
    refine ⟨_, .ref a, h, rfl, fun W => ?_⟩
    obtain ⟨vs, r, v⟩ := flt_at (K := K) (W := W) h3
    exact ⟨a, vs, rfl, .inr ⟨_, its, n, e, rfl, rfl, Nat.le_trans h2 (by decide), v⟩, r⟩
  · cases h1

/-- a written table of texts -/
structure KTab (K : PySem.W.Frag) (w : World) (d : Addr) (kvs : List (Str × Str)) : Prop where
  kd : ∃ es n, KDict K w d es n
  yes : ∀ z v, kvs.lookup z = some v → ∃ t, PySem.W.nsIn K d z = some (some (.str v t))
  no : ∀ z, kvs.lookup z = none → PySem.W.nsIn K d z = some none
def GTab (K : PySem.W.Frag) (w : World) (mg : Str → Option Value) (x : Str) (kvs : List (Str × Str)) : Prop := ∃ d, mg x = some (.ref d) ∧ KTab K w d kvs
def entOf (e : DictEntry) : Option (Str × Str) := match e.key, e.val with
  | .str x _, .str y _ => some (x, y)
  | _, _ => none
def dicT (K : PySem.W.Frag) (a : Addr) : List (Option (Str × Str)) := match K.lookup a with
  | some ⟨_, _, .dict es _, _⟩ => es.toList.map entOf
  | _ => []
theorem ents_at : ∀ {l : List DictEntry} {kvs : List (Str × Str)}, l.map entOf = kvs.map some → ∀ z, (match l.find? (·.key.isStr z) with
      | some e => some (some e.val)
      | none => if l.any (·.refKey) then none else some none) = (match kvs.lookup z with
      | some v => some (some ((l.find? (·.key.isStr z)).elim (.str v default) (·.val)))
      | none => some none) ∧ ∀ v, kvs.lookup z = some v → ∃ e t, l.find? (·.key.isStr z) = some e ∧ e.val = .str v t
  | [], [], _, z => ⟨rfl, fun v h => by cases h⟩
  | [], _ :: _, h, _ => by cases h
  | _ :: _, [], h, _ => by cases h
  | e :: l, (k, v) :: kvs, h, z => by
    simp only [List.map_cons, List.cons.injEq] at h
    obtain ⟨h1, h2⟩ := h
    obtain ⟨i1, i2⟩ := ents_at h2 z
    unfold entOf at h1
    split at h1
    · rename_i kx kt vx vt ek ev
      cases h1
      have hs : e.key.isStr z = (k == z) := by rw [ek]; rfl
      have hr : e.refKey = false := by
        unfold DictEntry.refKey
        rw [ek]
      simp only [List.find?, List.lookup, hs]
      cases q : k == z with
      | true =>
        have q' : (z == k) = true := by
          rw [beq_iff_eq] at q ⊢
          exact q.symm
        rw [q']
        exact ⟨rfl, fun v' h' => by cases h'; exact ⟨e, vt, rfl, ev⟩⟩
      | false =>
        have q' : (z == k) = false := by
          cases q2 : z == k with
          | false => rfl
          | true =>
            rw [beq_iff_eq] at q2
            rw [q2, beq_self_eq_true] at q
            cases q
        rw [q']
        refine ⟨?_, i2⟩
        rw [List.any_cons, hr, Bool.false_or]
        exact i1
    · cases h1
theorem ktab_of {w : World} {a : Addr} {ks : List Str} {kvs : List (Str × Str)} (h : He.dicW K a = some (He.keysIn w.params ks)) (h2 : dicT K a = kvs.map some) : KTab K w a kvs := by
  have kd := He.dicW_ok h
  obtain ⟨es, n, D⟩ := id kd
  unfold dicT at h2
  rw [D.at_] at h2
  have e0 : ∀ z, PySem.W.nsIn K a z = (match es.toList.find? (·.key.isStr z) with
      | some e => some (some e.val)
      | none => if es.toList.any (·.refKey) then none else some none) := fun z => by
    unfold PySem.W.nsIn
    rw [D.at_]
    rfl
  refine ⟨kd, fun z v e => ?_, fun z e => ?_⟩
  · obtain ⟨e', t, e1, e2⟩ := (ents_at h2 z).2 v e
    refine ⟨t, ?_⟩
    rw [e0, e1, ← e2]
  · rw [e0, (ents_at h2 z).1, e]
theorem gtab_of {w : World} {a : Addr} {ks : List Str} {kvs : List (Str × Str)} (hm : mg x = some (.ref a)) (h : He.dicW K a = some (He.keysIn w.params ks)) (h2 : dicT K a = kvs.map some) : GTab K w mg x kvs := ⟨a, hm, ktab_of h h2⟩
end
def kinD (kvs : List (Str × Str)) : D → AH → R D
  | .str z, A => .ok (.bl (kvs.lookup z).isSome) A
  | _, _ => .bad
def kninD (kvs : List (Str × Str)) : D → AH → R D
  | .str z, A => .ok (.bl (!(kvs.lookup z).isSome)) A
  | _, _ => .bad
def kixD (kvs : List (Str × Str)) : D → AH → R D
  | .str z, A => match kvs.lookup z with
    | some v => .ok (.str v) A
    | none => .bad
  | _, _ => .bad
section
variable {X : Cx} {Wx : WX} {a : Expr} {ta : TE} {ma : ME} {x : Str} {kvs : List (Str × Str)} {p pos : Pos}
def rKin (K : PySem.W.Frag) (w : World) (neg : Bool) : R2 := fun x y H Q => ∃ (d : Addr) (es : Array DictEntry) (n : Nat) (z : Str) (r : Option Value), KDict K w d es n ∧ x = .str z ∧ y = .ref d ∧ PySem.W.nsIn K d z = some r ∧ Q (.bl (if neg then !r.isSome else r.isSome)) H
theorem op_kin : OpR X (compareOp .In) (rKin X.K X.w false) := fun pins s σ H x y v u Q I rx ry ⟨d, es, n, z, r, D, h⟩ => op_in_kd D pins s σ H x y v u Q I rx ry ⟨z, r, h⟩
theorem op_knin : OpR X (compareOp .NotIn) (rKin X.K X.w true) := fun pins s σ H x y v u Q I rx ry ⟨d, es, n, z, r, D, h⟩ => op_notIn_kd D pins s σ H x y v u Q I rx ry ⟨z, r, h⟩
theorem sim_kin {neg : Bool} (T : GTab X.K X.w X.mg x kvs) (ha : SimE X.K X.mg Wx ta ma) : SimE X.K X.mg Wx (tOp (rKin X.K X.w neg) ta (tC (.ref (clA X.mg x)))) (mUn (if neg then kninD kvs else kinD kvs) ma) := by
  obtain ⟨d, hm, T⟩ := T
  obtain ⟨es, n, D⟩ := T.kd
  rw [clA_of hm]
  refine fun W σ s A H Q k sr h => ha W σ s A H _ k sr (h.bind fun x A1 v W1 H1 e1 k1 r1 h1 => ?_)
  cases x with
  | str z =>
    obtain rfl : v = V.str z := r1
    cases q : kvs.lookup z with
    | none =>
      refine ⟨d, es, n, z, none, D, rfl, rfl, T.no z q, ?_⟩
      cases neg with
      | true => exact h1.ok_at k1 (by rw [q]; rfl)
      | false => exact h1.ok_at k1 (by rw [q]; rfl)
    | some v =>
      obtain ⟨t, e⟩ := T.yes z v q
      refine ⟨d, es, n, z, _, D, rfl, rfl, e, ?_⟩
      cases neg with
      | true => exact h1.ok_at k1 (by rw [q]; rfl)
      | false => exact h1.ok_at k1 (by rw [q]; rfl)
  | _ => cases neg <;> exact h1.elim
theorem pe_tab (T : GTab X.K X.w X.mg x kvs) (hg : Gl X x := by rfl) (hdb : (x == ("__debug__" : Str)) = false := by decide) : PE X (.Name x p) (tC (.ref (clA X.mg x))) := by
  obtain ⟨d, hm, T⟩ := T
  rw [clA_of hm]
  exact pe_glob hg hm rfl hdb
theorem skin (T : GTab X.K X.w X.mg x kvs) (ha : SE X Wx a ta ma) (hg : Gl X x := by rfl) (hdb : (x == ("__debug__" : Str)) = false := by decide) (hm : behindInMarks .In (.Name x p) = false := by rfl) :
    SE X Wx (.Compare a [.In] [.Name x p] pos) (tOp (rKin X.K X.w false) ta (tC (.ref (clA X.mg x)))) (mUn (kinD kvs) ma) := ⟨pe_cmpR op_kin ha.pe (pe_tab T hg hdb) hm, sim_kin (neg := false) T ha.sim⟩
theorem sknin (T : GTab X.K X.w X.mg x kvs) (ha : SE X Wx a ta ma) (hg : Gl X x := by rfl) (hdb : (x == ("__debug__" : Str)) = false := by decide) (hm : behindInMarks .NotIn (.Name x p) = false := by rfl) :
    SE X Wx (.Compare a [.NotIn] [.Name x p] pos) (tOp (rKin X.K X.w true) ta (tC (.ref (clA X.mg x)))) (mUn (kninD kvs) ma) := ⟨pe_cmpR op_knin ha.pe (pe_tab T hg hdb) hm, sim_kin (neg := true) T ha.sim⟩
theorem tkin (T : GTab X.K X.w X.mg x kvs) (ha : SE X Wx a ta ma) (hg : Gl X x := by rfl) (hdb : (x == ("__debug__" : Str)) = false := by decide) (hm : behindInMarks .In (.Name x p) = false := by rfl) :
    ST X Wx (.Compare a [.In] [.Name x p] pos) (tTest (tOp (rKin X.K X.w false) ta (tC (.ref (clA X.mg x))))) (mTb (mUn (kinD kvs) ma)) := ⟨pt_cmpR op_kin ha.pe (pe_tab T hg hdb) hm, sim_test (sim_kin (neg := false) T ha.sim)⟩
theorem tknin (T : GTab X.K X.w X.mg x kvs) (ha : SE X Wx a ta ma) (hg : Gl X x := by rfl) (hdb : (x == ("__debug__" : Str)) = false := by decide) (hm : behindInMarks .NotIn (.Name x p) = false := by rfl) :
    ST X Wx (.Compare a [.NotIn] [.Name x p] pos) (tTest (tOp (rKin X.K X.w true) ta (tC (.ref (clA X.mg x))))) (mTb (mUn (kninD kvs) ma)) := ⟨pt_cmpR op_knin ha.pe (pe_tab T hg hdb) hm, sim_test (sim_kin (neg := true) T ha.sim)⟩
theorem skix (T : GTab X.K X.w X.mg x kvs) (ha : SE X Wx a ta ma) (hg : Gl X x := by rfl) (hdb : (x == ("__debug__" : Str)) = false := by decide) (hs : PlainIx a := by intro _ _; rfl) :
    SE X Wx (.Subscript (.Name x p) a pos) (tOp (rIxD X.K X.w) (tC (.ref (clA X.mg x))) ta) (mUn (kixD kvs) ma) := ⟨pe_ix ix_kdict (pe_tab T hg hdb) ha.pe hs, by
  obtain ⟨d, hm, T⟩ := T
  obtain ⟨es, n, D⟩ := T.kd
  rw [clA_of hm]
  refine fun W σ s A H Q k sr h => ha.sim W σ s A H _ k sr (h.bind fun x A1 v W1 H1 e1 k1 r1 h1 => ?_)
  cases x with
  | str z =>
    obtain rfl : v = V.str z := r1
    unfold kixD at h1
    dsimp only at h1
    cases q : kvs.lookup z with
    | none =>
      rw [q] at h1
      exact h1.elim
    | some v =>
      rw [q] at h1
      obtain ⟨t, e⟩ := T.yes z v q
      exact ⟨d, z, .str v, rfl, rfl, ⟨es, n, _, D.at_, D.lit, e, ⟨t, rfl⟩⟩, h1.ok_at k1 rfl⟩
  | _ => exact h1.elim⟩
end

/-! ### within a block: terms told by the names of the def's context -/
theorem se_fix {X : Cx} {Wx : WX} {e : Expr} {t t' : TE} {m : ME} (h : SE X Wx e t m) (ht : t = t') : SE X Wx e t' m := ht ▸ h
theorem sts_fix {X : Cx} {Wx : WX} {e : List Expr} {t t' : TT} {m : MT} (h : STs X Wx e t m) (ht : t = t') : STs X Wx e t' m := ht ▸ h
theorem sg_fix {X : Cx} {e : Expr} {t t' : TG} {m : MG} {is : List Nat} (h : SG X e t m is) (ht : t = t') : SG X e t' m is := ht ▸ h

/-! ### shorter rules -/
section
variable {X : Cx} {Wx : WX} {pos : Pos}
theorem spar2 {i j : Nat} {x y : Str} {a b : Expr} {ta : TA} {ma : MA} {px py pt pt2 : Pos} {kt k2 : Nat} (hc : X.calm = true) (hN : X.N.Nodup) (h : SA X Wx [a, b] ta ma) (hi : X.N[i]? = some x := by rfl) (hj : X.N[j]? = some y := by rfl) (hij : i ≠ j := by decide)
    (hx : X.env.scope.names.lookup x = some .local := by rfl) (hy : X.env.scope.names.lookup y = some .local := by rfl)
    (hw : swappedStores [.Tuple [.Name x px, .Name y py] kt pt] (.Tuple [a, b] k2 pt2) X.env = pure (some [x, y]) := by rfl)
    (hs : swapsWithSole [.Tuple [.Name x px, .Name y py] kt pt] (.Tuple [a, b] k2 pt2) pos.line X.env = pure false := by rfl) :
    SS X Wx (.Assign [.Tuple [.Name x px, .Name y py] kt pt] (.Tuple [a, b] k2 pt2) pos) (tPar i j ta) (mPar [i, j] ma) := spar hc hN h (ps_par hc hN hi hj hij hx hy h.pa hw hs)
theorem sparT {i j l : Nat} {x y z : Str} {a b c : Expr} {ta : TA} {ma : MA} {px py pz pt pt2 : Pos} {kt k2 : Nat} (hc : X.calm = true) (hN : X.N.Nodup) (h : SA X Wx [a, b, c] ta ma) (hi : X.N[i]? = some x := by rfl) (hj : X.N[j]? = some y := by rfl) (hl : X.N[l]? = some z := by rfl)
    (hij : i ≠ j := by decide) (hil : i ≠ l := by decide) (hjl : j ≠ l := by decide) (hx : X.env.scope.names.lookup x = some .local := by rfl) (hy : X.env.scope.names.lookup y = some .local := by rfl) (hz : X.env.scope.names.lookup z = some .local := by rfl)
    (hw : swappedStores [.Tuple [.Name x px, .Name y py, .Name z pz] kt pt] (.Tuple [a, b, c] k2 pt2) X.env = pure (some [x, y, z]) := by rfl)
    (hs : swapsWithSole [.Tuple [.Name x px, .Name y py, .Name z pz] kt pt] (.Tuple [a, b, c] k2 pt2) pos.line X.env = pure false := by rfl) :
    SS X Wx (.Assign [.Tuple [.Name x px, .Name y py, .Name z pz] kt pt] (.Tuple [a, b, c] k2 pt2) pos) (tPar3 i j l ta) (mPar [i, j, l] ma) := spar3 hc hN h (ps_par3 hc hN hi hj hl hij hil hjl hx hy hz h.pa hw hs)
end
end Tg

set_option Elab.async false
set_option linter.all false
set_option maxRecDepth 100000
set_option maxHeartbeats 2000000
/-! TgMore: d.update(pairs). -/
namespace Tg
open PySem PySem.Spec PyProof.Rows L2
theorem pairs_at {X : Cx} {pins : List (Addr × Obj)} {σ : L2.St} {H : Hp} {s : Shared} (I : Inv X pins σ H s) : ∀ {ps : List Addr} {kvs : List (Key × V)}, Paired (fun p kv => SqT X.K H p [kV kv.1, kv.2]) ps kvs →
    ∃ (prs : List (Key × Value)) (qs : List (Value × Value)), L2.KV kvs prs ∧ qs.length = ps.length ∧ prs.length = ps.length ∧ ∀ (j : Nat) (k v : Value), qs[j]? = some (k, v) → ∃ (b : Addr) (y : Key), ps[j]? = some b ∧ IsTup s.heap b #[k, v] ∧ prs[j]? = some (y, v) ∧ (mixKind X.prog X.w).is y k = true
  | _, _, .nil => ⟨[], [], .nil, rfl, rfl, fun j k v e => by simp at e⟩
  | _, _, .cons (a := p) (b := kv) h t => by
    obtain ⟨prs, qs, r, hl, hl2, hp⟩ := pairs_at I t
    obtain ⟨its, rv, ht, _⟩ := I.tuple h
    obtain ⟨u, y, ei, ru, ry⟩ := vals2 rv
    subst ei
    refine ⟨(kv.1, y) :: prs, (u, y) :: qs, .cons ⟨rfl, ry⟩ r, by rw [List.length_cons, List.length_cons, hl], by rw [List.length_cons, List.length_cons, hl2], fun j k v e => ?_⟩
    cases j with
    | zero =>
      have e' : (u, y) = (k, v) := Option.some.inj e
      cases e'
      exact ⟨p, kv.1, rfl, ht, rfl, kV_is (P := X.prog) (w := X.w) ru⟩
    | succ j =>
      obtain ⟨b, y', e1, e2, e3, e4⟩ := hp j k v (by simpa using e)
      exact ⟨b, y', by simpa using e1, e2, by simpa using e3, e4⟩
def rUpd (K : PySem.W.Frag) : V → List V → Hp → VK → Prop := fun x xs H Q => ∃ (d a : Addr) (ps : List Addr) (kvs acc : List (Key × V)), x = .ref d ∧ xs = [.ref a] ∧ H d = some (.dK acc) ∧ SqL K H a (ps.map V.ref) ∧ Paired (fun p kv => SqT K H p [kV kv.1, kv.2]) ps kvs ∧
    acc.length + kvs.length ≤ 16777216 ∧ Q .non (upd H d (.dK (mergeK acc kvs)))
theorem mt_upd {X : Cx} (hcalm : X.calm = true) : MtR X "dict.update" (rUpd X.K) := by
  intro pins s σ H x xs v us Q I rx r q
  obtain ⟨d, a, ps, kvs, acc, rfl, rfl, hd, hq, hp, hsz, q⟩ := q
  obtain ⟨u, rfl, ru⟩ := vals1 r
  cases rx
  cases ru
  obtain ⟨its, rv, pl, hz⟩ := I.list hq
  have ei := refs_at rv
  subst ei
  obtain ⟨prs, qs, rel, hl, hl2, hpr⟩ := pairs_at I hp
  obtain ⟨z, hdl, vs, rel2, dd⟩ := dk_of I.hok hd
  obtain ⟨o, n, ho, hc, hdd, hdat⟩ := pl
  have od := dd
  obtain ⟨obd, _, _, hod, ex, _⟩ := od
  have kl : kvs.length = prs.length := rel.length
  have tup_ne : ∀ b its, IsTup s.heap b its → d ≠ b := fun b its ⟨ob, e1, e2, _⟩ q => by
    rw [← q, hod] at e1
    cases e1
    rw [ex.1] at e2
    exact absurd (Value.type.inj e2) (by decide)
  refine call_update_pairs (knd := mixKind X.prog X.w) (acc := vs) (kvs := prs) (PairArg.list (prog := X.prog) (w := X.w) a (ps.map Value.ref).toArray (fun j => ps.getD j 0) qs) (I.ok.hd hcalm) ⟨⟨o, n, ho, hc, hdd, hdat⟩, ⟨by simp [hl], fun j k v e => ?_⟩⟩ (fun hm => ?_) ⟨by rw [hl2, hl], fun j k v e => ?_⟩ dd ?_ fun h' tk hd' kk => ?_
  · obtain ⟨b, y, e1, e2, e3, e4⟩ := hpr j k v e
    refine ⟨by simp [e1], .inl ?_⟩
    show s.heap.IsTuple (ps.getD j 0) #[k, v]
    rw [List.getD_eq_getElem?_getD, e1]
    exact e2
  · rcases List.mem_cons.mp hm with hm | hm
    · rw [hm, ho] at hod
      cases hod
      rw [ex.1] at hc
      exact absurd (Value.type.inj hc) (by decide)
    · obtain ⟨j, hj, e⟩ := List.mem_map.mp hm
      have hj2 := List.mem_range.mp hj
      obtain ⟨b, y, e1, e2, e3, e4⟩ := hpr j qs[j].1 qs[j].2 (List.getElem?_eq_getElem hj2)
      rw [List.getD_eq_getElem?_getD, e1] at e
      exact tup_ne b _ e2 e.symm
  · obtain ⟨b, y, e1, e2, e3, e4⟩ := hpr j k v e
    exact ⟨y, e3, e4⟩
  · rw [sizeLine_eq, ← rel2.length, hl, ← hl2, ← kl]
    exact hsz
  · have he : ∃ q, h'.get? d = some q := let ⟨q, _, _, hq, _⟩ := hd'; ⟨q, hq⟩
    have hlen : (mergeK acc kvs).length ≤ sizeLine := Nat.le_trans (length_mergeK kvs acc) (by rw [sizeLine_eq]; exact hsz)
    exact ⟨.non, _, I.write (x := d) (e := d) (t' := tk) (by rw [hd]; exact True.intro) (.inl rfl) (fun b q hb z => kk b q hb (fun z => nomatch z) z) he (dk_new hlen hdl (KV.merge rel rel2) hd'), rfl, q⟩

/-- the pairs of a list -/
def pairsD : List D → Option (List (Key × D))
  | [] => some []
  | .tup [k, v] :: ds => match keyD k, pairsD ds with
    | some k, some kvs => some ((k, v) :: kvs)
    | _, _ => none
  | _ => none
def updD : D → List D → AH → R D := fun x ds A => match x, ds with
  | .ref n, [.lst ps] => match A[n]?, pairsD ps with
    | some (.dct acc), some kvs => if acc.length + kvs.length ≤ 16777216 then .ok .non (A.set n (.dct (mergeD acc kvs))) else .bad
    | _, _ => .bad
  | _, _ => .bad
section
variable {K : PySem.W.Frag} {mg : Str → Option Value} {W : Wd}
theorem pairsD_at {A : AH} {H : Hp} (k : Ok K mg W A H) : ∀ {ds : List D} {xs : List V} {more : List (Key × D)}, Reps K W ds xs → pairsD ds = some more →
    ∃ (ps : List Addr) (kvs : List (Key × V)), xs = ps.map V.ref ∧ Paired (fun p kv => SqT K H p [kV kv.1, kv.2]) ps kvs ∧ KVR K W more kvs
  | [], xs, more, r, e => by
    cases (show some [] = some more from e)
    cases (show xs = [] from r)
    exact ⟨[], [], rfl, .nil, rfl, rfl⟩
  | d :: ds, xs, more, r, e => by
    obtain ⟨v, r', rfl, h1, h2⟩ := r
    unfold pairsD at e
    split at e
    · cases ‹_ = []›
    · rename_i kd vd ds' q
      simp only [List.cons.injEq] at q
      obtain ⟨rfl, rfl⟩ := q
      split at e
      · rename_i kx kvs' e1 e2
        cases e
        obtain ⟨ps, kvs, rfl, e4, e5⟩ := pairsD_at k h2 e2
        obtain ⟨a, ys, rfl, q1, q2⟩ := h1
        obtain ⟨y1, y2, rfl, q3, q4⟩ := reps2 q2
        refine ⟨a :: ps, (kx, y2) :: kvs, rfl, .cons ?_ e4, KVR.mk_cons q4 e5⟩
        rw [← keyD_at q3 e1]
        exact k.sqT q1
      · cases e
    · cases e
theorem oUpdS : MtS K mg (rUpd K) updD := fun W A H E Q d x ds xs k rx r h => by
  unfold updD at h
  split at h
  · rename_i n ps
    obtain ⟨a, rfl, ha⟩ := rx
    obtain ⟨v, rfl, h1⟩ := reps1 r
    split at h
    · rename_i acc kvs q1 q2
      split at h
      · rename_i z
        obtain ⟨vs, hx, hk, rr⟩ := k.obj n a _ ha q1
        have kr : KVR K W acc vs := ⟨hk, rr⟩
        obtain ⟨b, ys, rfl, h3, h4⟩ := h1
        obtain ⟨qs, kvs', rfl, e1, e2⟩ := pairsD_at k h4 q2
        refine ⟨a, b, qs, kvs', vs, rfl, rfl, hx, .of (k.frz _ _ h3), e1, by rw [kr.len, e2.len]; exact z, post_write (d := .non) k ha (obd (KVR.merge e2 kr)) rfl h⟩
      · exact h.elim
    · exact h.elim
  · exact h.elim
end
end Tg

set_option Elab.async false
set_option linter.all false
set_option maxRecDepth 100000
set_option maxHeartbeats 2000000
/-! TgEnd: what the head's facts give; the law's own end. -/
namespace Tg
open PySem PySem.Spec PyProof.Rows L2
section
variable {K : PySem.W.Frag} {h : Heap} {mg : Str → Option Value} {x qual c : Str} {st : Stmt} {ps : List Str} {f C : Addr} {oc kV doc pm cdv ct : Value} {od an : Option Addr} {osl : Array (Option Value)}
abbrev HB (x qual : Str) (st : Stmt) (ps : List Str) : Prop := ∀ (kV doc pm : Value) (an : Option Addr) (cdv ct : Value) (us : List Value), us.length = ps.length → bindArgs (PySem.W.fnOf x qual (defArgs st) (defBody st) (defScope st) .none kV doc pm an cdv ct) ⟨us, []⟩ = pure (ps.zip us)
theorem tf_of (X : K.In h) (G : h.Ns mainGlobals mg) (a : PySem.W.nsIn K mainGlobals x = some (some (.ref f))) (l : K.lookup f = some ⟨oc, od, .func (PySem.W.fnOf x qual (defArgs st) (defBody st) (defScope st) .none kV doc pm an cdv ct), osl⟩)
    (cc : PySem.W.codeIn K cdv qual = true) (k : PySem.W.keepIn K (.ref f) = true) (b : HB x qual st ps) : TF K mg x qual st ps :=
  ⟨f, _, fun_mk l cc k, PySem.W.mg_of X G a, (fun_mk l cc k).binds b⟩
def TL (K : PySem.W.Frag) (mg : Str → Option Value) (x : Str) (st : Stmt) (p : Str) : Prop := ∃ f fd, Fun K x x st f fd ∧ mg x = some (.ref f) ∧ ∀ (s : Shared) (v : Value), BindsTo s fd ⟨[v], []⟩ [(p, v)]
theorem tl_of {p : Str} (X : K.In h) (G : h.Ns mainGlobals mg) (a : PySem.W.nsIn K mainGlobals x = some (some (.ref f))) (l : K.lookup f = some ⟨oc, od, .func (PySem.W.fnOf x x (defArgs st) (defBody st) (defScope st) .none kV doc pm an cdv ct), osl⟩)
    (cc : PySem.W.codeIn K cdv x = true) (k : PySem.W.keepIn K (.ref f) = true) (b : HB x x st [p]) : TL K mg x st p :=
  ⟨f, _, fun_mk l cc k, PySem.W.mg_of X G a, fun s v => .of_eq (b kV doc pm an cdv ct [v] rfl)⟩
theorem tm_of (X : K.In h) (G : h.Ns mainGlobals mg) (a : PySem.W.nsIn K mainGlobals c = some (some (.ref C))) (m : PySem.W.findIn K (.ref C) x = some (some (.ref f))) (i : PySem.W.isFn K (.ref f) = true)
    (l : K.lookup f = some ⟨oc, od, .func (PySem.W.fnOf x qual (defArgs st) (defBody st) (defScope st) .none kV doc pm an cdv ct), osl⟩) (cc : PySem.W.codeIn K cdv qual = true) (k : PySem.W.keepIn K (.ref f) = true) (b : HB x qual st ps)
    (pg : PySem.W.plainGet K C Str.empty = true) (hd : PySem.W.hasDictIn K C = true) (po : PySem.W.plainOver K C = true) (sa : PySem.W.findIn K (.ref C) "__setattr__" = some (some (.builtin "object.__setattr__"))) : TM K mg c x qual st ps := by
  have e : clA mg c = C := clA_of (PySem.W.mg_of X G a)
  exact ⟨f, _, fun_mk l cc k, by rw [e]; exact ⟨m, i, k⟩, (fun_mk l cc k).binds b, by rw [e]; exact ⟨pg, hd, po, sa⟩⟩
theorem ti_of (X : K.In h) (G : h.Ns mainGlobals mg) (a : PySem.W.nsIn K mainGlobals c = some (some (.ref C))) (m : PySem.W.findIn K (.ref C) "__init__" = some (some (.ref f))) (i : PySem.W.isFn K (.ref f) = true)
    (l : K.lookup f = some ⟨oc, od, .func (PySem.W.fnOf "__init__" qual (defArgs st) (defBody st) (defScope st) .none kV doc pm an cdv ct), osl⟩) (cc : PySem.W.codeIn K cdv qual = true) (k : PySem.W.keepIn K (.ref f) = true) (b : HB "__init__" qual st ps)
    (mk : PySem.W.makesIn K C = true) (kc : PySem.W.keepIn K (.ref C) = true) : TI K mg c qual st ps :=
  ⟨C, f, _, fun_mk l cc k, PySem.W.mg_of X G a, ⟨mk, m, i, kc⟩, (fun_mk l cc k).binds b⟩
theorem fds_nil {f : Str} : Fds K mg [] f := fun _ h => nomatch h
theorem fds_cons {f : Str} {cs : List Str} (X : K.In h) (G : h.Ns mainGlobals mg) (a : PySem.W.nsIn K mainGlobals c = some (some (.ref C)))
    (pg : PySem.W.plainGet K C Str.empty = true) (hd : PySem.W.hasDictIn K C = true) (po : PySem.W.plainOver K C = true) (sa : PySem.W.findIn K (.ref C) "__setattr__" = some (some (.builtin "object.__setattr__")))
    (nf : PySem.W.findIn K (.ref C) f = some none) (r : Fds K mg cs f) : Fds K mg (c :: cs) f := fun y hy => by
  rcases List.mem_cons.mp hy with rfl | hy
  · have e : clA mg y = C := clA_of (PySem.W.mg_of X G a)
    rw [e]
    exact ⟨⟨pg, hd, po, sa⟩, nf⟩
  · exact r y hy
end
/-- constants, by what stands there -/
theorem gtup_at {x : Str} {K : PySem.W.Frag} {mg : Str → Option Value} {a : Addr} {ds : List D} {od : Option Addr} {its : Array Value} {n : Nat} {sl : Array (Option Value)} (h : mg x = some (.ref a)) (l : K.lookup a = some ⟨.type "tuple", od, .seq its n, sl⟩)
    (h2 : (decide (its.size ≤ 1000) && fltOk ds its.toList) = true) : GDat K mg x (.tup ds) := gtupc h (by
  unfold tupAt
  rw [l]
  simp only [decide_true, Bool.true_and]
  exact h2)
theorem gtab_at {x : Str} {K : PySem.W.Frag} {mg : Str → Option Value} {w : World} {a : Addr} {kvs : List (Str × Str)} {es : Array DictEntry} {n : Nat} (hm : mg x = some (.ref a)) (l : K.lookup a = some ⟨.type "dict", none, .dict es n, #[]⟩) (k : PySem.W.KeysLit w.params es.toList)
    (o : (a == sysModules) = false) (h2 : es.toList.map entOf = kvs.map some) : GTab K w mg x kvs := by
  refine ⟨a, hm, ?_⟩
  have e0 : ∀ z, PySem.W.nsIn K a z = (match es.toList.find? (·.key.isStr z) with
      | some e => some (some e.val)
      | none => if es.toList.any (·.refKey) then none else some none) := fun z => by
    unfold PySem.W.nsIn
    rw [l]
    rfl
  refine ⟨⟨es, n, l, k, o⟩, fun z v e => ?_, fun z e => ?_⟩
  · obtain ⟨e', t, e1, e2⟩ := (ents_at h2 z).2 v e
    refine ⟨t, ?_⟩
    rw [e0, e1, ← e2]
  · exact ((e0 z).trans (ents_at h2 z).1).trans (by rw [e])
def spLaw (K : PySem.W.Frag) : Sp := fun vs H Q _ => ∃ (a : Addr) (ns : List Int), vs = [.ref a] ∧ SqL K H a (ns.map V.int) ∧ ns.length ≤ 63 ∧ ∀ H', Q (.bl true) H'
theorem cx_none {P : Program} {w : World} {H : Hp} {s s' : Shared} {e : Value} (z : L2.CX P w [] H s (fun _ _ _ => False) e s') : False := by
  obtain ⟨_, _, _, _, _, _, _, _, _, _, _, _, q⟩ := z
  exact q
/-- the making of lambdas in the def x, over the base -/
def LamB (K : PySem.W.Frag) (mg : Str → Option Value) (base : Heap) (x : Str) : Prop := ∀ c P, codeA K mg x = some c → tabA K mg x = some P → LamX.TabB base mg c P
/-- the law's promise where the tables of the lambdas' codes are told -/
def spLawT (K : PySem.W.Frag) (cs : List (Addr × Addr)) : Sp := fun vs H Q _ => ∃ (a : Addr) (ns : List Int), vs = [.ref a] ∧ SqL K H a (ns.map V.int) ∧ ns.length ≤ 63 ∧ (∀ p ∈ cs, H p.2 = some (.tbl #[])) ∧ ∀ H', Q (.bl true) H'
open Classical in
theorem lawEnd {l : PySem.W.OpenLaw} {w : World} {K : PySem.W.Frag} {mg : Str → Option Value} {fa : Addr} {N : List Str} {st : Stmt} {p : Str} {k : Nat} {m : MS} {cs : List (Addr × Addr)} (hfa : mg "law" = some (.ref fa)) (T : TL K mg "law" st p) (S : FnScope N [p] (defScope st))
    (hcs : ∀ x ∈ lamDefs, ∀ P, tabA K mg x = some P → ∃ c, codeA K mg x = some c ∧ (c, P) ∈ cs)
    (h : ∀ base : Heap, (∀ x ∈ lamDefs, LamB K mg base x) → BodyC l.prog w K mg base N "law" st k m) (hl : ∀ ns : List Int, ns.length ≤ 63 → ∃ A, mFun 1 N.length m [.scr ns] [] = .ok (.bl true) A) :
    ∃ fd : FuncData, (∀ (s : Shared) (v : Value), BindsTo s fd ⟨[v], []⟩ [(p, v)]) ∧ ∀ base : Heap, K.In base → base.Ns mainGlobals mg → (∀ p ∈ cs, LamX.TabB base mg p.1 p.2) → FnOk l.prog w K mg base (L2.CX l.prog w) (k + 1) fa fd [p] (spLawT K cs) := by
  obtain ⟨f, fd, F, hm, hb⟩ := T
  rw [hfa] at hm
  cases hm
  refine ⟨fd, hb, fun base _ _ tb => (fnokC_of F hfa S (h base fun x hx c P h1 h2 => by
    obtain ⟨c', e, hc⟩ := hcs x hx P h2
    rw [h1] at e
    cases e
    exact tb _ hc)).imp fun vs H Q E ⟨a, ns, e, hq, hn, ht, q⟩ => ?_⟩
  obtain ⟨A, eA⟩ := hl ns hn
  subst e
  have no : ∀ b o, (if (∃ c, (c, b) ∈ cs) then none else H b) = some o → H b = some o := fun b o e => by
    split at e
    · cases e
    · exact e
  have rd : ∀ b xs, Rd H b (.lst xs) → Rd (fun b => if (∃ c, (c, b) ∈ cs) then none else H b) b (.lst xs) := fun b xs r => by
    have n : ¬ ∃ c, (c, b) ∈ cs := fun ⟨c, hc⟩ => by
      have z := ht _ hc
      rcases r with r | ⟨o, r⟩ <;> rw [show H b = _ from r] at z <;> cases z
    rcases r with r | ⟨o, r⟩
    · exact .inl ((if_neg n).trans r)
    · exact .inr ⟨o, (if_neg n).trans r⟩
  refine ⟨⟨fun b => if (∃ c, (c, b) ∈ cs) then none else H b, []⟩, [.scr ns], [], ⟨no, fun n a o h => by simp at h, .nil, rfl, fun n a o h => by simp at h, fun x hx P hP => ?_⟩, Reps.one ⟨a, rfl, hq.elim (fun z => .inl (rd _ _ z)) .inr⟩, ?_⟩
  · obtain ⟨c, _, hc⟩ := hcs x hx P hP
    exact ⟨⟨#[], ht _ hc, True.intro, fun p cv z => by
      have z' : codeAmong p [] = some cv := z
      simp [codeAmong] at z'⟩, by simp, if_pos ⟨c, hc⟩⟩
  · show Post K mg (Rep K) _ H E Q (mFun 1 N.length m [.scr ns] [])
    rw [eA]
    exact fun W' H' b _ _ r => by
      rw [show b = V.bl true from r]
      exact q H'
end Tg

set_option Elab.async false
set_option linter.all false
set_option maxRecDepth 100000
set_option maxHeartbeats 2000000
/-! TgEval: simp rules that run mirrors. -/
namespace Tg
open PySem L2
theorem ofString_inj {a b : String} : Str.ofString a = Str.ofString b ↔ a = b := by
  constructor
  · intro h
    rw [Str.ofString_eq_toList, Str.ofString_eq_toList] at h
    have h2 : (a.toList.map Char.toNat) = (b.toList.map Char.toNat) := by
      have := congrArg (fun s => s.cps.toList) h
      simpa using this
    have h3 : a.toList = b.toList := List.map_inj_right (fun x y e => Char.ext (UInt32.toNat_inj.mp e)) |>.mp h2
    exact String.toList_inj.mp h3
  · intro h
    rw [h]

def RS.nxt (r : RS) (n : MS) : RS := match r with
  | .nx s1 A1 => n s1 A1
  | r => r
@[simp] theorem RS.nxt_nx (s : Sl) (A : AH) (n : MS) : (RS.nx s A).nxt n = n s A := rfl
@[simp] theorem RS.nxt_rt (d : D) (A : AH) (n : MS) : (RS.rt d A).nxt n = .rt d A := rfl
@[simp] theorem RS.nxt_exc (x : XV) (s : Sl) (A : AH) (n : MS) : (RS.exc x s A).nxt n = .exc x s A := rfl
@[simp] theorem RS.nxt_bk (s : Sl) (A : AH) (n : MS) : (RS.bk s A).nxt n = .bk s A := rfl
@[simp] theorem RS.nxt_ct (s : Sl) (A : AH) (n : MS) : (RS.ct s A).nxt n = .ct s A := rfl
@[simp] theorem RS.nxt_bad (n : MS) : RS.bad.nxt n = .bad := rfl
theorem RS.nxt_ite (c : Prop) [Decidable c] (a b : RS) (n : MS) : (if c then a else b).nxt n = if c then a.nxt n else b.nxt n := by split <;> rfl
def kB2 (f : D → D → AH → R D) (x : D) (r : R D) : R D := r.bind fun y A => f x y A
@[simp] theorem kB2_0 (f : D → D → AH → R D) (x : D) (y : D) (A : AH) : kB2 f x (.ok y A) = f x y A := rfl
def kB1 (f : D → D → AH → R D) (b : ME) (s : Sl) (r : R D) : R D := r.bind fun x A => kB2 f x (b s A)
@[simp] theorem kB1_0 (f : D → D → AH → R D) (b : ME) (s : Sl) (x : D) (A : AH) : kB1 f b s (.ok x A) = kB2 f x (b s A) := rfl
@[simp] theorem e_bin {f : D → D → AH → R D} {a b : ME} {s : Sl} {A : AH} : mBin f a b s A = kB1 f b s (a s A) := rfl
def kU (f : D → AH → R D) (r : R D) : R D := r.bind fun x A => f x A
@[simp] theorem kU_0 (f : D → AH → R D) (x : D) (A : AH) : kU f (.ok x A) = f x A := rfl
@[simp] theorem e_un {f : D → AH → R D} {a : ME} {s : Sl} {A : AH} : mUn f a s A = kU f (a s A) := rfl
def kC2 (x : D) (r : R (List D)) : R (List D) := r.bind fun xs A => .ok (x :: xs) A
@[simp] theorem kC2_0 (x : D) (xs : List D) (A : AH) : kC2 x (.ok xs A) = .ok (x :: xs) A := rfl
def kC1 (ma : MA) (s : Sl) (r : R D) : R (List D) := r.bind fun x A => kC2 x (ma s A)
@[simp] theorem kC1_0 (ma : MA) (s : Sl) (x : D) (A : AH) : kC1 ma s (.ok x A) = kC2 x (ma s A) := rfl
@[simp] theorem e_nil  {s : Sl} {A : AH} : mNil s A = .ok [] A := rfl
@[simp] theorem e_cons {a : ME} {ma : MA} {s : Sl} {A : AH} : mCons a ma s A = kC1 ma s (a s A) := rfl
def kT  (r : R D) : R Bool := r.bind toB
@[simp] theorem kT_0  (b : Bool) (A : AH) : kT (.ok (.bl b) A) = .ok b A := rfl
@[simp] theorem e_tb {a : ME} {s : Sl} {A : AH} : mTb a s A = kT (a s A) := rfl
def kI (a b : ME) (s : Sl) (r : R Bool) : R D := r.bind fun k A => if k then a s A else b s A
@[simp] theorem kI_0 (a b : ME) (s : Sl) (A : AH) : kI a b s (.ok true A) = a s A := rfl
@[simp] theorem kI_1 (a b : ME) (s : Sl) (A : AH) : kI a b s (.ok false A) = b s A := rfl
@[simp] theorem e_if {t : MT} {a b : ME} {s : Sl} {A : AH} : mIf t a b s A = kI a b s (t s A) := rfl
def kAnd (u : MT) (s : Sl) (r : R Bool) : R Bool := r.bind fun k A => if k then u s A else .ok false A
@[simp] theorem kAnd_0 (u : MT) (s : Sl) (A : AH) : kAnd u s (.ok true A) = u s A := rfl
@[simp] theorem kAnd_1 (u : MT) (s : Sl) (A : AH) : kAnd u s (.ok false A) = .ok false A := rfl
@[simp] theorem e_and {t u : MT} {s : Sl} {A : AH} : mAnd t u s A = kAnd u s (t s A) := rfl
def kOr (u : MT) (s : Sl) (r : R Bool) : R Bool := r.bind fun k A => if k then .ok true A else u s A
@[simp] theorem kOr_0 (u : MT) (s : Sl) (A : AH) : kOr u s (.ok true A) = .ok true A := rfl
@[simp] theorem kOr_1 (u : MT) (s : Sl) (A : AH) : kOr u s (.ok false A) = u s A := rfl
@[simp] theorem e_or {t u : MT} {s : Sl} {A : AH} : mOr t u s A = kOr u s (t s A) := rfl
def kN  (r : R Bool) : R Bool := r.bind fun k A => .ok (!k) A
@[simp] theorem kN_0  (b : Bool) (A : AH) : kN (.ok b A) = .ok (!b) A := rfl
@[simp] theorem e_not {t : MT} {s : Sl} {A : AH} : mNot t s A = kN (t s A) := rfl
def kCh3 (g : D → D → AH → R D) (y : D) (c : ME) (s : Sl) (r : R D) : R D := r.bind fun z A => (toB z A).bind fun k A4 => if k then (c s A4).bind fun w A5 => g y w A5 else .ok (.bl false) A4
@[simp] theorem kCh3_0 (g : D → D → AH → R D) (y : D) (c : ME) (s : Sl) (A : AH) : kCh3 g y c s (.ok (.bl true) A) = kB2 g y (c s A) := rfl
@[simp] theorem kCh3_1 (g : D → D → AH → R D) (y : D) (c : ME) (s : Sl) (A : AH) : kCh3 g y c s (.ok (.bl false) A) = .ok (.bl false) A := rfl
def kCh2 (f g : D → D → AH → R D) (x : D) (c : ME) (s : Sl) (r : R D) : R D := r.bind fun y A => kCh3 g y c s (f x y A)
@[simp] theorem kCh2_0 (f g : D → D → AH → R D) (x : D) (c : ME) (s : Sl) (y : D) (A : AH) : kCh2 f g x c s (.ok y A) = kCh3 g y c s (f x y A) := rfl
def kCh1 (f g : D → D → AH → R D) (b c : ME) (s : Sl) (r : R D) : R D := r.bind fun x A => kCh2 f g x c s (b s A)
@[simp] theorem kCh1_0 (f g : D → D → AH → R D) (b c : ME) (s : Sl) (x : D) (A : AH) : kCh1 f g b c s (.ok x A) = kCh2 f g x c s (b s A) := rfl
@[simp] theorem e_chain {f g : D → D → AH → R D} {a b c : ME} {s : Sl} {A : AH} : mChain f g a b c s A = kCh1 f g b c s (a s A) := rfl
def kAV (b : ME) (s : Sl) (r : R D) : R D := r.bind fun x A => (toB x A).bind fun k A2 => if k then b s A2 else .ok (.bl false) A2
@[simp] theorem kAV_0 (b : ME) (s : Sl) (A : AH) : kAV b s (.ok (.bl true) A) = b s A := rfl
@[simp] theorem kAV_1 (b : ME) (s : Sl) (A : AH) : kAV b s (.ok (.bl false) A) = .ok (.bl false) A := rfl
@[simp] theorem e_andV {a b : ME} {s : Sl} {A : AH} : mAndV a b s A = kAV b s (a s A) := rfl
def kOV (b : ME) (s : Sl) (r : R D) : R D := r.bind fun x A => (toB x A).bind fun k A2 => if k then .ok (.bl true) A2 else b s A2
@[simp] theorem kOV_0 (b : ME) (s : Sl) (A : AH) : kOV b s (.ok (.bl true) A) = .ok (.bl true) A := rfl
@[simp] theorem kOV_1 (b : ME) (s : Sl) (A : AH) : kOV b s (.ok (.bl false) A) = b s A := rfl
@[simp] theorem e_orV {a b : ME} {s : Sl} {A : AH} : mOrV a b s A = kOV b s (a s A) := rfl
def kNV  (r : R D) : R D := r.bind fun x A => (toB x A).bind fun k A2 => .ok (.bl (!k)) A2
@[simp] theorem kNV_0  (b : Bool) (A : AH) : kNV (.ok (.bl b) A) = .ok (.bl (!b)) A := rfl
@[simp] theorem e_notV {a : ME} {s : Sl} {A : AH} : mNotV a s A = kNV (a s A) := rfl
def kTup  (r : R (List D)) : R D := r.bind fun ds A1 => if ds.length ≤ 16777216 then .ok (.tup ds) A1 else .bad
@[simp] theorem kTup_0  (ds : List D) (A : AH) : kTup (.ok ds A) = if ds.length ≤ 16777216 then .ok (.tup ds) A else .bad := rfl
@[simp] theorem e_tup {ma : MA} {s : Sl} {A : AH} : mTup ma s A = kTup (ma s A) := rfl
def kLst  (r : R (List D)) : R D := r.bind fun ds A1 => if ds.length ≤ 16777216 then .ok (.lst ds) A1 else .bad
@[simp] theorem kLst_0  (ds : List D) (A : AH) : kLst (.ok ds A) = if ds.length ≤ 16777216 then .ok (.lst ds) A else .bad := rfl
@[simp] theorem e_lst {ma : MA} {s : Sl} {A : AH} : mLst ma s A = kLst (ma s A) := rfl
def kLstN  (r : R (List D)) : R D := r.bind fun ds A1 => if ds.length ≤ 16777216 then .ok (.ref A1.length) (A1 ++ [.lst ds]) else .bad
@[simp] theorem kLstN_0  (ds : List D) (A : AH) : kLstN (.ok ds A) = if ds.length ≤ 16777216 then .ok (.ref A.length) (A ++ [.lst ds]) else .bad := rfl
@[simp] theorem e_lstN {ma : MA} {s : Sl} {A : AH} : mLstN ma s A = kLstN (ma s A) := rfl
def kP  (r : R D) : R (Option Int) := r.bind fun x A1 => match x with
  | .int i => .ok (some i) A1
  | _ => .bad
@[simp] theorem kP_0  (i : Int) (A : AH) : kP (.ok (.int i) A) = .ok (some i) A := rfl
@[simp] theorem e_part {a : ME} {s : Sl} {A : AH} : mPart a s A = kP (a s A) := rfl
@[simp] theorem e_nopart  {s : Sl} {A : AH} : mNoPart s A = .ok none A := rfl
def kS3 (x : D) (l : Option Int) (r : R (Option Int)) : R D := r.bind fun u A => slD x l u A
@[simp] theorem kS3_0 (x : D) (l : Option Int) (u : Option Int) (A : AH) : kS3 x l (.ok u A) = slD x l u A := rfl
def kS2 (x : D) (hi : Sl → AH → R (Option Int)) (s : Sl) (r : R (Option Int)) : R D := r.bind fun l A => kS3 x l (hi s A)
@[simp] theorem kS2_0 (x : D) (hi : Sl → AH → R (Option Int)) (s : Sl) (l : Option Int) (A : AH) : kS2 x hi s (.ok l A) = kS3 x l (hi s A) := rfl
def kS1 (lo hi : Sl → AH → R (Option Int)) (s : Sl) (r : R D) : R D := r.bind fun x A => kS2 x hi s (lo s A)
@[simp] theorem kS1_0 (lo hi : Sl → AH → R (Option Int)) (s : Sl) (x : D) (A : AH) : kS1 lo hi s (.ok x A) = kS2 x hi s (lo s A) := rfl
@[simp] theorem e_sl {a : ME} {lo hi : Sl → AH → R (Option Int)} {s : Sl} {A : AH} : mSl a lo hi s A = kS1 lo hi s (a s A) := rfl
def kF (cs : List Str) (f : Str) (r : R D) : R D := r.bind fun x A => fldD cs f x A
@[simp] theorem kF_0 (cs : List Str) (f : Str) (x : D) (A : AH) : kF cs f (.ok x A) = fldD cs f x A := rfl
@[simp] theorem e_fld {cs : List Str} {f : Str} {a : ME} {s : Sl} {A : AH} : mFld cs f a s A = kF cs f (a s A) := rfl
def kCall (g : List D → AH → R D) (r : R (List D)) : R D := r.bind fun ds A => g ds A
@[simp] theorem kCall_0 (g : List D → AH → R D) (ds : List D) (A : AH) : kCall g (.ok ds A) = g ds A := rfl
@[simp] theorem e_call {g : List D → AH → R D} {ma : MA} {s : Sl} {A : AH} : mCall g ma s A = kCall g (ma s A) := rfl
def kM2 (f : D → List D → AH → R D) (x : D) (r : R (List D)) : R D := r.bind fun ds A => f x ds A
@[simp] theorem kM2_0 (f : D → List D → AH → R D) (x : D) (ds : List D) (A : AH) : kM2 f x (.ok ds A) = f x ds A := rfl
def kM1 (T : String) (f : D → List D → AH → R D) (ma : MA) (s : Sl) (r : R D) : R D := r.bind fun x A1 => if tyMD A1 T x then kM2 f x (ma s A1) else .bad
@[simp] theorem kM1_0 (T : String) (f : D → List D → AH → R D) (ma : MA) (s : Sl) (x : D) (A : AH) : kM1 T f ma s (.ok x A) = if tyMD A T x then kM2 f x (ma s A) else .bad := rfl
@[simp] theorem e_mt {T : String} {f : D → List D → AH → R D} {a : ME} {ma : MA} {s : Sl} {A : AH} : mMt T f a ma s A = kM1 T f ma s (a s A) := rfl
def kMe3 (g : List D → AH → R D) (n : Nat) (r : R (List D)) : R D := r.bind fun ds A => g (.ref n :: ds) A
@[simp] theorem kMe3_0 (g : List D → AH → R D) (n : Nat) (ds : List D) (A : AH) : kMe3 g n (.ok ds A) = g (.ref n :: ds) A := rfl
def kMe2 (c m : Str) (g : List D → AH → R D) (ma : MA) (s : Sl) (n : Nat) (A : AH) (o : Option AO) : R D := match o with
  | some (.ins c' fs) => if c' = c ∧ fs.lookup m = none then kMe3 g n (ma s A) else .bad
  | _ => .bad
@[simp] theorem kMe2_0 (c m : Str) (g : List D → AH → R D) (ma : MA) (s : Sl) (n : Nat) (A : AH) (c' : Str) (fs : List (Str × D)) : kMe2 c m g ma s n A (some (.ins c' fs)) = if c' = c ∧ fs.lookup m = none then kMe3 g n (ma s A) else .bad := rfl
def kMe1 (c m : Str) (g : List D → AH → R D) (ma : MA) (s : Sl) (r : R D) : R D := r.bind fun x A => match x with
  | .ref n => kMe2 c m g ma s n A A[n]?
  | _ => .bad
@[simp] theorem kMe1_0 (c m : Str) (g : List D → AH → R D) (ma : MA) (s : Sl) (n : Nat) (A : AH) : kMe1 c m g ma s (.ok (.ref n) A) = kMe2 c m g ma s n A A[n]? := rfl
@[simp] theorem e_meth {c m : Str} {g : List D → AH → R D} {mo : ME} {ma : MA} {s : Sl} {A : AH} : mMeth c m g mo ma s A = kMe1 c m g ma s (mo s A) := rfl
def kMk2 (n : Nat) (r : R D) : R D := r.bind fun r A2 => match r with
  | .non => .ok (.ref n) A2
  | _ => .bad
@[simp] theorem kMk2_0 (n : Nat) (A : AH) : kMk2 n (.ok .non A) = .ok (.ref n) A := rfl
def kMk1 (c : Str) (g : List D → AH → R D) (r : R (List D)) : R D := r.bind fun ds A1 => kMk2 A1.length (g (.ref A1.length :: ds) (A1 ++ [.ins c []]))
@[simp] theorem kMk1_0 (c : Str) (g : List D → AH → R D) (ds : List D) (A : AH) : kMk1 c g (.ok ds A) = kMk2 A.length (g (.ref A.length :: ds) (A ++ [.ins c []])) := rfl
@[simp] theorem e_make {c : Str} {g : List D → AH → R D} {ma : MA} {s : Sl} {A : AH} : mMake c g ma s A = kMk1 c g (ma s A) := rfl
def kPC3 (x y : D) (r : R (List (D × D))) : R (List (D × D)) := r.bind fun ps A => .ok ((x, y) :: ps) A
@[simp] theorem kPC3_0 (x y : D) (ps : List (D × D)) (A : AH) : kPC3 x y (.ok ps A) = .ok ((x, y) :: ps) A := rfl
def kPC2 (x : D) (p : MP) (s : Sl) (r : R D) : R (List (D × D)) := r.bind fun y A => kPC3 x y (p s A)
@[simp] theorem kPC2_0 (x : D) (p : MP) (s : Sl) (y : D) (A : AH) : kPC2 x p s (.ok y A) = kPC3 x y (p s A) := rfl
def kPC1 (b : ME) (p : MP) (s : Sl) (r : R D) : R (List (D × D)) := r.bind fun x A => kPC2 x p s (b s A)
@[simp] theorem kPC1_0 (b : ME) (p : MP) (s : Sl) (x : D) (A : AH) : kPC1 b p s (.ok x A) = kPC2 x p s (b s A) := rfl
@[simp] theorem e_pnil  {s : Sl} {A : AH} : mPNil s A = .ok [] A := rfl
@[simp] theorem e_pcons {a b : ME} {p : MP} {s : Sl} {A : AH} : mPCons a b p s A = kPC1 b p s (a s A) := rfl
def kD  (r : R (List (D × D))) : R D := r.bind fun ps A1 => match keysD ps with
  | some kvs => if kvs.length ≤ 15 then .ok (.dct ((mergeD [] kvs).map (·.1)) ((mergeD [] kvs).map (·.2))) A1 else .bad
  | none => .bad
@[simp] theorem kD_0  (ps : List (D × D)) (A : AH) : kD (.ok ps A) = match keysD ps with
  | some kvs => if kvs.length ≤ 15 then .ok (.dct ((mergeD [] kvs).map (·.1)) ((mergeD [] kvs).map (·.2))) A else .bad
  | none => .bad := rfl
def kDN  (r : R (List (D × D))) : R D := r.bind fun ps A1 => match keysD ps with
  | some kvs => if kvs.length ≤ 15 then .ok (.ref A1.length) (A1 ++ [.dct (mergeD [] kvs)]) else .bad
  | none => .bad
@[simp] theorem kDN_0  (ps : List (D × D)) (A : AH) : kDN (.ok ps A) = match keysD ps with
  | some kvs => if kvs.length ≤ 15 then .ok (.ref A.length) (A ++ [.dct (mergeD [] kvs)]) else .bad
  | none => .bad := rfl
@[simp] theorem e_dct {p : MP} {s : Sl} {A : AH} : mDct p s A = kD (p s A) := rfl
@[simp] theorem e_dctN {p : MP} {s : Sl} {A : AH} : mDctN p s A = kDN (p s A) := rfl
def kG12 (x : D) (r : R D) : R D := r.bind fun d A => getD1 x d A
@[simp] theorem kG12_0 (x : D) (d : D) (A : AH) : kG12 x (.ok d A) = getD1 x d A := rfl
def kG11 (y : ME) (s : Sl) (r : R D) : R D := r.bind fun x A => if (dctD A x).isSome then kG12 x (y s A) else .bad
@[simp] theorem kG11_0 (y : ME) (s : Sl) (x : D) (A : AH) : kG11 y s (.ok x A) = if (dctD A x).isSome then kG12 x (y s A) else .bad := rfl
@[simp] theorem e_get1 {o y : ME} {s : Sl} {A : AH} : mGet1 o y s A = kG11 y s (o s A) := rfl
def kG23 (x d : D) (r : R D) : R D := r.bind fun e A => getD2 x d e A
@[simp] theorem kG23_0 (x d : D) (e : D) (A : AH) : kG23 x d (.ok e A) = getD2 x d e A := rfl
def kG22 (x : D) (z : ME) (s : Sl) (r : R D) : R D := r.bind fun d A => kG23 x d (z s A)
@[simp] theorem kG22_0 (x : D) (z : ME) (s : Sl) (d : D) (A : AH) : kG22 x z s (.ok d A) = kG23 x d (z s A) := rfl
def kG21 (y z : ME) (s : Sl) (r : R D) : R D := r.bind fun x A => if (dctD A x).isSome then kG22 x z s (y s A) else .bad
@[simp] theorem kG21_0 (y z : ME) (s : Sl) (x : D) (A : AH) : kG21 y z s (.ok x A) = if (dctD A x).isSome then kG22 x z s (y s A) else .bad := rfl
@[simp] theorem e_get2 {o y z : ME} {s : Sl} {A : AH} : mGet2 o y z s A = kG21 y z s (o s A) := rfl
@[simp] theorem e_nx  {s : Sl} {A : AH} : mNx s A = .nx s A := rfl
@[simp] theorem e_seq {m n : MS} {s : Sl} {A : AH} : mSeq m n s A = (m s A).nxt n := rfl
def kDrop (s : Sl) (r : R D) : RS := r.thenS s fun _ A1 => .nx s A1
@[simp] theorem kDrop_0 (s : Sl) (x : D) (A : AH) : kDrop s (.ok x A) = .nx s A := rfl
@[simp] theorem e_drop {a : ME} {s : Sl} {A : AH} : mDrop a s A = kDrop s (a s A) := rfl
def kRet (s : Sl) (r : R D) : RS := r.thenS s fun d A1 => .rt d A1
@[simp] theorem kRet_0 (s : Sl) (x : D) (A : AH) : kRet s (.ok x A) = .rt x A := rfl
@[simp] theorem e_ret {a : ME} {s : Sl} {A : AH} : mRet a s A = kRet s (a s A) := rfl
@[simp] theorem e_retN  {s : Sl} {A : AH} : mRetN s A = .rt .non A := rfl
def kIf (m n : MS) (s : Sl) (r : R Bool) : RS := r.thenS s fun k A1 => if k then m s A1 else n s A1
@[simp] theorem kIf_0 (m n : MS) (s : Sl) (A : AH) : kIf m n s (.ok true A) = m s A := rfl
@[simp] theorem kIf_1 (m n : MS) (s : Sl) (A : AH) : kIf m n s (.ok false A) = n s A := rfl
@[simp] theorem e_ifS {t : MT} {m n : MS} {s : Sl} {A : AH} : mIfS t m n s A = kIf m n s (t s A) := rfl
def kAsg (i : Nat) (s : Sl) (r : R D) : RS := r.thenS s fun d A1 => .nx (s.set i (some d)) A1
@[simp] theorem kAsg_0 (i : Nat) (s : Sl) (x : D) (A : AH) : kAsg i s (.ok x A) = .nx (s.set i (some x)) A := rfl
@[simp] theorem e_asgN {a : ME} {i : Nat} {s : Sl} {A : AH} : mAsg a (gmN i) s A = kAsg i s (a s A) := rfl
def kPar (is : List Nat) (s : Sl) (r : R (List D)) : RS := r.thenS s fun ds A1 => match is, ds with
  | [i, j], [d, e] => .nx ((s.set i (some d)).set j (some e)) A1
  | [i, j, l], [d, e, f] => .nx (((s.set i (some d)).set j (some e)).set l (some f)) A1
  | _, _ => .bad
@[simp] theorem kPar_2 (i j : Nat) (s : Sl) (d e : D) (A : AH) : kPar [i, j] s (.ok [d, e] A) = .nx ((s.set i (some d)).set j (some e)) A := rfl
@[simp] theorem kPar_3 (i j l : Nat) (s : Sl) (d e f : D) (A : AH) : kPar [i, j, l] s (.ok [d, e, f] A) = .nx (((s.set i (some d)).set j (some e)).set l (some f)) A := rfl
@[simp] theorem e_par {is : List Nat} {ma : MA} {s : Sl} {A : AH} : mPar is ma s A = kPar is s (ma s A) := rfl
def kSub4 (s : Sl) (o : Option AH) : RS := match o with
  | some A => .nx s A
  | none => .bad
@[simp] theorem kSub4_0 (s : Sl) (A : AH) : kSub4 s (some A) = .nx s A := rfl
def kSub3 (x d : D) (s : Sl) (r : R D) : RS := r.thenS s fun y A => kSub4 s (stSub x y d A)
@[simp] theorem kSub3_0 (x d : D) (s : Sl) (y : D) (A : AH) : kSub3 x d s (.ok y A) = kSub4 s (stSub x y d A) := rfl
def kSub2 (b : ME) (d : D) (s : Sl) (r : R D) : RS := r.thenS s fun x A => kSub3 x d s (b s A)
@[simp] theorem kSub2_0 (b : ME) (d : D) (s : Sl) (x : D) (A : AH) : kSub2 b d s (.ok x A) = kSub3 x d s (b s A) := rfl
def kSub1 (a b : ME) (s : Sl) (r : R D) : RS := r.thenS s fun d A => kSub2 b d s (a s A)
@[simp] theorem kSub1_0 (a b : ME) (s : Sl) (d : D) (A : AH) : kSub1 a b s (.ok d A) = kSub2 b d s (a s A) := rfl
@[simp] theorem e_sub {a b c : ME} {s : Sl} {A : AH} : mSubS a b c s A = kSub1 a b s (c s A) := rfl
def kFS2 (cs : List Str) (f : Str) (d : D) (s : Sl) (r : R D) : RS := r.thenS s fun x A => kSub4 s (stFld cs f x d A)
@[simp] theorem kFS2_0 (cs : List Str) (f : Str) (d : D) (s : Sl) (x : D) (A : AH) : kFS2 cs f d s (.ok x A) = kSub4 s (stFld cs f x d A) := rfl
def kFS1 (cs : List Str) (f : Str) (a : ME) (s : Sl) (r : R D) : RS := r.thenS s fun d A => kFS2 cs f d s (a s A)
@[simp] theorem kFS1_0 (cs : List Str) (f : Str) (a : ME) (s : Sl) (d : D) (A : AH) : kFS1 cs f a s (.ok d A) = kFS2 cs f d s (a s A) := rfl
@[simp] theorem e_fldS {cs : List Str} {f : Str} {a b : ME} {s : Sl} {A : AH} : mFldS cs f a b s A = kFS1 cs f a s (b s A) := rfl
@[simp] theorem e_ct  {s : Sl} {A : AH} : mCt s A = .ct s A := rfl
@[simp] theorem e_bk  {s : Sl} {A : AH} : mBk s A = .bk s A := rfl
section
variable {s : Sl} {A A1 : AH} {d x y : D} {ds : List D} {i : Nat}
theorem e_mv (h : s[i]? = some (some d)) : mv i s A = .ok d A := by unfold mv; rw [h]
@[simp] theorem e_mv0 {r : Sl} : mv 0 (some d :: r) A = .ok d A := rfl
@[simp] theorem e_mvS {o : Option D} {r : Sl} : mv (i + 1) (o :: r) A = mv i r A := rfl
@[simp] theorem e_mc : mc d s A = .ok d A := rfl
@[simp] theorem e_yes : mYes s A = .ok true A := rfl
@[simp] theorem e_toB {b : Bool} : toB (.bl b) A = .ok b A := rfl
theorem e_fun {n m : Nat} {b : MS} (h : ds.length = n) : mFun n m b ds A = finS (b (startD m ds) A) := if_pos h
@[simp] theorem finS_rt : finS (.rt d A) = .ok d A := rfl
@[simp] theorem finS_nx : finS (.nx s A) = .ok .non A := rfl
/-! operations -/
@[simp] theorem o_add {i j : Int} : addD (.int i) (.int j) A = .ok (.int (i + j)) A := rfl
@[simp] theorem o_sub {i j : Int} : subD (.int i) (.int j) A = .ok (.int (i - j)) A := rfl
@[simp] theorem o_neg {i : Int} : negD (.int i) A = .ok (.int (-i)) A := rfl
@[simp] theorem o_lt {i j : Int} : ltD (.int i) (.int j) A = .ok (.bl (decide (i < j))) A := rfl
@[simp] theorem o_le {i j : Int} : leD (.int i) (.int j) A = .ok (.bl (decide (i ≤ j))) A := rfl
@[simp] theorem o_gt {i j : Int} : gtD (.int i) (.int j) A = .ok (.bl (decide (j < i))) A := rfl
@[simp] theorem o_ge {i j : Int} : geD (.int i) (.int j) A = .ok (.bl (decide (j ≤ i))) A := rfl
theorem o_mod {i j : Int} (h : 0 < j) : modD (.int i) (.int j) A = .ok (.int (i % j)) A := if_pos h
theorem o_fdiv {i j : Int} (h : 0 < j) (h2 : j < 1073741824) : fdivD (.int i) (.int j) A = .ok (.int (i / j)) A := if_pos ⟨h, h2⟩
theorem o_mulR {i j : Int} (h : -(2 ^ 64) < j) (h2 : j < 2 ^ 64) : mulD (.int i) (.int j) A = .ok (.int (i * j)) A := if_pos (.inr ⟨h, h2⟩)
@[simp] theorem o_eqI {i j : Int} : eqD (.int i) (.int j) A = .ok (.bl (i == j)) A := rfl
@[simp] theorem o_eqS {i j : Str} : eqD (.str i) (.str j) A = .ok (.bl (i == j)) A := rfl
@[simp] theorem o_neI {i j : Int} : neD (.int i) (.int j) A = .ok (.bl (!(i == j))) A := rfl
@[simp] theorem o_neS {i j : Str} : neD (.str i) (.str j) A = .ok (.bl (!(i == j))) A := rfl
@[simp] theorem o_is : isD d .non A = .ok (.bl (isNon d)) A := rfl
@[simp] theorem o_isnt : isntD d .non A = .ok (.bl (!isNon d)) A := rfl
/-- subscripts by kind -/
theorem ix_tup {i : Int} (h : atI ds i = some d) : ixD (.tup ds) (.int i) A = .ok d A := by
  unfold ixD
  simp only [dctD, itemsD, h]
theorem ix_lst {i : Int} (h : atI ds i = some d) : ixD (.lst ds) (.int i) A = .ok d A := by
  unfold ixD
  simp only [dctD, itemsD, seqL, h]
theorem ix_scr {ns : List Int} {i : Int} (h : atI (ns.map .int) i = some d) : ixD (.scr ns) (.int i) A = .ok d A := by
  unfold ixD
  simp only [dctD, itemsD, seqL, h]
theorem ix_ref {n : Nat} {i : Int} (hA : A[n]? = some (.lst ds)) (h : atI ds i = some d) : ixD (.ref n) (.int i) A = .ok d A := by
  unfold ixD
  simp only [dctD, itemsD, seqL, hA, h]
theorem ix_dctS {n : Nat} {z : Str} {kvs : List (Key × D)} (hA : A[n]? = some (.dct kvs)) (h : lkK kvs (.inr z) = some d) : ixD (.ref n) (.str z) A = .ok d A := by
  unfold ixD
  simp only [dctD, hA, keyD, Option.bind, h]
theorem atI_ok {α : Type} {xs : List α} {i : Nat} {v : α} (h : xs[i]? = some v) : atI xs (i : Int) = some v := by
  have hi := (List.getElem?_eq_some_iff.mp h).1
  unfold atI ixN
  rw [if_pos (by omega), if_pos (by omega)]
  simpa using h
theorem len_lst {n : Nat} (hA : A[n]? = some (.lst ds)) : lenD [.ref n] A = .ok (.int ds.length) A := by
  simp only [lenD, dctD, itemsD, seqL, hA]
@[simp] theorem len_scr {ns : List Int} : lenD [.scr ns] A = .ok (.int ns.length) A := by
  simp only [lenD, dctD, itemsD, seqL, List.length_map]
@[simp] theorem len_tup : lenD [.tup ds] A = .ok (.int ds.length) A := rfl
@[simp] theorem len_frz : lenD [.lst ds] A = .ok (.int ds.length) A := rfl
theorem st_lst {n : Nat} {i j : Nat} (hA : A[n]? = some (.lst ds)) (h : i < ds.length) : stSub (.ref n) (.int i) d A = some (A.set n (.lst (ds.set i d))) := by
  unfold stSub
  simp only [hA]
  have : ixN ds.length (i : Int) = some i := by
    unfold ixN
    rw [if_pos (by omega), if_pos (by omega)]
    simp
  rw [this]
theorem st_dct {n : Nat} {z : Str} {kvs : List (Key × D)} (hA : A[n]? = some (.dct kvs)) (h : kvs.length < 16777216) : stSub (.ref n) (.str z) d A = some (A.set n (.dct (ptK kvs (.inr z) d))) := by
  unfold stSub
  simp only [hA, keyD, if_pos h]
end
end Tg

set_option Elab.async false
set_option linter.all false
set_option maxRecDepth 100000
set_option maxHeartbeats 2000000
/-! TgTaken: the laws' own drawing. -/
namespace Tg
open PySem L2
section
variable {A : AH} {n : Nat} {d x : D} {i : Int} {ds : List D} {α : Type} {xs : List α} {p q r s : α}
theorem ix_int : ixD (.ref n) (.int i) A = match A[n]? with
  | some (.lst ds) => (match atI ds i with
    | some d => .ok d A
    | none => .bad)
  | some (.dct kvs) => (match lkK kvs (.inl i) with
    | some d => .ok d A
    | none => .bad)
  | _ => .bad := by
  unfold ixD
  simp only [dctD, itemsD, seqL, keyD, Option.bind]
  cases A[n]? with
  | none => rfl
  | some o => cases o <;> rfl
theorem ix_strU {z : Str} : ixD (.ref n) (.str z) A = match A[n]? with
  | some (.dct kvs) => (match lkK kvs (.inr z) with
    | some d => .ok d A
    | none => .bad)
  | _ => .bad := by
  unfold ixD
  simp only [dctD, itemsD, seqL, keyD, Option.bind]
  cases A[n]? with
  | none => rfl
  | some o => cases o <;> rfl
@[simp] theorem ix_frz : ixD (.lst ds) (.int i) A = match atI ds i with
  | some d => .ok d A
  | none => .bad := rfl
@[simp] theorem ix_tupU : ixD (.tup ds) (.int i) A = match atI ds i with
  | some d => .ok d A
  | none => .bad := rfl
@[simp] theorem ix_scrU {ns : List Int} : ixD (.scr ns) (.int i) A = match atI (ns.map D.int) i with
  | some d => .ok d A
  | none => .bad := rfl
theorem st_int : stSub (.ref n) (.int i) d A = match A[n]? with
  | some (.lst ds) => (match ixN ds.length i with
    | some j => some (A.set n (.lst (ds.set j d)))
    | none => none)
  | some (.dct kvs) => if kvs.length < 16777216 then some (A.set n (.dct (ptK kvs (.inl i) d))) else none
  | _ => none := by
  unfold stSub
  dsimp only [keyD]
  all_goals
    generalize A[n]? = w
    cases w with
    | none => rfl
    | some o => cases o <;> rfl
theorem st_str {z : Str} : stSub (.ref n) (.str z) d A = match A[n]? with
  | some (.dct kvs) => if kvs.length < 16777216 then some (A.set n (.dct (ptK kvs (.inr z) d))) else none
  | _ => none := by
  unfold stSub
  dsimp only [keyD]
  all_goals
    generalize A[n]? = w
    cases w with
    | none => rfl
    | some o => cases o <;> rfl
theorem len_ref : lenD [.ref n] A = match A[n]? with
  | some (.lst ds) => .ok (.int ds.length) A
  | some (.dct kvs) => .ok (.int kvs.length) A
  | _ => .bad := by
  simp only [lenD, dctD, itemsD, seqL]
  cases A[n]? with
  | none => rfl
  | some o => cases o <;> rfl
@[simp] theorem at0 : atI (p :: xs) 0 = some p := by
  unfold atI ixN
  simp
theorem atI_nat (j : Nat) : atI xs (j : Int) = xs[j]? := by
  unfold atI ixN
  rw [if_pos (by omega)]
  by_cases h : j < xs.length
  · rw [if_pos (by omega)]
    simp
  · rw [if_neg (by omega), List.getElem?_eq_none_iff.mpr (by omega)]
    rfl
@[simp] theorem at1 : atI (p :: q :: xs) 1 = some q := atI_nat 1
@[simp] theorem at2 : atI (p :: q :: r :: xs) 2 = some r := atI_nat 2
@[simp] theorem at3 : atI (p :: q :: r :: s :: xs) 3 = some s := atI_nat 3
theorem atI_pos (h : 0 ≤ i) : atI xs i = xs[i.toNat]? := by
  have := atI_nat (xs := xs) i.toNat
  rwa [Int.toNat_of_nonneg h] at this
end
def b_taken : MS :=
  (mSeq (mIfS (mTb (mBin gtD (mBin ixD (mv 0) (mc (.int (3)))) (mc (.int (0))))) (mSeq (mAsg (mBin modD (mBin ixD (mv 0) (mc (.int (3)))) (mv 1)) (gmN 2))
  (mSeq (mSubS (mv 0) (mc (.int (3))) (mBin fdivD (mBin ixD (mv 0) (mc (.int (3)))) (mv 1)))
  (mRet (mv 2)))) mNx)
  (mSeq (mSubS (mv 0) (mc (.int (1))) (mBin addD (mBin ixD (mv 0) (mc (.int (1)))) (mc (.int (1)))))
  (mSeq (mIfS (mTb (mBin gtD (mBin ixD (mv 0) (mc (.int (1)))) (mCall lenD (mCons (mBin ixD (mv 0) (mc (.int (0)))) mNil)))) (mSeq (mSubS (mv 0) (mc (.int (2))) (mBin modD (mBin addD (mBin mulD (mBin ixD (mv 0) (mc (.int (2)))) (mc (.int (48271)))) (mc (.int (11)))) (mc (.int (2147483647)))))
  (mRet (mBin modD (mBin fdivD (mBin ixD (mv 0) (mc (.int (2)))) (mc (.int (7)))) (mv 1)))) mNx)
  (mSeq (mAsg (mBin ixD (mBin ixD (mv 0) (mc (.int (0)))) (mBin subD (mBin ixD (mv 0) (mc (.int (1)))) (mc (.int (1))))) (gmN 3))
  (mSeq (mSubS (mv 0) (mc (.int (2))) (mBin modD (mBin addD (mBin addD (mBin mulD (mBin ixD (mv 0) (mc (.int (2)))) (mc (.int (48271)))) (mv 3)) (mc (.int (11)))) (mc (.int (2147483647)))))
  (mSeq (mIfS (mTb (mBin geD (mv 3) (mBin powD (mc (.int (10))) (mc (.int (18)))))) (mSubS (mv 0) (mc (.int (3))) (mBin fdivD (mv 3) (mv 1))) mNx)
  (mRet (mBin modD (mv 3) (mv 1)))))))))
def m_taken : List D → AH → R D := mFun 2 4 b_taken
def rowO (ns : List Int) (a b c : Int) : AO := .lst [.scr ns, .int a, .int b, .int c]
theorem taken_ok {A : AH} {r : Nat} {ns : List Int} {a b c many : Int} (hA : A[r]? = some (rowO ns a b c)) (ha : 0 ≤ a) (hm : 0 < many) (hm2 : many < 1073741824) :
    ∃ v a' b' c', m_taken [.ref r, .int many] A = .ok (.int v) (A.set r (rowO ns a' b' c')) ∧ 0 ≤ v ∧ v < many ∧ 0 ≤ a' := by
  have hr : r < A.length := (List.getElem?_eq_some_iff.mp hA).1
  have hA' : A[r]? = some (.lst [.scr ns, .int a, .int b, .int c]) := hA
  have vm : ∀ z : Int, 0 ≤ z % many ∧ z % many < many := fun z => ⟨Int.emod_nonneg _ (by omega), Int.emod_lt_of_pos _ hm⟩
  have p18 : powD (.int 10) (.int 18) = fun A => .ok (.int 1000000000000000000) A := by
    funext A
    unfold powD
    simp
  have e0 : m_taken [.ref r, .int many] A = finS (b_taken [some (.ref r), some (.int many), none, none] A) := rfl
  rw [e0]
  have hs : ∀ x, (A.set r x)[r]? = some x := fun x => List.getElem?_set_self hr
  by_cases h3 : 0 < c
  · refine ⟨c % many, a, b, c / many, ?_, (vm c).1, (vm c).2, ha⟩
    simp [b_taken, len_ref, ix_int, st_int, hA', h3, o_mod hm, o_fdiv hm hm2, ixN, rowO]
  · by_cases h1 : (ns.length : Int) < a + 1
    · refine ⟨(b * 48271 + 11) % 2147483647 / 7 % many, a + 1, (b * 48271 + 11) % 2147483647, c, ?_, (vm _).1, (vm _).2, by omega⟩
      simp [b_taken, len_ref, ix_int, st_int, hA', h3, o_mod hm, o_fdiv, o_mod, o_mulR, ixN, rowO, hs, h1]
    · have hx : ∃ z, ns[a.toNat]? = some z := ⟨_, List.getElem?_eq_getElem (by omega)⟩
      obtain ⟨z, hz⟩ := hx
      have hz2 : atI (ns.map D.int) a = some (.int z) := by
        rw [atI_pos ha, List.getElem?_map, hz]
        rfl
      by_cases h18 : 1000000000000000000 ≤ z
      · refine ⟨z % many, a + 1, (b * 48271 + z + 11) % 2147483647, z / many, ?_, (vm _).1, (vm _).2, by omega⟩
        simp [b_taken, len_ref, ix_int, st_int, hA', h3, o_mod hm, o_fdiv hm hm2, o_mod, o_mulR, ixN, rowO, hs, h1, hz2, p18, h18]
      · refine ⟨z % many, a + 1, (b * 48271 + z + 11) % 2147483647, c, ?_, (vm _).1, (vm _).2, by omega⟩
        simp [b_taken, len_ref, ix_int, st_int, hA', h3, o_mod hm, o_fdiv hm hm2, o_mod, o_mulR, ixN, rowO, hs, h1, hz2, p18, h18]
end Tg

set_option Elab.async false
set_option linter.all false
set_option maxRecDepth 100000
set_option maxHeartbeats 2000000
/-! TgRun: more simp rules that run mirrors: heaps told at their end, fields, methods, texts. -/
namespace Tg
open PySem L2
theorem ofS_ne {a b : String} (h : a ≠ b) : Str.ofString a ≠ Str.ofString b := fun e => h (ofString_inj.mp e)
@[simp] theorem ofS_eq {a b : String} : (Str.ofString a = Str.ofString b) = (a = b) := propext ofString_inj
@[simp] theorem ofS_beq {a b : String} : (Str.ofString a == Str.ofString b) = decide (a = b) := by
  by_cases h : a = b
  · subst h
    simp
  · rw [decide_eq_false h]
    exact beq_eq_false_iff_ne.mpr (ofS_ne h)
section
variable {A0 A l : AH} {k n : Nat} {x d : D} {o : AO} {ds es : List D} {s : Sl} {ma : MA} {a : ME} {c m f : Str} {g : List D → AH → R D}
@[simp] theorem h_get : (A0 ++ l)[A0.length + k]? = l[k]? := by
  rw [List.getElem?_append_right (Nat.le_add_right _ _), Nat.add_sub_cancel_left]
@[simp] theorem h_get0 : (A0 ++ l)[A0.length]? = l[0]? := by
  rw [List.getElem?_append_right (Nat.le_refl _), Nat.sub_self]
@[simp] theorem h_set : (A0 ++ l).set (A0.length + k) o = A0 ++ l.set k o := by
  rw [List.set_append_right _ _ (Nat.le_add_right _ _), Nat.add_sub_cancel_left]
@[simp] theorem h_set0 : (A0 ++ l).set A0.length o = A0 ++ l.set 0 o := by
  rw [List.set_append_right _ _ (Nat.le_refl _), Nat.sub_self]
theorem fld_ref {cs : List Str} : fldD cs f (.ref n) A = match A[n]? with
  | some (.ins c fs) => (if c ∈ cs then (match fs.lookup f with
    | some d => .ok d A
    | none => .bad) else .bad)
  | _ => .bad := rfl
theorem sfld_ref {cs : List Str} : stFld cs f (.ref n) d A = match A[n]? with
  | some (.ins c fs) => if c ∈ cs ∧ fs.length < 1000 then some (A.set n (.ins c (putFD f d fs))) else none
  | _ => none := rfl
theorem app_ref : appD (.ref n) [d] A = match A[n]? with
  | some (.lst es) => if es.length < 16777216 then .ok .non (A.set n (.lst (es ++ [d]))) else .bad
  | _ => .bad := rfl
@[simp] theorem ty_list : tyMD A "list" d = (seqL A d).isSome := rfl
@[simp] theorem ty_dict : tyMD A "dict" d = (dctD A d).isSome := rfl
theorem seq_ref : seqL A (.ref n) = match A[n]? with
  | some (.lst ds) => some ds
  | _ => none := rfl
theorem dct_ref : dctD A (.ref n) = match A[n]? with
  | some (.dct kvs) => some kvs
  | _ => none := rfl
theorem in_flat {z : D} (h1 : flatD z = true) (h2 : ds.all flatD = true) : inD z (.tup ds) A = .ok (.bl (ds.any fun y => feq y z)) A := by
  have : inB z (.tup ds) A = some (ds.any fun y => feq y z) := by
    cases z <;> first
      | (cases (show false = true from h1))
      | (simp only [inB, dctD, itemsD, h2, flatD, Bool.and_true, if_true])
  unfold inD
  rw [this]
theorem nin_flat {z : D} (h1 : flatD z = true) (h2 : ds.all flatD = true) : ninD z (.tup ds) A = .ok (.bl (!(ds.any fun y => feq y z))) A := by
  have : inB z (.tup ds) A = some (ds.any fun y => feq y z) := by
    cases z <;> first
      | (cases (show false = true from h1))
      | (simp only [inB, dctD, itemsD, h2, flatD, Bool.and_true, if_true])
  unfold ninD
  rw [this]
@[simp] theorem flat_str {z : Str} : flatD (.str z) = true := rfl
@[simp] theorem flat_int {i : Int} : flatD (.int i) = true := rfl
@[simp] theorem feq_str {y z : Str} : feq (.str y) (.str z) = (y == z) := rfl
@[simp] theorem feq_int {y z : Int} : feq (.int y) (.int z) = (y == z) := rfl
theorem in_str {z : Str} (h2 : ds.all flatD = true) : inD (.str z) (.tup ds) A = .ok (.bl (ds.any fun y => feq y (.str z))) A := in_flat rfl h2
theorem nin_str {z : Str} (h2 : ds.all flatD = true) : ninD (.str z) (.tup ds) A = .ok (.bl (!(ds.any fun y => feq y (.str z)))) A := nin_flat rfl h2
end
/-! ### loops -/
section
variable {c : MT} {b : MS} {g : MG} {tt : MT} {te : ME} {mi : Sl → AH → R IT} {vs : List Nat} {f : Nat} {s s2 : Sl} {A A1 A2 : AH} {ds : List D}
theorem wh_true (h : c s A = .ok true A1) (h2 : b s A1 = .nx s2 A2) : whG c b (f + 1) s A = whG c b f s2 A2 := by
  conv => lhs; unfold whG
  rw [h]
  simp only [R.thenS_ok, if_true, h2]
theorem wh_false (h : c s A = .ok false A1) : whG c b (f + 1) s A = .nx s A1 := by
  conv => lhs; unfold whG
  rw [h]
  simp
theorem mLc_of {fin : List D → AH → R D} {it : List D} (h0 : mi s A = .ok (.data it) A1) (hl : it.length < 16777216) : mLc mi g tt te vs fin s A = (lcL g tt te (wpD s vs) it A1).bind fin := by
  unfold mLc
  rw [h0]
  show (if it.length < 16777216 then (lcG g tt te (.data it) (wpD s vs) (it.length + 1) 0 A1).bind fin else .bad) = _
  rw [if_pos hl, lcG_data g tt te it (wpD s vs) _ _ _ (Nat.zero_add _), if_neg (Nat.succ_ne_zero _), List.drop_zero]
theorem lcL_pure {w : Sl} (p : D → Bool) (q : D → D) : ∀ {ds : List D}, (∀ d ∈ ds, ∃ s1, g d w = some s1 ∧ tt s1 A = .ok (p d) A ∧ (p d = true → te s1 A = .ok (q d) A)) → lcL g tt te w ds A = .ok ((ds.filter p).map q) A
  | [], _ => rfl
  | d :: ds, h => by
    obtain ⟨s1, h1, h2, h3⟩ := h d List.mem_cons_self
    have ih := lcL_pure (ds := ds) p q fun e he => h e (List.mem_cons_of_mem _ he)
    unfold lcL
    simp only [h1, h2, R.bindN_ok]
    cases hp : p d with
    | true =>
      simp only [if_true, h3 hp, R.bindN_ok, ih, R.bind_ok, List.filter_cons, hp, List.map_cons]
    | false =>
      simp [ih, List.filter_cons, hp]
theorem lc_pure (p : D → Bool) (q : D → D) (h0 : mi s A = .ok (.data ds) A) (hl : ds.length < 16777216) (h : ∀ d ∈ ds, ∃ s1, g d (wpD s vs) = some s1 ∧ tt s1 A = .ok (p d) A ∧ (p d = true → te s1 A = .ok (q d) A)) :
    mLc mi g tt te vs finF s A = .ok (.lst ((ds.filter p).map q)) A := by
  rw [mLc_of h0 hl, lcL_pure p q h]
  rfl
theorem lcL_gen {w : Sl} (I : AH → Prop) (P : D → Prop) : ∀ {ds : List D} {A : AH}, I A → (∀ d ∈ ds, ∀ A, I A → ∃ s1 v A2, g d w = some s1 ∧ tt s1 A = .ok true A ∧ te s1 A = .ok v A2 ∧ I A2 ∧ P v) →
    ∃ ys A', lcL g tt te w ds A = .ok ys A' ∧ I A' ∧ ys.length = ds.length ∧ ∀ y ∈ ys, P y
  | [], A, hI, _ => ⟨[], A, rfl, hI, rfl, fun _ h => nomatch h⟩
  | d :: ds, A, hI, h => by
    obtain ⟨s1, v, A2, h1, h2, h3, h4, h5⟩ := h d List.mem_cons_self A hI
    obtain ⟨ys, A', e1, e2, e3, e4⟩ := lcL_gen (ds := ds) I P h4 fun e he => h e (List.mem_cons_of_mem _ he)
    refine ⟨v :: ys, A', ?_, e2, by rw [List.length_cons, List.length_cons, e3], fun y hy => ?_⟩
    · unfold lcL
      simp only [h1, h2, R.bindN_ok, if_true, h3, e1, R.bind_ok]
    · rcases List.mem_cons.mp hy with rfl | hy
      · exact h5
      · exact e4 y hy
theorem lc_gen (I : AH → Prop) (P : D → Prop) (h0 : mi s A = .ok (.data ds) A1) (hl : ds.length < 16777216) (hI : I A1) (h : ∀ d ∈ ds, ∀ A, I A → ∃ s1 v A2, g d (wpD s vs) = some s1 ∧ tt s1 A = .ok true A ∧ te s1 A = .ok v A2 ∧ I A2 ∧ P v) :
    ∃ ys A', mLc mi g tt te vs finF s A = .ok (.lst ys) A' ∧ I A' ∧ ys.length = ds.length ∧ ∀ y ∈ ys, P y := by
  obtain ⟨ys, A', e1, e2⟩ := lcL_gen (w := wpD s vs) I P hI h
  refine ⟨ys, A', ?_, e2⟩
  rw [mLc_of h0 hl, e1]
  rfl
theorem forL_inv (I : Sl → AH → Prop) : ∀ {ds : List D} {s : Sl} {A : AH}, I s A → (∀ d ∈ ds, ∀ s A, I s A → ∃ s1 s2 A2, g d s = some s1 ∧ b s1 A = .nx s2 A2 ∧ I s2 A2) → ∃ s' A', forL g b ds s A = .nx s' A' ∧ I s' A'
  | [], s, A, hI, _ => ⟨s, A, rfl, hI⟩
  | d :: ds, s, A, hI, h => by
    obtain ⟨s1, s2, A2, h1, h2, h3⟩ := h d List.mem_cons_self s A hI
    obtain ⟨s', A', e1, e2⟩ := forL_inv (ds := ds) I h3 fun e he => h e (List.mem_cons_of_mem _ he)
    refine ⟨s', A', ?_, e2⟩
    unfold forL
    simp only [h1, h2, e1]
end
theorem rngX {ma : MA} {j : Int} {s : Sl} {A A1 : AH} (h : ma s A = .ok [.int j] A1) (h1 : -(2 ^ 62) ≤ j ∧ j < 2 ^ 62) : mRng1 ma s A = .ok (.data (rngL 0 1 j.toNat)) A1 := by
  unfold mRng1
  rw [h]
  simp only [R.bind_ok]
  rw [if_pos h1]
theorem rngY {j : Nat} : rngL 0 1 (j : Int).toNat = (List.range j).map fun i : Nat => D.int (i : Int) := by
  unfold rngL
  rw [Int.toNat_natCast]
  simp only [Int.mul_one, Int.zero_add]
theorem rngZ {j : Nat} (h : j < 16777216) : -(2 ^ 62) ≤ (j : Int) ∧ (j : Int) < 2 ^ 62 := ⟨by omega, by omega⟩
theorem rng1 {ma : MA} {j : Nat} {s : Sl} {A A1 : AH} (h : ma s A = .ok [.int (j : Int)] A1) (hj : j < 16777216) : mRng1 ma s A = .ok (.data ((List.range j).map fun i : Nat => D.int (i : Int))) A1 := by
  rw [← rngY]
  exact rngX h (rngZ hj)
/-! ### comprehensions by frames -/
def kFin (fin : List D → AH → R D) (r : R (List D)) : R D := r.bind fin
@[simp] theorem kFin_0 (fin : List D → AH → R D) (ds : List D) (A : AH) : kFin fin (.ok ds A) = fin ds A := rfl
def kL3 (y : D) (r : R (List D)) : R (List D) := r.bind fun ys A3 => .ok (y :: ys) A3
@[simp] theorem kL3_0 (y : D) (ys : List D) (A : AH) : kL3 y (.ok ys A) = .ok (y :: ys) A := rfl
def kL2 (g : MG) (tt : MT) (te : ME) (w : Sl) (ds : List D) (r : R D) : R (List D) := r.bindN fun y A2 => kL3 y (lcL g tt te w ds A2)
@[simp] theorem kL2_0 (g : MG) (tt : MT) (te : ME) (w : Sl) (ds : List D) (y : D) (A : AH) : kL2 g tt te w ds (.ok y A) = kL3 y (lcL g tt te w ds A) := rfl
def kL1 (g : MG) (tt : MT) (te : ME) (w : Sl) (ds : List D) (s1 : Sl) (r : R Bool) : R (List D) := r.bindN fun k A1 => if k then kL2 g tt te w ds (te s1 A1) else lcL g tt te w ds A1
@[simp] theorem kL1_0 (g : MG) (tt : MT) (te : ME) (w : Sl) (ds : List D) (s1 : Sl) (A : AH) : kL1 g tt te w ds s1 (.ok true A) = kL2 g tt te w ds (te s1 A) := rfl
@[simp] theorem kL1_1 (g : MG) (tt : MT) (te : ME) (w : Sl) (ds : List D) (s1 : Sl) (A : AH) : kL1 g tt te w ds s1 (.ok false A) = lcL g tt te w ds A := rfl
@[simp] theorem lcL_nil (g : MG) (tt : MT) (te : ME) (w : Sl) (A : AH) : lcL g tt te w [] A = .ok [] A := rfl
@[simp] theorem lcL_cons (i : Nat) (tt : MT) (te : ME) (w : Sl) (d : D) (ds : List D) (A : AH) : lcL (gmN i) tt te w (d :: ds) A = kL1 (gmN i) tt te w ds (w.set i (some d)) (tt (w.set i (some d)) A) := rfl
def kLc (g : MG) (tt : MT) (te : ME) (vs : List Nat) (fin : List D → AH → R D) (s : Sl) (r : R IT) : R D := r.bind fun it A1 => if itLen it A1 < 16777216 then (lcG g tt te it (wpD s vs) (itLen it A1 + 1) 0 A1).bind fin else .bad
@[simp] theorem e_lc {mi : Sl → AH → R IT} {g : MG} {tt : MT} {te : ME} {vs : List Nat} {fin : List D → AH → R D} {s : Sl} {A : AH} : mLc mi g tt te vs fin s A = kLc g tt te vs fin s (mi s A) := rfl
@[simp] theorem kLc_0 (g : MG) (tt : MT) (te : ME) (vs : List Nat) (fin : List D → AH → R D) (s : Sl) (it : List D) (A : AH) : kLc g tt te vs fin s (.ok (.data it) A) = if it.length < 16777216 then kFin fin (lcL g tt te (wpD s vs) it A) else .bad := by
  show (if it.length < 16777216 then (lcG g tt te (.data it) (wpD s vs) (it.length + 1) 0 A).bind fin else .bad) = _
  rw [lcG_data g tt te it (wpD s vs) _ _ _ (Nat.zero_add _), if_neg (Nat.succ_ne_zero _), List.drop_zero]
  rfl
@[simp] theorem finF_0 (ds : List D) (A : AH) : finF ds A = .ok (.lst ds) A := rfl
@[simp] theorem wp_nil (s : Sl) : wpD s [] = s := rfl
@[simp] theorem wp_cons (s : Sl) (v : Nat) (vs : List Nat) : wpD s (v :: vs) = (wpD s vs).set v none := rfl
def kR1 (r : R (List D)) : R IT := r.bind fun ds A1 => match ds with
  | [.int j] => if -(2 ^ 62) ≤ j ∧ j < 2 ^ 62 then .ok (.data (rngL 0 1 j.toNat)) A1 else .bad
  | _ => .bad
@[simp] theorem e_rng1 {ma : MA} {s : Sl} {A : AH} : mRng1 ma s A = kR1 (ma s A) := rfl
theorem kR1_nat (j : Nat) (A : AH) (h : j < 16777216) : kR1 (.ok [.int (j : Int)] A) = .ok (.data ((List.range j).map fun i : Nat => D.int (i : Int))) A := by
  have := rng1 (ma := fun _ A => .ok [.int (j : Int)] A) (s := []) (A := A) (A1 := A) rfl h
  exact this
theorem kR1_0 (A : AH) : kR1 (.ok [.int 0] A) = .ok (.data []) A := kR1_nat 0 A (by decide)
theorem kR1_1 (A : AH) : kR1 (.ok [.int 1] A) = .ok (.data [.int 0]) A := kR1_nat 1 A (by decide)
theorem kR1_2 (A : AH) : kR1 (.ok [.int 2] A) = .ok (.data [.int 0, .int 1]) A := kR1_nat 2 A (by decide)
theorem kR1_3 (A : AH) : kR1 (.ok [.int 3] A) = .ok (.data [.int 0, .int 1, .int 2]) A := kR1_nat 3 A (by decide)
def kIt (r : R D) : R IT := r.bind itOf
@[simp] theorem e_any {m : ME} {s : Sl} {A : AH} : miAny m s A = kIt (m s A) := rfl
@[simp] theorem kIt_tup (ds : List D) (A : AH) : kIt (.ok (.tup ds) A) = .ok (.data ds) A := rfl
@[simp] theorem kIt_lst (ds : List D) (A : AH) : kIt (.ok (.lst ds) A) = .ok (.data ds) A := rfl
theorem ix_ofS {z : Str} {i : Int} {c : Nat} {A : AH} (h : z.length ≤ 16777216) (h2 : atI z.cps.toList i = some c) : ixD (.str z) (.int i) A = .ok (.str ⟨#[c]⟩) A := by
  show (match (if z.length ≤ 16777216 then atI z.cps.toList i else none) with
    | some c => R.ok (D.str ⟨#[c]⟩) A
    | none => .bad) = _
  rw [if_pos h, h2]
/-! ### == of flat tuples and lists -/
def okF : D → Bool
  | .int _ => true
  | .str z => PyData.strOk z
  | _ => false
def pyF : D → PyData
  | .int i => .int i
  | .str z => .str z
  | _ => .none
def feqs : List D → List D → Bool
  | [], [] => true
  | x :: xs, y :: ys => feq x y && feqs xs ys
  | _, _ => false
theorem pys_flat {n : Nat} {A : AH} : ∀ {ds : List D}, ds.all okF = true → pysOf (pyOf (n + 1) A) ds = some (ds.map pyF) ∧ PyData.canLayAll0 (ds.map pyF) = true ∧ PyData.depthAll (ds.map pyF) = 0
  | [], _ => ⟨rfl, by simp [PyData.canLayAll0], by simp [PyData.depthAll]⟩
  | d :: ds, h => by
    simp only [List.all_cons, Bool.and_eq_true] at h
    obtain ⟨i1, i2, i3⟩ := pys_flat (n := n) (A := A) h.2
    unfold pysOf
    cases d with
    | int i => exact ⟨by rw [i1]; rfl, by simp [PyData.canLayAll0, PyData.canLay0, pyF, i2], by simp [PyData.depthAll, PyData.depth, pyF, i3]⟩
    | str z =>
      have hz : PyData.strOk z = true := h.1
      exact ⟨by rw [i1]; rfl, by simp [PyData.canLayAll0, PyData.canLay0, pyF, i2, hz], by simp [PyData.depthAll, PyData.depth, pyF, i3]⟩
    | _ => cases (show false = true from h.1)
theorem eqv_flat : ∀ {ds es : List D}, ds.all okF = true → es.all okF = true → PyData.eqvAll (ds.map pyF) (es.map pyF) = feqs ds es
  | [], [], _, _ => by simp [PyData.eqvAll, feqs]
  | [], _ :: _, _, _ => by simp [PyData.eqvAll, feqs]
  | _ :: _, [], _, _ => by simp [PyData.eqvAll, feqs]
  | d :: ds, e :: es, h1, h2 => by
    simp only [List.all_cons, Bool.and_eq_true] at h1 h2
    have ih := eqv_flat h1.2 h2.2
    simp only [List.map_cons, PyData.eqvAll, feqs, ih]
    cases d <;> first
      | (cases (show false = true from h1.1))
      | (cases e <;> first
          | (cases (show false = true from h2.1))
          | (simp [PyData.eqv, pyF, feq]))
theorem shaped_tup {ds : List D} (h : PyData.canLayAll0 (ds.map pyF) = true) (h2 : PyData.depthAll (ds.map pyF) = 0) : SeqAt.shaped (.tuple (ds.map pyF)) = true := by
  simp [SeqAt.shaped, PyData.canLay0, PyData.depth, h, h2]
theorem shaped_lst {ds : List D} (h : PyData.canLayAll0 (ds.map pyF) = true) (h2 : PyData.depthAll (ds.map pyF) = 0) : SeqAt.shaped (.list (ds.map pyF)) = true := by
  simp [SeqAt.shaped, PyData.canLay0, PyData.depth, h, h2]
theorem eq_tupF {ds es : List D} {A : AH} (h : (ds.all okF && es.all okF) = true) : eqD (.tup ds) (.tup es) A = .ok (.bl (feqs ds es)) A := by
  obtain ⟨h1, h2⟩ := Bool.and_eq_true_iff.mp h
  obtain ⟨a1, a2, a3⟩ := pys_flat (n := 10) (A := A) h1
  obtain ⟨b1, b2, b3⟩ := pys_flat (n := 10) (A := A) h2
  have e1 : pyOf 12 A (.tup ds) = some (.tuple (ds.map pyF)) := by
    show (pysOf (pyOf 11 A) ds).map PyData.tuple = _
    rw [a1]
    rfl
  have e2 : pyOf 12 A (.tup es) = some (.tuple (es.map pyF)) := by
    show (pysOf (pyOf 11 A) es).map PyData.tuple = _
    rw [b1]
    rfl
  unfold eqD
  rw [e1, e2, show scEq (.tup ds) (.tup es) = none from rfl]
  simp only [shaped_tup a2 a3, shaped_tup b2 b3, Bool.and_self, if_true, PyData.eqv, eqv_flat h1 h2]
theorem eq_lstF {ds es : List D} {A : AH} (h : (ds.all okF && es.all okF) = true) : eqD (.lst ds) (.lst es) A = .ok (.bl (feqs ds es)) A := by
  obtain ⟨h1, h2⟩ := Bool.and_eq_true_iff.mp h
  obtain ⟨a1, a2, a3⟩ := pys_flat (n := 10) (A := A) h1
  obtain ⟨b1, b2, b3⟩ := pys_flat (n := 10) (A := A) h2
  have e1 : pyOf 12 A (.lst ds) = some (.list (ds.map pyF)) := by
    show (pysOf (pyOf 11 A) ds).map PyData.list = _
    rw [a1]
    rfl
  have e2 : pyOf 12 A (.lst es) = some (.list (es.map pyF)) := by
    show (pysOf (pyOf 11 A) es).map PyData.list = _
    rw [b1]
    rfl
  unfold eqD
  rw [e1, e2, show scEq (.lst ds) (.lst es) = none from rfl]
  simp only [shaped_lst a2 a3, shaped_lst b2 b3, Bool.and_self, if_true, PyData.eqv, eqv_flat h1 h2]
theorem ne_lstF {ds es : List D} {A : AH} (h : (ds.all okF && es.all okF) = true) : neD (.lst ds) (.lst es) A = .ok (.bl (!(feqs ds es))) A := by
  obtain ⟨h1, h2⟩ := Bool.and_eq_true_iff.mp h
  obtain ⟨a1, a2, a3⟩ := pys_flat (n := 10) (A := A) h1
  obtain ⟨b1, b2, b3⟩ := pys_flat (n := 10) (A := A) h2
  have e1 : pyOf 12 A (.lst ds) = some (.list (ds.map pyF)) := by
    show (pysOf (pyOf 11 A) ds).map PyData.list = _
    rw [a1]
    rfl
  have e2 : pyOf 12 A (.lst es) = some (.list (es.map pyF)) := by
    show (pysOf (pyOf 11 A) es).map PyData.list = _
    rw [b1]
    rfl
  unfold neD
  rw [e1, e2, show scEq (.lst ds) (.lst es) = none from rfl]
  simp only [shaped_lst a2 a3, shaped_lst b2 b3, Bool.and_self, if_true, PyData.eqv, eqv_flat h1 h2]
theorem feqs_ints (ns : List Int) : feqs (ns.map .int) (ns.map .int) = true := by
  induction ns with
  | nil => rfl
  | cons n ns ih => simp [feqs, ih]
theorem ok_ints (ns : List Int) : (ns.map D.int).all okF = true := by
  induction ns with
  | nil => rfl
  | cons n ns ih => simp [okF] at ih ⊢
theorem pys_tups {A : AH} : ∀ {dss : List (List D)}, (∀ ds ∈ dss, ds.all okF = true) → ∃ ps, pysOf (pyOf 11 A) (dss.map D.tup) = some ps ∧ PyData.canLayAll0 ps = true ∧ PyData.depthAll ps ≤ 1 ∧ ps.length = dss.length
  | [], _ => ⟨[], rfl, by simp [PyData.canLayAll0], by simp [PyData.depthAll], rfl⟩
  | ds :: dss, h => by
    obtain ⟨a1, a2, a3⟩ := pys_flat (n := 9) (A := A) (h ds List.mem_cons_self)
    obtain ⟨ps, b1, b2, b3, b4⟩ := pys_tups (A := A) (dss := dss) fun e he => h e (List.mem_cons_of_mem _ he)
    have e : pyOf 11 A (.tup ds) = some (.tuple (ds.map pyF)) := by
      show (pysOf (pyOf 10 A) ds).map PyData.tuple = _
      rw [a1]
      rfl
    refine ⟨.tuple (ds.map pyF) :: ps, ?_, by simp [PyData.canLayAll0, PyData.canLay0, a2, b2], ?_, by simp [b4]⟩
    · rw [List.map_cons]
      unfold pysOf
      rw [e, b1]
    · simp only [PyData.depthAll, PyData.depth, a3]
      omega
theorem eq_tups_nil {A : AH} {dss : List (List D)} (h : ∀ ds ∈ dss, ds.all okF = true) (h0 : dss ≠ []) : eqD (.tup (dss.map D.tup)) (.tup []) A = .ok (.bl false) A := by
  obtain ⟨ps, b1, b2, b3, b4⟩ := pys_tups (A := A) h
  have e1 : pyOf 12 A (.tup (dss.map D.tup)) = some (.tuple ps) := by
    show (pysOf (pyOf 11 A) (dss.map D.tup)).map PyData.tuple = _
    rw [b1]
    rfl
  have e2 : pyOf 12 A (.tup []) = some (.tuple []) := rfl
  unfold eqD
  rw [e1, e2, show scEq (.tup (dss.map D.tup)) (.tup []) = none from rfl]
  have s1 : SeqAt.shaped (.tuple ps) = true := by
    have hd : PyData.depth (.tuple ps) ≤ 64 := by
      simp only [PyData.depth]
      omega
    unfold SeqAt.shaped
    rw [decide_eq_true hd]
    simp [PyData.canLay0, b2]
  have s2 : SeqAt.shaped (.tuple []) = true := by simp [SeqAt.shaped, PyData.canLay0, PyData.depth, PyData.canLayAll0, PyData.depthAll]
  have s3 : PyData.eqv (.tuple ps) (.tuple []) = false := by
    cases ps with
    | nil =>
      cases dss with
      | nil => exact absurd rfl h0
      | cons _ _ => cases b4
    | cons p ps => simp [PyData.eqv, PyData.eqvAll]
  simp only [s1, s2, s3, Bool.and_self, if_true]
end Tg

set_option Elab.async false
set_option linter.all false
set_option maxRecDepth 100000
set_option maxHeartbeats 2000000
/-! TgLaw: what the laws share: drawing, likeness. -/
namespace Tg
open PySem L2
@[simp] theorem isi_int {T : String} {i : Int} {A : AH} : isiD T (.int i) A = .ok (.bl (subTy "int" T)) A := rfl
@[simp] theorem isi_str {T : String} {i : Str} {A : AH} : isiD T (.str i) A = .ok (.bl (subTy "str" T)) A := rfl
@[simp] theorem isi_tup {T : String} {i : List D} {A : AH} : isiD T (.tup i) A = .ok (.bl (subTy "tuple" T)) A := rfl
@[simp] theorem isi_lst {T : String} {i : List D} {A : AH} : isiD T (.lst i) A = .ok (.bl (subTy "list" T)) A := rfl
@[simp] theorem isi_non {T : String} {A : AH} : isiD T .non A = .ok (.bl (subTy "NoneType" T)) A := rfl
@[simp] theorem isi_bl {T : String} {b : Bool} {A : AH} : isiD T (.bl b) A = .ok (.bl (subTy "bool" T)) A := rfl
@[simp] theorem o_neB {a b : Bool} {A : AH} : neD (.bl a) (.bl b) A = .ok (.bl (!(a == b))) A := by cases a <;> cases b <;> rfl
@[simp] theorem o_eqB {a b : Bool} {A : AH} : eqD (.bl a) (.bl b) A = .ok (.bl (a == b)) A := by cases a <;> cases b <;> rfl
@[simp] theorem int_bl {b : Bool} {A : AH} : intD [.bl b] A = .ok (.int (if b then 1 else 0)) A := rfl
def RowAt (r : Nat) (ns : List Int) (A : AH) : Prop := ∃ a b c, A[r]? = some (rowO ns a b c) ∧ 0 ≤ a
theorem takenR {r : Nat} {ns : List Int} {A : AH} (many : Int) (h : RowAt r ns A) (hm : 0 < many ∧ many < 1073741824) : ∃ v A', m_taken [.ref r, .int many] A = .ok (.int v) A' ∧ RowAt r ns A' ∧ 0 ≤ v ∧ v < many := by
  obtain ⟨a, b, c, hA, ha⟩ := h
  obtain ⟨v, a', b', c', e, h1, h2, h3⟩ := taken_ok hA ha hm.1 hm.2
  have hr := (List.getElem?_eq_some_iff.mp hA).1
  exact ⟨v, _, e, ⟨a', b', c', List.getElem?_set_self hr, h3⟩, h1, h2⟩
/-- .. with things laid behind -/
theorem takenApp {r : Nat} {ns : List Int} {A : AH} (many : Int) (l : AH) (h : RowAt r ns A) (hm : 0 < many ∧ many < 1073741824) : ∃ (v : Nat) (A' : AH), m_taken [.ref r, .int many] (A ++ l) = .ok (.int (v : Int)) (A' ++ l) ∧ RowAt r ns A' ∧ A'.length = A.length ∧ (v : Int) < many := by
  obtain ⟨a, b, c, hA, ha⟩ := h
  have hr := (List.getElem?_eq_some_iff.mp hA).1
  obtain ⟨v, a', b', c', e, h1, h2, h3⟩ := taken_ok (A := A ++ l) (by rw [List.getElem?_append_left hr]; exact hA) ha hm.1 hm.2
  rw [List.set_append_left _ _ hr] at e
  obtain ⟨n, rfl⟩ := Int.eq_ofNat_of_zero_le h1
  exact ⟨n, _, e, ⟨a', b', c', List.getElem?_set_self hr, h3⟩, List.length_set, h2⟩
theorem RowAt.app {r : Nat} {ns : List Int} {A : AH} (h : RowAt r ns A) (l : AH) : RowAt r ns (A ++ l) := by
  obtain ⟨a, b, c, hA, ha⟩ := h
  exact ⟨a, b, c, by rw [List.getElem?_append_left (List.getElem?_eq_some_iff.mp hA).1]; exact hA, ha⟩
theorem RowAt.set {r n : Nat} {ns : List Int} {A : AH} {o : AO} (h : RowAt r ns A) (hn : n ≠ r) : RowAt r ns (A.set n o) := by
  obtain ⟨a, b, c, hA, ha⟩ := h
  exact ⟨a, b, c, by rw [List.getElem?_set_ne hn]; exact hA, ha⟩
theorem RowAt.lt {r : Nat} {ns : List Int} {A : AH} (h : RowAt r ns A) : r < A.length := by
  obtain ⟨a, b, c, hA, ha⟩ := h
  exact (List.getElem?_eq_some_iff.mp hA).1
theorem ints_of {P : Int → Prop} : ∀ {ys : List D}, (∀ y ∈ ys, ∃ v, y = .int v ∧ P v) → ∃ vs : List Int, ys = vs.map .int ∧ ∀ v ∈ vs, P v
  | [], _ => ⟨[], rfl, fun _ h => nomatch h⟩
  | y :: ys, h => by
    obtain ⟨v, rfl, hv⟩ := h y List.mem_cons_self
    obtain ⟨vs, rfl, h2⟩ := ints_of (ys := ys) fun z hz => h z (List.mem_cons_of_mem _ hz)
    refine ⟨v :: vs, rfl, fun z hz => ?_⟩
    rcases List.mem_cons.mp hz with rfl | hz
    · exact hv
    · exact h2 z hz
theorem maps_of {α : Type} {f : α → D} {P : α → Prop} : ∀ {ys : List D}, (∀ y ∈ ys, ∃ v, y = f v ∧ P v) → ∃ vs : List α, ys = vs.map f ∧ ∀ v ∈ vs, P v
  | [], _ => ⟨[], rfl, fun _ h => nomatch h⟩
  | y :: ys, h => by
    obtain ⟨v, rfl, hv⟩ := h y List.mem_cons_self
    obtain ⟨vs, rfl, h2⟩ := maps_of (ys := ys) fun z hz => h z (List.mem_cons_of_mem _ hz)
    refine ⟨v :: vs, rfl, fun z hz => ?_⟩
    rcases List.mem_cons.mp hz with rfl | hz
    · exact hv
    · exact h2 z hz
/-! ### alike -/
def aC : MT := mOr (mTb (mUn (isiD "tuple") (mv 1))) (mTb (mUn (isiD "list") (mv 1)))
def a1 : MS := mIfS (mOr (mTb (mBin neD (mUn (isiD "tuple") (mv 0)) (mUn (isiD "tuple") (mv 1)))) (mNot (mTb (mUn (isiD2 "tuple" "list") (mv 0))))) (mRet (mc (.bl false))) mNx
def a2 : MS := mIfS (mTb (mBin neD (mCall lenD (mCons (mv 0) mNil)) (mCall lenD (mCons (mv 1) mNil)))) (mRet (mc (.bl false))) mNx
def aL (g : List D → AH → R D) : ME := mLc (mRng1 (mCons (mCall lenD (mCons (mv 1) mNil)) mNil)) (gmN 2) (mNot (mTb (mCall g (mCons (mBin ixD (mv 0) (mv 2)) (mCons (mBin ixD (mv 1) (mv 2)) mNil))))) (mv 2) [2] finF
def a3 : MS := mIfS (mOr (mTb (mBin isD (mv 1) (mc .non))) (mTb (mBin isD (mv 0) (mc .non)))) (mRet (mAndV (mBin isD (mv 1) (mc .non)) (mBin isD (mv 0) (mc .non)))) mNx
def a4 : MS := mIfS (mOr (mTb (mUn (isiD "bool") (mv 1))) (mTb (mUn (isiD "bool") (mv 0)))) (mRet (mAndV (mUn (isiD "bool") (mv 1)) (mAndV (mUn (isiD "bool") (mv 0)) (mBin eqD (mv 0) (mv 1))))) mNx
def a5 : MS := mIfS (mTb (mUn (isiD "str") (mv 1))) (mRet (mAndV (mUn (isiD "str") (mv 0)) (mBin eqD (mv 0) (mv 1)))) mNx
def a6 : MS := mRet (mAndV (mUn (isiD "int") (mv 0)) (mBin eqD (mv 0) (mv 1)))
def b_alike (g : List D → AH → R D) : MS := mSeq (mIfS aC (mSeq a1 (mSeq a2 (mRet (mBin eqD (aL g) (mLst mNil))))) mNx) (mSeq a3 (mSeq a4 (mSeq a5 a6)))
def m_alike : Nat → List D → AH → R D
  | 0 => mBad
  | n + 1 => mFun 2 3 (b_alike (m_alike n))
section
variable {n : Nat} {A : AH} {x y : D} {ds es : List D} {T : String}
theorem alike_int {i : Int} : m_alike (n + 1) [.int i, .int i] A = .ok (.bl true) A := by
  have e0 : m_alike (n + 1) [.int i, .int i] A = finS (b_alike (m_alike n) [some (.int i), some (.int i), none] A) := rfl
  rw [e0]
  simp [b_alike, aC, a3, a4, a5, a6, subTy, Tg.isNon]
theorem alike_str {i : Str} : m_alike (n + 1) [.str i, .str i] A = .ok (.bl true) A := by
  have e0 : m_alike (n + 1) [.str i, .str i] A = finS (b_alike (m_alike n) [some (.str i), some (.str i), none] A) := rfl
  rw [e0]
  simp [b_alike, aC, a3, a4, a5, a6, subTy, Tg.isNon]
theorem alike_non : m_alike (n + 1) [.non, .non] A = .ok (.bl true) A := by
  have e0 : m_alike (n + 1) [.non, .non] A = finS (b_alike (m_alike n) [some .non, some .non, none] A) := rfl
  rw [e0]
  simp [b_alike, aC, a3, a4, a5, a6, subTy, Tg.isNon]
theorem alike_bl {b : Bool} : m_alike (n + 1) [.bl b, .bl b] A = .ok (.bl true) A := by
  have e0 : m_alike (n + 1) [.bl b, .bl b] A = finS (b_alike (m_alike n) [some (.bl b), some (.bl b), none] A) := rfl
  rw [e0]
  simp [b_alike, aC, a3, a4, a5, a6, subTy, Tg.isNon]
theorem alike_seq (hx : tyD A x = some T) (hy : tyD A y = some T) (hT : T = "tuple" ∨ T = "list") {k : Nat} (lx : lenD [x] A = .ok (.int k) A) (ly : lenD [y] A = .ok (.int k) A) (hk : k < 16777216)
    (hi : ∀ i : Nat, i < k → ∃ d e, ixD x (.int i) A = .ok d A ∧ ixD y (.int i) A = .ok e A ∧ m_alike n [d, e] A = .ok (.bl true) A) : m_alike (n + 1) [x, y] A = .ok (.bl true) A := by
  have e0 : m_alike (n + 1) [x, y] A = finS (b_alike (m_alike n) [some x, some y, none] A) := rfl
  have c0 : aC [some x, some y, none] A = .ok true A := by
    rcases hT with rfl | rfl <;> simp [aC, isiD, hy, subTy]
  have c1 : a1 [some x, some y, none] A = .nx [some x, some y, none] A := by
    rcases hT with rfl | rfl <;> simp [a1, isiD, isiD2, hx, hy, subTy]
  have c2 : a2 [some x, some y, none] A = .nx [some x, some y, none] A := by
    simp [a2, lx, ly]
  have c3 : aL (m_alike n) [some x, some y, none] A = .ok (.lst []) A := by
    have e : (mCons (mCall lenD (mCons (mv 1) mNil)) mNil) [some x, some y, none] A = .ok [.int (k : Int)] A := by simp [ly]
    have := lc_pure (g := gmN 2) (tt := mNot (mTb (mCall (m_alike n) (mCons (mBin ixD (mv 0) (mv 2)) (mCons (mBin ixD (mv 1) (mv 2)) mNil))))) (te := mv 2) (vs := [2]) (fun _ => false) (fun d => d) (rng1 e hk) (by rw [List.length_map, List.length_range]; exact hk) (fun d hd => by
      obtain ⟨i, hi', rfl⟩ := List.mem_map.mp hd
      obtain ⟨d, e, h1, h2, h3⟩ := hi i (List.mem_range.mp hi')
      exact ⟨_, rfl, by simp [wpD, h1, h2, h3], fun q => nomatch q⟩)
    rw [show ∀ l : List D, l.filter (fun _ => false) = [] from fun l => by simp] at this
    exact this
  have c4 : eqD (.lst []) (.lst []) A = .ok (.bl true) A := eq_lstF rfl
  have c5 : (mRet (mBin eqD (aL (m_alike n)) (mLst mNil))) [some x, some y, none] A = .rt (.bl true) A := by
    rw [e_ret, e_bin, c3, kB1_0, e_lst, e_nil]
    simp [c4]
  rw [e0]
  unfold b_alike
  rw [e_seq, e_ifS, c0, kIf_0, e_seq, c1, RS.nxt_nx, e_seq, c2, RS.nxt_nx, c5, RS.nxt_rt, finS_rt]
theorem alike_tup (hl : es.length = ds.length) (hk : ds.length < 16777216) (hi : ∀ (i : Nat) (h : i < ds.length), m_alike n [ds[i], es[i]] A = .ok (.bl true) A) : m_alike (n + 1) [.tup ds, .tup es] A = .ok (.bl true) A :=
  alike_seq (T := "tuple") rfl rfl (.inl rfl) (k := ds.length) rfl (by rw [← hl]; rfl) hk fun i h => ⟨ds[i], es[i], ix_tup (atI_ok (List.getElem?_eq_getElem h)), ix_tup (atI_ok (List.getElem?_eq_getElem (by omega))), hi i h⟩
theorem alike_ints {p q : Nat} {vs : List Int} (hp : A[p]? = some (.lst (vs.map .int))) (hq : A[q]? = some (.lst (vs.map .int))) (hk : vs.length < 16777216) : m_alike (n + 2) [.ref p, .ref q] A = .ok (.bl true) A := by
  refine alike_seq (T := "list") (by simp [tyD, hp]) (by simp [tyD, hq]) (.inr rfl) (k := vs.length) (by simp [len_ref, hp]) (by simp [len_ref, hq]) hk fun i h => ?_
  have e : (vs.map D.int)[i]? = some (.int vs[i]) := by rw [List.getElem?_map, List.getElem?_eq_getElem h]; rfl
  exact ⟨.int vs[i], .int vs[i], ix_ref hp (atI_ok e), ix_ref hq (atI_ok e), alike_int⟩
end
end Tg

set_option Elab.async false
set_option linter.all false
set_option maxRecDepth 100000
set_option maxHeartbeats 2000000
/-! TgZip: zip of a list and a text; get of a written dict. -/
namespace Tg
open PySem PySem.Spec PyProof.Rows L2
/-- a list and a text, walked side by side, the pairs new -/
def ItzS (K : PySem.W.Frag) (a : Addr) (z : Str) : It :=
  ⟨fun i H => ∃ (xs : List V) (x : V), SqL K H a xs ∧ xs[i]? = some x ∧ i < z.cps.size,
    fun i H v H' => ∃ T x c, v = .ref T ∧ H T = none ∧ H' = upd H T (.tup [x, .str ⟨#[c]⟩]) ∧ (∀ xs, SqL K H a xs → xs[i]? = some x) ∧ z.cps[i]? = some c,
    fun i H => ∃ xs : List V, SqL K H a xs ∧ (xs.length ≤ i ∨ z.cps.size ≤ i)⟩
/-- what a list's iterator draws, seen from its i-th turn on -/
theorem drawsL {P : Program} {w : World} {A : Around} (hh : A.handled = none) (it l : Addr) (hne : l ≠ it) (items : Array Value) (i : Nat) :
    ∃ (n : Nat) (Pn : Nat → Value → Prop) (St : Nat → Heap → Prop), Draws P w A it [it, l] n Pn St ∧ i ≤ n ∧ (items.size ≤ i → n = i) ∧ ∀ h : Heap, h.IsListIter it l i → h.IsList l items → St i h := by
  by_cases hi : i ≤ items.size
  · exact ⟨items.size, _, _, Draws.list hh it l hne items, hi, fun q => Nat.le_antisymm q hi, fun h a b => ⟨a, b⟩⟩
  · refine ⟨i, fun _ _ => True, fun j h => j = i ∧ h.IsListIter it l i ∧ h.IsList l items, ⟨fun j h st => ?_, fun j h h' st hk => ?_, fun j s Q E hj st _ => ?_, fun s Q E st hE => ?_⟩, Nat.le_refl _, fun _ => rfl, fun h a b => ⟨rfl, a, b⟩⟩
    · obtain ⟨_, ⟨o, ho, _⟩, _⟩ := st
      exact ⟨o, ho⟩
    · exact ⟨st.1, st.2.1.at fun o e => hk it (by simp) o e, st.2.2.at fun o e => hk l (by simp) o e⟩
    · exact absurd st.1 (Nat.ne_of_lt hj)
    · exact wpAny_nextOf_list_end hh st.2.1 st.2.2 (by simp; omega) hE
theorem drawsS {P : Program} {w : World} {A : Around} (hh : A.handled = none) (it : Addr) (z : Str) (t : Tok) (i : Nat) :
    ∃ (n : Nat) (Pn : Nat → Value → Prop) (St : Nat → Heap → Prop), Draws P w A it [it] n Pn St ∧ i ≤ n ∧ (z.cps.size ≤ i → n = i) ∧ ∀ h : Heap, h.IsStrIter it (strIterType z) z t i → St i h := by
  by_cases hi : i ≤ z.cps.size
  · exact ⟨z.cps.size, _, _, Draws.text hh it z t, hi, fun q => Nat.le_antisymm q hi, fun h a => a⟩
  · have hx : z.cps[i]? = none := Array.getElem?_eq_none (by omega)
    refine ⟨i, fun _ _ => True, fun j h => j = i ∧ h.IsStrIter it (strIterType z) z t i, ⟨fun j h st => ?_, fun j h h' st hk => ?_, fun j s Q E hj st _ => ?_, fun s Q E st hE => ?_⟩, Nat.le_refl _, fun _ => rfl, fun h a => ⟨rfl, a⟩⟩
    · obtain ⟨_, o, ho, _⟩ := st
      exact ⟨o, ho⟩
    · obtain ⟨e, o, ho, r⟩ := st
      exact ⟨e, o, hk it (by simp) o ho, r⟩
    · exact absurd st.1 (Nat.ne_of_lt hj)
    · have st2 := st.2
      unfold strIterType at st2
      split at st2
      · exact wpAny_nextOf_ascii_end hh st2 hx hE
      · exact wpAny_nextOf_wide_end hh st2 hx hE
theorem zs_five {z TI TO i1 i2 b : Addr} (h : b ∈ [z, TI, TO, i1, i2]) : b = z ∨ b = TI ∨ b = TO ∨ b = i1 ∨ b = i2 := by simpa using h
/-- the state of such a walk -/
def ZsAt (z TI TO i1 i2 a : Addr) (x : Str) (t : Tok) (i : Nat) (h : Heap) : Prop :=
  IsZip h z TI TO .none ∧ IsTupOf2 h TI (.ref i1) (.ref i2) ∧ (∃ u v, IsTupOf2 h TO u v) ∧ h.IsListIter i1 a i ∧ h.IsStrIter i2 (strIterType x) x t i
theorem zs_there {z TI TO i1 i2 a b : Addr} {x : Str} {t : Tok} {i : Nat} {h : Heap} (st : ZsAt z TI TO i1 i2 a x t i h) (hb : b ∈ [z, TI, TO, i1, i2]) : ∃ o, h.get? b = some o ∧ ∀ v, o.data ≠ .cell v := by
  obtain ⟨hz, hI, ⟨u, v, hO⟩, ⟨o1, e1, _, d1⟩, ⟨o2, e2, _, d2⟩⟩ := st
  rcases zs_five hb with rfl | rfl | rfl | rfl | rfl
  · exact ⟨_, hz, fun v q => (nomatch q)⟩
  · exact ⟨_, hI, fun v q => (nomatch q)⟩
  · exact ⟨_, hO, fun v q => (nomatch q)⟩
  · exact ⟨o1, e1, fun v q => by rw [d1] at q; cases q⟩
  · exact ⟨o2, e2, fun v q => by rw [d2] at q; cases q⟩
theorem zs_keep {z TI TO i1 i2 a : Addr} {x : Str} {t : Tok} {i : Nat} {h h' : Heap} (st : ZsAt z TI TO i1 i2 a x t i h) (k : ∀ b ∈ [z, TI, TO, i1, i2], ∀ o, h.get? b = some o → h'.get? b = some o) : ZsAt z TI TO i1 i2 a x t i h' := by
  obtain ⟨hz, hI, ⟨u, v, hO⟩, h1, ⟨o2, e2, r2⟩⟩ := st
  exact ⟨k z (by simp) _ hz, k TI (by simp) _ hI, ⟨u, v, k TO (by simp) _ hO⟩, h1.at fun o q => k i1 (by simp) o q, ⟨o2, k i2 (by simp) o2 e2, r2⟩⟩
theorem turn_zs {P : Program} {w : World} {K : PySem.W.Frag} {elts : List Expr} {kk : Nat} {tpos : Pos} {a z TI TO i1 i2 : Addr} {x : Str} {t : Tok} (S : ZipSep2 z TI TO i1 i2 [i1, a] [i2]) :
    Turn P w K (.Tuple elts kk tpos) (ItzS K a x) [z, TI, TO, i1, i2] z (ZsAt z TI TO i1 i2 a x t) where
  mem := by simp
  obj := fun i h st b hb => zs_there st hb
  keep := fun i h h' st k => zs_keep st k
  self := fun A i s Q E st h => wpAny_pyIter_zip st.1 h
  item := by
    intro X hP hw hK hc i pins s σ H E I hf st hg
    subst hP hw hK
    have hai : a ≠ i1 := fun q => by
      obtain ⟨xs, y, hq, _⟩ := hg
      obtain ⟨its, rv, p, _⟩ := I.list hq
      obtain ⟨o1, e1, c1, d1⟩ := st.2.2.2.1
      obtain ⟨o2, e2, c2, _⟩ := p.isList
      rw [q, e1] at e2
      cases e2
      rw [c1] at c2
      exact absurd c2 (by simp)
    have hz := st
    obtain ⟨hz1, hz2, hz3, hz4, hz5⟩ := hz
    obtain ⟨xs, y, hq, hy, hi⟩ := hg
    obtain ⟨its, rv, p, _⟩ := I.list hq
    obtain ⟨u, hu, ru⟩ := rv.get hy
    have hu' : its.toArray[i]? = some u := by simpa using hu
    have W := WalksT.zipD2 (prog := X.prog) (w := X.w) (A := X.A) S (Draws.list (show X.A.in1.handled = none from I.ok.hd hc) i1 a hai its.toArray) (Draws.text (show X.A.in1.handled = none from I.ok.hd hc) i2 x t)
    have hlt : i < min its.toArray.size x.cps.size := by
      have := (Array.getElem?_eq_some_iff.mp hu').1
      omega
    refine W.item i s _ _ hlt ⟨hz1, hz2, hz3, ⟨hz4, p.isList⟩, hz5⟩ fun T vals h1 tk hv hT hTup hMid hk1 => ?_
    have hTw := W.apart i T h1 hMid
    refine ⟨_, rfl, W.go elts kk tpos i T { s with heap := h1, toks := tk } _ _ hMid fun h2 st2 hk2 => ?_⟩
    obtain ⟨v1, v2, p1, ⟨c, u2, hc2, rfl⟩, rfl⟩ := hv
    have ev : v1 = u := by
      have p1' : its.toArray[i]? = some v1 := p1
      rw [hu'] at p1'
      cases p1'
      rfl
    subst ev
    have hTup2 : h2.IsTuple T #[v1, .str ⟨#[c]⟩ u2] := hTup.at fun o e => hk2 T o hTw e
    have new : ObjOk X.prog X.w (upd H T (.tup [y, .str ⟨#[c]⟩])) h2 T (.tup [y, .str ⟨#[c]⟩]) :=
      ⟨by show 2 ≤ sizeLine; decide, [v1, .str ⟨#[c]⟩ u2], .cons ru (.cons ⟨u2, rfl⟩ .nil), hTup2⟩
    have I1 : Inv X pins σ (upd H T (.tup [y, .str ⟨#[c]⟩])) { s with heap := h2, toks := tk } :=
      I.turnedNew (t' := tk) (ch := [z, TI, TO, i1, i2]) (fun b o hb q => by
        have hb' : b ∉ [z, TO, i1, i2] := fun q' => hb (by
          simp only [List.mem_cons, List.not_mem_nil, or_false] at q' ⊢
          rcases q' with q' | q' | q' | q'
          · exact .inl q'
          · exact .inr (.inr (.inl q'))
          · exact .inr (.inr (.inr (.inl q')))
          · exact .inr (.inr (.inr (.inr q'))))
        exact hk2 b o hb' (hk1 b o hb' q)) hf hT new
    refine ⟨.ref T, _, I1, rfl, ⟨T, y, c, rfl, I.hok.fresh hT, rfl, fun l hl => by rw [I.list_inj hl hq]; exact hy, hc2⟩, ⟨st2.1, st2.2.1, st2.2.2.1, st2.2.2.2.1.1, st2.2.2.2.2⟩, fun b hb => ?_⟩
    have hlt2 : b < s.heap.objs.size := by
      obtain ⟨o, ho, _⟩ := zs_there st hb
      exact Heap.lt_size ho
    rw [upd_ne (Nat.ne_of_lt (Nat.lt_of_lt_of_le hlt2 hT))]
    exact (hf b hb).1
  done := by
    intro X hP hw hK hc i pins s σ H E I hf st hg
    subst hP hw hK
    obtain ⟨xs, hq, hend⟩ := hg
    obtain ⟨its, rv, p, _⟩ := I.list hq
    have hlen := rv.length
    have hai : a ≠ i1 := fun q => by
      obtain ⟨o1, e1, c1, d1⟩ := st.2.2.2.1
      obtain ⟨o2, e2, c2, _⟩ := p.isList
      rw [q, e1] at e2
      cases e2
      rw [c1] at c2
      exact absurd c2 (by simp)
    obtain ⟨hz1, hz2, hz3, hz4, hz5⟩ := st
    obtain ⟨n1, P1, S1, D1, l1, m1, s1⟩ := drawsL (P := X.prog) (w := X.w) (A := X.A.in1) (I.ok.hd hc) i1 a hai its.toArray i
    obtain ⟨n2, P2, S2, D2, l2, m2, s2⟩ := drawsS (P := X.prog) (w := X.w) (A := X.A.in1) (I.ok.hd hc) i2 x t i
    have hm : min n1 n2 = i := by
      rcases hend with q | q
      · rw [m1 (by simp; omega)]
        omega
      · rw [m2 q]
        omega
    have W := WalksT.zipD2 (prog := X.prog) (w := X.w) (A := X.A) S D1 D2
    rw [hm] at W
    refine W.done s _ _ ⟨hz1, hz2, hz3, s1 _ hz4 p.isList, s2 _ hz5⟩ fun h' tk hk => ⟨rfl, I.turnedL (t' := tk) (ch := [z, TI, TO, i1, i2]) (fun b o hb q => hk b o (fun q' => hb (by
      simp only [List.mem_cons, List.not_mem_nil, or_false] at q' ⊢
      rcases q' with q' | q' | q' | q'
      · exact .inl q'
      · exact .inr (.inr (.inl q'))
      · exact .inr (.inr (.inr (.inl q')))
      · exact .inr (.inr (.inr (.inr q'))))) q) hf⟩
def iZs (K : PySem.W.Frag) (ta : TA) : L2.TI := fun σ H Rr => ta σ H fun vs H1 => ∃ (a : Addr) (z : Str) (xs : List V), vs = [.ref a, .str z] ∧ SqL K H1 a xs ∧ Rr (ItzS K a z) H1
theorem pi_zs {X : Cx} {e e2 : Expr} {ta : TA} {p pos tpos : Pos} {elts : List Expr} {kk : Nat} (hg : Gl X "zip") (hm : X.mg "zip" = none) (ha : PA X [e, e2] ta)
    (hs : starEach [e, e2] X.env = (false, eval e X.env) :: starEach [e2] X.env := by rfl) (hpl : (backTo pos (starEach [e2] X.env)).any (·.1) = false := by rfl) :
    PI X (.Tuple elts kk tpos) (.Call (.Name "zip" p) [e, e2] [] pos) (iZs X.K ta) := ⟨fun pins s σ H Rr I h => by
  refine Call_ (ld_blt I hg hm PyProof.Rows.boot_zip (PyProof.Rows.callWith_type1 (thn (ha.run pos pins s σ H _ I h) fun us s1 q0 => ?_) hs hpl))
  obtain ⟨vs, H1, I1, r1, a, z, xs, ex, hq, q⟩ := q0
  subst ex
  cases r1 with
  | cons ra rr =>
    cases rr with
    | cons rz rr2 =>
      cases rr2
      cases ra
      obtain ⟨t, rfl⟩ := rz
      obtain ⟨its, rv, p1, _⟩ := I1.list hq
      have hal : a < s1.heap.objs.size := p1.lt
      refine zip_begins2 (begins_list a its.toArray) (begins_text z t) p1.isList trivial fun h' hz hTI hTO g1 g2 hsz hk => wpAny_pyIter_zip hz ?_
      refine ⟨s1.heap.objs.size + 4, [s1.heap.objs.size + 4, s1.heap.objs.size + 2, s1.heap.objs.size + 3, s1.heap.objs.size, s1.heap.objs.size + 1], ZsAt _ _ _ _ _ a z t, _, H1, rfl, I1.kept (t' := s1.toks) hk,
        turn_zs (zip_sep2 (fp1 := [a]) (fp2 := []) (fun b hb => by rw [List.mem_singleton.mp hb]; exact hal) (fun b hb => nomatch hb)), ⟨hz, hTI, ⟨_, _, hTO⟩, ⟨_, g1, rfl, rfl⟩, ⟨_, g2, rfl, rfl⟩⟩, fun b hb => ?_, q⟩
      have hle : s1.heap.objs.size ≤ b := by
        rcases zs_five hb with rfl | rfl | rfl | rfl | rfl
        · exact Nat.le_add_right _ _
        · exact Nat.le_add_right _ _
        · exact Nat.le_add_right _ _
        · exact Nat.le_refl _
        · exact Nat.le_add_right _ _
      exact I1.fpOk hle (I1.hok.fresh hle)⟩
/-- the pairs -/
def zipD (ds : List D) (z : Str) : List D := (ds.zip z.cps.toList).map fun p => .tup [p.1, .str ⟨#[p.2]⟩]
def miZs (m : MA) : Sl → AH → R IT := fun s A => (m s A).bind fun ds A1 => match ds with
  | [.lst es, .str z] => .ok (.data (zipD es z)) A1
  | _ => .bad
theorem jr_zs {K : PySem.W.Frag} {mg : Str → Option Value} {W : Wd} {a : Addr} {xs : List V} {ds : List D} {z : Str} (h : W.F a = some (.lst xs)) (r : Reps K W ds xs) : JR K mg W (.data (zipD ds z)) (ItzS K a z) := fun W' A' H' i l k => by
  have q : SqL K H' a xs := .inl (.inl (k.frz _ _ (l.f _ _ h)))
  have r' := r.le l
  have hl := r'.length
  show match some (zipD ds z)[i]? with
    | some (some d) => _
    | some none => _
    | none => True
  unfold zipD
  rw [List.getElem?_map]
  cases hd : (ds.zip z.cps.toList)[i]? with
  | none =>
    refine ⟨xs, q, ?_⟩
    have := List.getElem?_eq_none_iff.mp hd
    rw [List.length_zip] at this
    have h2 : z.cps.toList.length = z.cps.size := by simp
    omega
  | some p =>
    obtain ⟨d, c⟩ := p
    obtain ⟨e1, e2⟩ := List.getElem?_zip_eq_some.mp hd
    obtain ⟨v, h1, h2⟩ := r'.get e1
    have e3 : z.cps[i]? = some c := by simpa using e2
    refine ⟨⟨xs, v, q, h1, (Array.getElem?_eq_some_iff.mp e3).1⟩, fun x H2 y => ?_⟩
    obtain ⟨T, x', c', rfl, hT, rfl, f1, f2⟩ := y
    have ex := f1 xs q
    rw [h1] at ex
    cases ex
    rw [e3] at f2
    cases f2
    obtain ⟨k2, x2⟩ := k.frozen hT (.tup [v, .str ⟨#[c]⟩])
    exact ⟨_, x2, k2, T, _, rfl, .inl (.inl upd_same), ⟨v, _, rfl, h2.le x2.le, _, _, rfl, rfl, rfl⟩⟩
section
variable {X : Cx} {Wx : WX} {e e2 : Expr} {ta : TA} {ma : MA} {te : TE} {me : ME} {p pos tpos apos cpos : Pos} {elts : List Expr} {kk : Nat} {x : Str} {kvs : List (Str × Str)}
theorem izs (hm : X.mg "zip" = none) (ha : SA X Wx [e, e2] ta ma) (hg : Gl X "zip" := by rfl) (hs : starEach [e, e2] X.env = (false, eval e X.env) :: starEach [e2] X.env := by rfl) (hpl : (backTo pos (starEach [e2] X.env)).any (·.1) = false := by rfl) :
    SI X Wx (.Tuple elts kk tpos) (.Call (.Name "zip" p) [e, e2] [] pos) (iZs X.K ta) (miZs ma) :=
  ⟨pi_zs hg hm ha.pa hs hpl, fun W σ s A H Rr k sr z => ha.sim W σ s A H _ k sr (z.bind fun ds A1 vs W1 H1 e1 k1 r1 h1 => by
    split at h1
    · obtain ⟨v, u, rfl, q, q'⟩ := reps2 r1
      obtain ⟨a, xs, rfl, q1, q2⟩ := q
      obtain rfl : u = _ := q'
      exact ⟨a, _, xs, rfl, .inl (.inl (k1.frz _ _ q1)), h1.ok_at k1 (jr_zs q1 q2)⟩
    · exact h1.elim)⟩
/-- .get of a written table of texts -/
def tKGet (K : PySem.W.Frag) (w : World) (d : Addr) (ty : TE) : TE := fun σ H Q => ty σ H fun y H1 => ∃ (z : Str) (r : Option Value) (v : V), y = .str z ∧ PySem.W.nsIn K d z = some r ∧ RelV v (r.getD .none) ∧ Q v H1
def kgetD (kvs : List (Str × Str)) : D → AH → R D
  | .str z, A => .ok (match kvs.lookup z with
    | some v => .str v
    | none => .non) A
  | _, _ => .bad
theorem pe_kget (T : GTab X.K X.w X.mg x kvs) (he : PE X e te) (m : M1 X (.Name x p) "get" apos e cpos) (hg : Gl X x) (hdb : (x == ("__debug__" : Str)) = false) :
    PE X (.Call (.Attribute (.Name x p) "get" apos) [e] [] cpos) (tKGet X.K X.w (clA X.mg x) te) := by
  have ho := pe_tab (p := p) T hg hdb
  obtain ⟨d, hm, T⟩ := T
  obtain ⟨es, n, D⟩ := T.kd
  rw [clA_of hm] at ho ⊢
  refine ⟨fun pins s σ H Q I h => ?_⟩
  refine wpAny_Call_method m.base m.few m.line PySem.F.plainAttrs_dict PySem.F.slot_dict_get PySem.F.type_dict_get (thn (ho.run pins s σ H (fun v H1 => v = .ref d ∧ H1 = H) I ⟨rfl, rfl⟩) fun u s1 q0 => ?_)
  obtain ⟨v, H1, I1, rx, rfl, rfl⟩ := q0
  obtain rfl : u = Value.ref d := rx
  refine ⟨kd_type D I1, fun b q => ?_, ?_⟩
  · cases q
    exact ⟨_, I1.kIn _ _ D.at_, rfl⟩
  · rw [m.trees]
    refine wpAny_dict_get1 (knd := PySem.strKind X.prog X.w) D.low (thn (he.run pins s1 σ _ _ I1 h) fun key s2 q1 => ?_)
    obtain ⟨y, H2, I2, ry, z, r, v, rfl, hr, rv, q2⟩ := q1
    obtain ⟨t, rfl⟩ := ry
    refine ⟨z, _, PySem.strKind_is X.prog X.w z t, PySem.W.mapOf_K (prog := X.prog) I2.kIn D.at_ D.lit, ?_⟩
    rw [PySem.W.find_K D.at_ hr]
    exact ⟨v, H2, I2.tok _, rv, q2⟩
theorem skget (T : GTab X.K X.w X.mg x kvs) (he : SE X Wx e te me) (m : M1 X (.Name x p) "get" apos e cpos := by exact ⟨by rfl, by rfl, by rfl, by rfl⟩) (hg : Gl X x := by rfl) (hdb : (x == ("__debug__" : Str)) = false := by decide) :
    SE X Wx (.Call (.Attribute (.Name x p) "get" apos) [e] [] cpos) (tKGet X.K X.w (clA X.mg x) te) (mUn (kgetD kvs) me) := ⟨pe_kget T he.pe m hg hdb, by
  obtain ⟨d, hm, T⟩ := T
  rw [clA_of hm]
  refine fun W σ s A H Q k sr h => he.sim W σ s A H _ k sr (h.bind fun y A1 v W1 H1 e1 k1 r1 h1 => ?_)
  cases y with
  | str z =>
    obtain rfl : v = V.str z := r1
    unfold kgetD at h1
    dsimp only at h1
    cases q : kvs.lookup z with
    | none =>
      rw [q] at h1
      exact ⟨z, none, .non, rfl, T.no z q, rfl, h1.ok_at k1 rfl⟩
    | some y =>
      rw [q] at h1
      obtain ⟨t, e⟩ := T.yes z y q
      exact ⟨z, _, .str y, rfl, e, ⟨t, rfl⟩, h1.ok_at k1 rfl⟩
  | _ => exact h1.elim⟩
end
end Tg

set_option Elab.async false
set_option linter.all false
set_option maxRecDepth 100000
set_option maxHeartbeats 2000000
/-! TgTxt: texts by their signs; walks over lists, told item by item. -/
namespace Tg
open PySem L2
open SX (S)
section
variable {A : AH} {l : List Nat} {c : Nat} {d : D} {ds : List D}
theorem cut_to1 : cutS (S l) none (some 1) = S (l.take 1) := by
  cases l with
  | nil => rfl
  | cons c l => simp [cutS, HT.sIx, Str.length]
theorem cut_from1 : cutS (S l) (some 1) none = S (l.drop 1) := by
  cases l with
  | nil => rfl
  | cons c l => simp [cutS, HT.sIx, Str.length]
theorem cutD1 : cutD (d :: ds) (some 1) none = ds := by
  simp [cutD, HT.sIx]
theorem inB_S : inB (.str ⟨#[c]⟩) (.str (S l)) A = some (decide (c ∈ l)) := congrArg some (SX.in_one l c)
theorem in_S : inD (.str ⟨#[c]⟩) (.str (S l)) A = .ok (.bl (decide (c ∈ l))) A := by
  unfold inD
  rw [inB_S]
theorem nin_S : ninD (.str ⟨#[c]⟩) (.str (S l)) A = .ok (.bl (!(decide (c ∈ l)))) A := by
  unfold ninD
  rw [inB_S]
theorem len_S (h : l.length ≤ 16777216) : lenD [.str (S l)] A = .ok (.int l.length) A := by
  show (if (S l).length ≤ 16777216 then R.ok (D.int (S l).length) A else .bad) = _
  rw [SX.S_len, if_pos h]
/-- a number's signs -/
def numC (i : Int) : List Nat := if 0 ≤ i then TL.numL i.toNat else 45 :: TL.numL (-i).toNat
theorem str_num (i : Int) : Str.ofString (toString i) = S (numC i) := by
  cases i with
  | ofNat n =>
    have e : numC (Int.ofNat n) = TL.numL n := if_pos (Int.natCast_nonneg n)
    rw [e]
    exact SX.num_S n
  | negSucc m =>
    have e : numC (Int.negSucc m) = 45 :: TL.numL (m + 1) := by
      have h : ¬ (0 : Int) ≤ Int.negSucc m := by omega
      unfold numC
      rw [if_neg h]
      rfl
    rw [e]
    refine TL.ext_tl ?_
    rw [TL.tl_ofString]
    show (("-" ++ Nat.repr (m + 1) : String)).toList.map Char.toNat = _
    rw [String.toList_append, List.map_append]
    show _ = [45] ++ TL.numL (m + 1)
    unfold TL.numL
    rw [Nat.toList_repr]
    rfl
theorem numC_len {i : Int} (h0 : -100000 < i) (h1 : i < 100000) : (numC i).length ≤ 6 := by
  unfold numC
  split
  · have := TL.numL_len (n := i.toNat) (k := 5) (by decide) (by show i.toNat < 100000; omega)
    omega
  · have := TL.numL_len (n := (-i).toNat) (k := 5) (by decide) (by show (-i).toNat < 100000; omega)
    simp only [List.length_cons]
    omega
theorem numC_ne (i : Int) : numC i ≠ [] := by
  unfold numC
  split
  · exact TL.numL_ne _
  · simp
theorem numC_free {i : Int} {s : Nat} (h : s < 48 ∨ 57 < s) (h2 : s ≠ 45) : s ∉ numC i := by
  unfold numC
  split
  · exact TL.numL_free h
  · intro q
    rcases List.mem_cons.mp q with q | q
    · exact h2 q
    · exact TL.numL_free h q
theorem int_S {i : Int} (h0 : -100000 < i) (h1 : i < 100000) : intD [.str (S (numC i))] A = .ok (.int i) A := by
  have hl := numC_len h0 h1
  have e : PySem.intText? (S (numC i)) = some i := by
    unfold numC at hl ⊢
    split
    · rename_i q
      rw [if_pos q] at hl
      rw [PySem.intText_digits (x := S (TL.numL i.toNat)) (TL.numL_digits _) (TL.numL_ne _) (by rw [SX.S_len]; omega)]
      show some ((PySem.NumText.digitsVal (TL.numL i.toNat) : Nat) : Int) = _
      rw [TL.numL_val]
      congr 1
      omega
    · rename_i q
      rw [if_neg q] at hl
      rw [PySem.intText_neg (x := S (45 :: TL.numL (-i).toNat)) (cs := TL.numL (-i).toNat) rfl (TL.numL_digits _) (TL.numL_ne _) (by rw [SX.S_len]; omega)]
      rw [TL.numL_val]
      congr 1
      omega
  show (match PySem.intText? (S (numC i)) with
    | some n => if (S (numC i)).length ≤ 640 then R.ok (D.int n) A else .bad
    | none => .bad) = _
  rw [e]
  show (if (S (numC i)).length ≤ 640 then _ else _) = _
  rw [SX.S_len, if_pos (by omega)]
theorem str_int {i : Int} (h0 : -100000 < i) (h1 : i < 100000) : strD [.int i] A = .ok (.str (S (numC i))) A := by
  have h : i.natAbs.log2 < 1920 := by
    by_cases h : i.natAbs = 0
    · rw [h]
      decide
    · exact Nat.lt_trans ((Nat.log2_lt h).mpr (show i.natAbs < 2 ^ 17 by omega)) (by decide)
  show (if i.natAbs.log2 < 1920 then R.ok (D.str (Str.ofString (toString i))) A else .bad) = _
  rw [if_pos h, str_num]
end
/-! ### joined and split -/
section
variable {A : AH} {s : List Nat} {ls : List (List Nat)} {k : Nat} {c : Nat}
theorem joinL_len : ∀ {ls : List (List Nat)}, (∀ l ∈ ls, l.length + s.length ≤ k) → (TL.joinL s ls).length ≤ ls.length * k
  | [], _ => Nat.zero_le _
  | [p], h => by
    have := h p List.mem_cons_self
    show p.length ≤ 1 * k
    omega
  | p :: q :: r, h => by
    have h1 := h p List.mem_cons_self
    have h2 := joinL_len (ls := q :: r) fun l hl => h l (List.mem_cons_of_mem _ hl)
    show (p ++ (s ++ TL.joinL s (q :: r))).length ≤ (q :: r).length.succ * k
    rw [List.length_append, List.length_append, Nat.succ_mul]
    omega
theorem sum_len : ∀ {ls : List (List Nat)}, (∀ l ∈ ls, l.length + s.length ≤ k) → (ls.map List.length).sum + ls.length * s.length ≤ ls.length * k
  | [], _ => by simp
  | p :: r, h => by
    have h1 := h p List.mem_cons_self
    have h2 := sum_len (ls := r) fun l hl => h l (List.mem_cons_of_mem _ hl)
    simp only [List.map_cons, List.sum_cons, List.length_cons, Nat.succ_mul]
    omega
theorem joinL_snoc {x : List Nat} : ∀ {ls : List (List Nat)}, ls ≠ [] → TL.joinL s (ls ++ [x]) = TL.joinL s ls ++ (s ++ x)
  | [], h => absurd rfl h
  | [p], _ => rfl
  | p :: q :: r, _ => by
    show p ++ (s ++ TL.joinL s ((q :: r) ++ [x])) = (p ++ (s ++ TL.joinL s (q :: r))) ++ (s ++ x)
    rw [joinL_snoc (ls := q :: r) (by simp)]
    simp only [List.append_assoc]
theorem joinL_mem : ∀ {ls : List (List Nat)}, c ∈ TL.joinL s ls → c ∈ s ∨ ∃ l ∈ ls, c ∈ l
  | [], h => nomatch h
  | [p], h => .inr ⟨p, List.mem_cons_self, h⟩
  | p :: q :: r, h => by
    rcases List.mem_append.mp (show c ∈ p ++ (s ++ TL.joinL s (q :: r)) from h) with h | h
    · exact .inr ⟨p, List.mem_cons_self, h⟩
    · rcases List.mem_append.mp h with h | h
      · exact .inl h
      · rcases joinL_mem (ls := q :: r) h with h | ⟨l, hl, h⟩
        · exact .inl h
        · exact .inr ⟨l, List.mem_cons_of_mem _ hl, h⟩
theorem strs_S : ∀ {ls : List (List Nat)}, strsD (ls.map fun l => .str (S l)) = some (ls.map S)
  | [] => rfl
  | l :: ls => by
    show (strsD (ls.map fun l => .str (S l))).map (S l :: ·) = _
    rw [strs_S]
    rfl
theorem join_S (h : ∀ l ∈ ls, l.length + s.length ≤ k) (hk : ls.length * k ≤ 16777216) : joinD (.str (S s)) [.lst (ls.map fun l => .str (S l))] A = .ok (.str (S (TL.joinL s ls))) A := by
  have e : (itemsD A (.lst (ls.map fun l => .str (S l)))).bind strsD = some (ls.map S) := strs_S
  show (match (itemsD A (.lst (ls.map fun l => .str (S l)))).bind strsD with
    | some ys => if (ys.map (fun y : Str => y.length)).sum + ys.length * (S s).length ≤ 16777216 then R.ok (D.str (Txt.join (S s) ys)) A else .bad
    | none => .bad) = _
  rw [e]
  have e2 : (ls.map fun x => x.length).sum + ls.length * s.length ≤ ls.length * k := sum_len h
  dsimp only
  rw [SX.lens, List.length_map, SX.S_len, if_pos (by omega), SX.join_S]
theorem split_S (hne : ls ≠ []) (h : ∀ l ∈ ls, c ∉ l) (hc : c < 256) (hl : (TL.joinL [c] ls).length + 2 ≤ 16777216) : splitD (.str (S (TL.joinL [c] ls))) [.str (S [c])] A = .ok (.lst (ls.map fun l => .str (S l))) A := by
  show (if ((S [c]).length == 0) = false ∧ (S (TL.joinL [c] ls)).length + 2 ≤ 16777216 then R.ok (D.lst ((Txt.split (S (TL.joinL [c] ls)) (S [c])).map .str)) A else .bad) = _
  rw [if_pos ⟨rfl, by rw [SX.S_len]; exact hl⟩, SX.split_S (by simp) (by simp [hc]), SX.spl_join hne h, List.map_map]
  rfl
end
/-! ### walks told item by item -/
inductive All2 {α β : Type} (P : α → β → Prop) : List α → List β → Prop
  | nil : All2 P [] []
  | cons {a b as bs} : P a b → All2 P as bs → All2 P (a :: as) (b :: bs)
theorem All2.len {α β : Type} {P : α → β → Prop} : ∀ {as : List α} {bs : List β}, All2 P as bs → as.length = bs.length
  | _, _, .nil => rfl
  | _, _, .cons _ h => by rw [List.length_cons, List.length_cons, h.len]
theorem All2.imp {α β : Type} {P Q : α → β → Prop} (f : ∀ a b, P a b → Q a b) : ∀ {as : List α} {bs : List β}, All2 P as bs → All2 Q as bs
  | _, _, .nil => .nil
  | _, _, .cons h h2 => .cons (f _ _ h) (h2.imp f)
theorem All2.get {α β : Type} {P : α → β → Prop} : ∀ {as : List α} {bs : List β} (i : Nat) (h : i < as.length) (h2 : i < bs.length), All2 P as bs → P as[i] bs[i]
  | _, _, 0, _, _, .cons h _ => h
  | _, _, i + 1, h, h2, .cons _ r => r.get i (by simpa using h) (by simpa using h2)
theorem All2.maps {α β γ : Type} {P : β → γ → Prop} {f : α → β} {g : α → γ} : ∀ {as : List α}, (∀ a ∈ as, P (f a) (g a)) → All2 P (as.map f) (as.map g)
  | [], _ => .nil
  | a :: as, h => .cons (h a List.mem_cons_self) (All2.maps fun b hb => h b (List.mem_cons_of_mem _ hb))
section
variable {g : MG} {tt : MT} {te : ME} {b : MS} {mi : Sl → AH → R IT} {vs : List Nat} {s : Sl} {A A1 : AH} {ds : List D}
theorem lcL_all2 {w : Sl} : ∀ {ds qs : List D}, All2 (fun d q => ∃ s1, g d w = some s1 ∧ tt s1 A = .ok true A ∧ te s1 A = .ok q A) ds qs → lcL g tt te w ds A = .ok qs A
  | _, _, .nil => rfl
  | _, _, .cons ⟨s1, h1, h2, h3⟩ h => by
    have ih := lcL_all2 h
    unfold lcL
    simp only [h1, h2, R.bindN_ok, if_true, h3, ih, R.bind_ok]
theorem lc_all2 {qs : List D} (h0 : mi s A = .ok (.data ds) A) (hl : ds.length < 16777216) (h : All2 (fun d q => ∃ s1, g d (wpD s vs) = some s1 ∧ tt s1 A = .ok true A ∧ te s1 A = .ok q A) ds qs) : mLc mi g tt te vs finF s A = .ok (.lst qs) A := by
  rw [mLc_of h0 hl, lcL_all2 h]
  rfl
theorem forL_at (I : Nat → Sl → AH → Prop) : ∀ {ds : List D} {s : Sl} {A : AH} (k : Nat), I k s A → (∀ j d s A, ds[j]? = some d → I (k + j) s A → ∃ s1 s2 A2, g d s = some s1 ∧ b s1 A = .nx s2 A2 ∧ I (k + j + 1) s2 A2) → ∃ s' A', forL g b ds s A = .nx s' A' ∧ I (k + ds.length) s' A'
  | [], s, A, k, hI, _ => ⟨s, A, rfl, hI⟩
  | d :: ds, s, A, k, hI, h => by
    obtain ⟨s1, s2, A2, h1, h2, h3⟩ := h 0 d s A rfl hI
    obtain ⟨s', A', e1, e2⟩ := forL_at (ds := ds) I (k + 1) h3 fun j e s A hj hI => by
      have := h (j + 1) e s A hj (by rw [show k + (j + 1) = k + 1 + j by omega]; exact hI)
      rw [show k + (j + 1) + 1 = k + 1 + j + 1 by omega] at this
      exact this
    refine ⟨s', A', ?_, by rw [show k + (d :: ds).length = k + 1 + ds.length by simp; omega]; exact e2⟩
    unfold forL
    simp only [h1, h2, e1]
/-- drawn tests: a part of what is walked -/
theorem lcL_sub {w : Sl} (I : AH → Prop) : ∀ {ds : List D} {A : AH}, I A → (∀ d ∈ ds, ∀ A, I A → ∃ s1 k A2, g d w = some s1 ∧ tt s1 A = .ok k A2 ∧ I A2 ∧ te s1 A2 = .ok d A2) → ∃ ys A', lcL g tt te w ds A = .ok ys A' ∧ I A' ∧ ys.Sublist ds
  | [], A, hI, _ => ⟨[], A, rfl, hI, .slnil⟩
  | d :: ds, A, hI, h => by
    obtain ⟨s1, k, A2, h1, h2, h3, h4⟩ := h d List.mem_cons_self A hI
    obtain ⟨ys, A', e1, e2, e3⟩ := lcL_sub (ds := ds) I h3 fun e he => h e (List.mem_cons_of_mem _ he)
    cases k with
    | true =>
      refine ⟨d :: ys, A', ?_, e2, e3.cons₂ d⟩
      unfold lcL
      simp only [h1, h2, R.bindN_ok, if_true, h4, e1, R.bind_ok]
    | false =>
      refine ⟨ys, A', ?_, e2, e3.cons d⟩
      unfold lcL
      simp [h1, h2, e1]
theorem lc_sub (I : AH → Prop) (h0 : mi s A = .ok (.data ds) A1) (hl : ds.length < 16777216) (hI : I A1) (h : ∀ d ∈ ds, ∀ A, I A → ∃ s1 k A2, g d (wpD s vs) = some s1 ∧ tt s1 A = .ok k A2 ∧ I A2 ∧ te s1 A2 = .ok d A2) :
    ∃ ys A', mLc mi g tt te vs finF s A = .ok (.lst ys) A' ∧ I A' ∧ ys.Sublist ds := by
  obtain ⟨ys, A', e1, e2⟩ := lcL_sub (w := wpD s vs) I hI h
  refine ⟨ys, A', ?_, e2⟩
  rw [mLc_of h0 hl, e1]
  rfl
end
end Tg

set_option Elab.async false
set_option linter.all false
set_option maxRecDepth 100000
set_option maxHeartbeats 2000000
/-! TgRng: list(range(n)), a list that will change. -/
namespace Tg
open PySem L2
def mLRgN (a : ME) : ME := fun s A => (a s A).bind fun x A1 => match x with
  | .int n => if 0 ≤ n ∧ n ≤ 16777216 then .ok (.ref A1.length) (A1 ++ [.lst (rngL 0 1 n.toNat)]) else .bad
  | _ => .bad
section
variable {X : Cx} {Wx : WX} {a : Expr} {ta : TE} {ma : ME} {p p2 pos pos2 : Pos}
theorem reps_rg (K : PySem.W.Frag) (W : Wd) (n : Int) : Reps K W (rngL 0 1 n.toNat) (rgV 0 n) := by
  have e1 : rngL 0 1 n.toNat = ((List.range n.toNat).map fun i : Nat => (i : Int)).map D.int := by
    unfold rngL
    rw [List.map_map]
    refine List.map_congr_left fun i _ => ?_
    show D.int (0 + (i : Int) * 1) = D.int i
    congr 1
    omega
  have e2 : rgV 0 n = ((List.range n.toNat).map fun i : Nat => (i : Int)).map V.int := by
    unfold rgV
    rw [List.map_map, Int.sub_zero]
    refine List.map_congr_left fun i _ => ?_
    show V.int (0 + (i : Int)) = V.int i
    congr 1
    omega
  rw [e1, e2]
  exact reps_ints W _
theorem slrgN (hc : X.calm = true) (hm : X.mg "list" = none) (hm2 : X.mg "range" = none) (ha : SE X Wx a ta ma) (hg : Gl X "list" := by rfl) (hg2 : Gl X "range" := by rfl)
    (na : starEach [a] X.env = (false, eval a X.env) :: starEach [] X.env := by rfl)
    (na2 : starEach [.Call (.Name "range" p2) [a] [] pos2] X.env = (false, eval (.Call (.Name "range" p2) [a] [] pos2) X.env) :: starEach [] X.env := by rfl) :
    SE X Wx (.Call (.Name "list" p) [.Call (.Name "range" p2) [a] [] pos2] [] pos) (tLstRg (tRg1 ta)) (mLRgN ma) :=
  ⟨pe_listRg hc hg hm (prg_1 hg2 hm2 ha.pe na) na2, fun W σ s A H Q k sr z => ha.sim W σ s A H _ k sr (z.bind fun x A1 v W1 H1 e1 k1 r1 h1 => by
    cases x with
    | int n =>
      obtain rfl : v = V.int n := r1
      dsimp only at h1
      by_cases q : 0 ≤ n ∧ n ≤ 16777216
      · rw [if_pos q] at h1
        exact ⟨n, rfl, RgOk.of_le (Int.le_refl 0) q.2 (by omega) q.1, fun q hq => post_new k1 h1 (reps_rg X.K W1 n) hq⟩
      · rw [if_neg q] at h1
        exact h1.elim
    | _ => exact h1.elim)⟩
end
end Tg

set_option Elab.async false
set_option linter.all false
set_option maxRecDepth 100000
set_option maxHeartbeats 2000000
/-! TgDat: == and in of data of any depth. -/
namespace Tg
open PySem L2
open SX (S)
mutual
/-- numbers, texts, None, lists and tuples of them -/
def datD : D → Bool
  | .non => true
  | .int _ => true
  | .str z => PyData.strOk z
  | .tup ds => datL ds
  | .lst ds => datL ds
  | _ => false
def datL : List D → Bool
  | [] => true
  | d :: ds => datD d && datL ds
end
mutual
def depD : D → Nat
  | .tup ds => depL ds + 1
  | .lst ds => depL ds + 1
  | _ => 0
def depL : List D → Nat
  | [] => 0
  | d :: ds => max (depD d) (depL ds)
end
mutual
def pyD : D → PyData
  | .int i => .int i
  | .str z => .str z
  | .tup ds => .tuple (pyL ds)
  | .lst ds => .list (pyL ds)
  | _ => .none
def pyL : List D → List PyData
  | [] => []
  | d :: ds => pyD d :: pyL ds
end
mutual
theorem pyOf_dat {A : AH} : ∀ (d : D) (n : Nat), datD d = true → depD d < n → pyOf n A d = some (pyD d)
  | _, 0, _, h => absurd h (Nat.not_lt_zero _)
  | .non, n + 1, _, _ => by simp [pyOf, pyD]
  | .int i, n + 1, _, _ => by simp [pyOf, pyD]
  | .str z, n + 1, _, _ => by simp [pyOf, pyD]
  | .tup ds, n + 1, h, h2 => by
    have e := pysOf_dat (A := A) ds n (by simpa [datD] using h) (by simpa [depD] using h2)
    simp [pyOf, pyD, e]
  | .lst ds, n + 1, h, h2 => by
    have e := pysOf_dat (A := A) ds n (by simpa [datD] using h) (by simpa [depD] using h2)
    simp [pyOf, pyD, e]
  | .bl b, n + 1, h, _ => by simp [datD] at h
  | .dct ks ds, n + 1, h, _ => by simp [datD] at h
  | .ref r, n + 1, h, _ => by simp [datD] at h
  | .scr ns, n + 1, h, _ => by simp [datD] at h
theorem pysOf_dat {A : AH} : ∀ (ds : List D) (n : Nat), datL ds = true → depL ds < n → pysOf (pyOf n A) ds = some (pyL ds)
  | [], n, _, _ => by simp [pysOf, pyL]
  | d :: ds, n, h, h2 => by
    simp only [datL, Bool.and_eq_true] at h
    simp only [depL] at h2
    have e1 := pyOf_dat (A := A) d n h.1 (by omega)
    have e2 := pysOf_dat (A := A) ds n h.2 (by omega)
    simp [pysOf, pyL, e1, e2]
end
mutual
theorem lay_dat : ∀ (d : D), datD d = true → PyData.canLay0 (pyD d) = true ∧ PyData.depth (pyD d) = depD d
  | .non, _ => by simp [pyD, PyData.canLay0, PyData.depth, depD]
  | .int i, _ => by simp [pyD, PyData.canLay0, PyData.depth, depD]
  | .str z, h => by
    have : PyData.strOk z = true := by simpa [datD] using h
    simp [pyD, PyData.canLay0, PyData.depth, depD, this]
  | .tup ds, h => by
    obtain ⟨e1, e2⟩ := lays_dat ds (by simpa [datD] using h)
    simp [pyD, PyData.canLay0, PyData.depth, depD, e1, e2]
  | .lst ds, h => by
    obtain ⟨e1, e2⟩ := lays_dat ds (by simpa [datD] using h)
    simp [pyD, PyData.canLay0, PyData.depth, depD, e1, e2]
  | .bl b, h => by simp [datD] at h
  | .dct ks ds, h => by simp [datD] at h
  | .ref r, h => by simp [datD] at h
  | .scr ns, h => by simp [datD] at h
theorem lays_dat : ∀ (ds : List D), datL ds = true → PyData.canLayAll0 (pyL ds) = true ∧ PyData.depthAll (pyL ds) = depL ds
  | [], _ => by simp [pyL, PyData.canLayAll0, PyData.depthAll, depL]
  | d :: ds, h => by
    simp only [datL, Bool.and_eq_true] at h
    obtain ⟨a1, a2⟩ := lay_dat d h.1
    obtain ⟨b1, b2⟩ := lays_dat ds h.2
    simp [pyL, PyData.canLayAll0, PyData.depthAll, depL, a1, a2, b1, b2]
end
mutual
theorem eqv_dat : ∀ (d e : D), datD d = true → datD e = true → (PyData.eqv (pyD d) (pyD e) = true ↔ d = e)
  | .non, e, _, h => by cases e <;> simp [pyD, PyData.eqv, datD] at h ⊢
  | .int i, e, _, h => by cases e <;> simp [pyD, PyData.eqv, datD] at h ⊢
  | .str z, e, _, h => by cases e <;> simp [pyD, PyData.eqv, datD] at h ⊢
  | .tup ds, e, h1, h => by
    cases e with
    | tup es =>
      have := eqvs_dat ds es (by simpa [datD] using h1) (by simpa [datD] using h)
      simp [pyD, PyData.eqv, this]
    | _ => simp [pyD, PyData.eqv, datD] at h ⊢
  | .lst ds, e, h1, h => by
    cases e with
    | lst es =>
      have := eqvs_dat ds es (by simpa [datD] using h1) (by simpa [datD] using h)
      simp [pyD, PyData.eqv, this]
    | _ => simp [pyD, PyData.eqv, datD] at h ⊢
  | .bl b, _, h, _ => by simp [datD] at h
  | .dct ks ds, _, h, _ => by simp [datD] at h
  | .ref r, _, h, _ => by simp [datD] at h
  | .scr ns, _, h, _ => by simp [datD] at h
theorem eqvs_dat : ∀ (ds es : List D), datL ds = true → datL es = true → (PyData.eqvAll (pyL ds) (pyL es) = true ↔ ds = es)
  | [], [], _, _ => by simp [pyL, PyData.eqvAll]
  | [], _ :: _, _, _ => by simp [pyL, PyData.eqvAll]
  | _ :: _, [], _, _ => by simp [pyL, PyData.eqvAll]
  | d :: ds, e :: es, h1, h2 => by
    simp only [datL, Bool.and_eq_true] at h1 h2
    have a := eqv_dat d e h1.1 h2.1
    have b := eqvs_dat ds es h1.2 h2.2
    simp only [pyL, PyData.eqvAll, Bool.and_eq_true, a, b, List.cons.injEq]
end
theorem shaped_dat {d : D} (h : datD d = true) (h2 : depD d ≤ 11) : SeqAt.shaped (pyD d) = true := by
  obtain ⟨a, b⟩ := lay_dat d h
  unfold SeqAt.shaped
  rw [a, b, decide_eq_true (show depD d ≤ 64 by omega)]
  rfl
/-- == by trees -/
def eqB (x y : D) : Bool := PyData.eqv (pyD x) (pyD y)
theorem eqB_iff {x y : D} (hx : datD x = true) (hy : datD y = true) : eqB x y = true ↔ x = y := eqv_dat x y hx hy
theorem eqB_refl {x : D} (hx : datD x = true) : eqB x x = true := (eqB_iff hx hx).mpr rfl
theorem eqB_ne {x y : D} (hx : datD x = true) (hy : datD y = true) (h : x ≠ y) : eqB x y = false := by
  cases e : eqB x y with
  | false => rfl
  | true => exact absurd ((eqB_iff hx hy).mp e) h
theorem scEq_dat {x y : D} {b : Bool} (h : scEq x y = some b) (hx : datD x = true) (hy : datD y = true) : b = eqB x y := by
  unfold eqB
  cases x <;> cases y <;> simp [scEq, datD, pyD, PyData.eqv] at h hx hy ⊢
  all_goals first
    | exact h.symm
    | exact h
theorem eq_dat {x y : D} {A : AH} (h : (datD x && datD y) = true) (h2 : (decide (depD x ≤ 11) && decide (depD y ≤ 11)) = true) : eqD x y A = .ok (.bl (eqB x y)) A := by
  simp only [Bool.and_eq_true, decide_eq_true_eq] at h h2
  unfold eqD
  cases e : scEq x y with
  | some b =>
    rw [scEq_dat e h.1 h.2]
  | none =>
    rw [pyOf_dat x 12 h.1 (by omega), pyOf_dat y 12 h.2 (by omega)]
    simp only [shaped_dat h.1 h2.1, shaped_dat h.2 h2.2, Bool.and_self, if_true]
    rfl
theorem ne_dat {x y : D} {A : AH} (h : (datD x && datD y) = true) (h2 : (decide (depD x ≤ 11) && decide (depD y ≤ 11)) = true) : neD x y A = .ok (.bl (!(eqB x y))) A := by
  simp only [Bool.and_eq_true, decide_eq_true_eq] at h h2
  unfold neD
  cases e : scEq x y with
  | some b =>
    rw [scEq_dat e h.1 h.2]
  | none =>
    rw [pyOf_dat x 12 h.1 (by omega), pyOf_dat y 12 h.2 (by omega)]
    simp only [shaped_dat h.1 h2.1, shaped_dat h.2 h2.2, Bool.and_self, if_true]
    rfl
/-- a list that changes, against data -/
theorem ne_refL {n : Nat} {ds : List D} {y : D} {A : AH} (hA : A[n]? = some (.lst ds)) (h : (datL ds && datD y) = true) (h2 : (decide (depL ds ≤ 10) && decide (depD y ≤ 11)) = true) : neD (.ref n) y A = .ok (.bl (!(eqB (.lst ds) y))) A := by
  simp only [Bool.and_eq_true, decide_eq_true_eq] at h h2
  have e0 : scEq (.ref n) y = none := by cases y <;> rfl
  have e1 : pyOf 12 A (.ref n) = some (pyD (.lst ds)) := by
    show (match A[n]? with
      | some (.lst ds) => (pysOf (pyOf 11 A) ds).map PyData.list
      | _ => none) = _
    rw [hA]
    dsimp only
    rw [pysOf_dat ds 11 h.1 (by omega)]
    simp [pyD]
  unfold neD
  rw [e0, e1, pyOf_dat y 12 h.2 (by omega)]
  have s1 : SeqAt.shaped (pyD (.lst ds)) = true := shaped_dat (by simpa [datD] using h.1) (by simp [depD]; omega)
  simp only [s1, shaped_dat h.2 h2.2, Bool.and_self, if_true]
  rfl
theorem any_py {x : D} : ∀ {ds : List D}, (pyL ds).any (fun z => PyData.eqv z (pyD x)) = ds.any fun z => eqB z x
  | [] => rfl
  | d :: ds => by
    simp only [pyL, List.any_cons, any_py]
    rfl
theorem any_mem {x : D} (hx : datD x = true) {ds : List D} (h : datL ds = true) : (ds.any fun z => eqB z x) = true ↔ x ∈ ds := by
  induction ds with
  | nil => simp
  | cons d ds ih =>
    simp only [datL, Bool.and_eq_true] at h
    simp only [List.any_cons, Bool.or_eq_true, List.mem_cons, ih h.2, eqB_iff h.1 hx]
    exact ⟨fun q => q.imp Eq.symm id, fun q => q.imp Eq.symm id⟩
/-- in of tuples -/
theorem inB_lst {xs ds : List D} {y : D} {A : AH} (hy : seqL A y = some ds) (hi : itemsD A y = some ds) (hd : dctD A y = none) (hp : pyOf 12 A y = some (pyD (.lst ds))) (h : (datL xs && datL ds) = true) (h2 : (decide (depL xs ≤ 10) && decide (depL ds ≤ 10)) = true) :
    inB (.tup xs) y A = some (ds.any fun z => eqB z (.tup xs)) := by
  simp only [Bool.and_eq_true, decide_eq_true_eq] at h h2
  have e : inB (.tup xs) y A = (match dctD A y with
    | some kvs => (keyD (.tup xs)).map fun k => (lkK kvs k).isSome
    | none => match itemsD A y with
      | some ds => if (flatD (.tup xs) && ds.all flatD) = true then some (ds.any fun z => feq z (.tup xs)) else
          match seqL A y, pyOf 12 A (.tup xs), pyOf 12 A y with
          | some _, some p, some (.list qs) => if SeqAt.shaped p && SeqAt.shaped (.list qs) then some (qs.any fun z => PyData.eqv z p) else none
          | _, _, _ => none
      | none => none) := by
    cases y <;> rfl
  have s1 : SeqAt.shaped (pyD (.tup xs)) = true := shaped_dat (by simpa [datD] using h.1) (by simp [depD]; omega)
  have s2 : SeqAt.shaped (pyD (.lst ds)) = true := shaped_dat (by simpa [datD] using h.2) (by simp [depD]; omega)
  have p1 : pyOf 12 A (.tup xs) = some (pyD (.tup xs)) := pyOf_dat _ _ (by simpa [datD] using h.1) (by simp [depD]; omega)
  have e2 : pyD (.lst ds) = .list (pyL ds) := by simp [pyD]
  rw [e, hd, hi, hp, hy, p1, e2]
  rw [e2] at s2
  show (if (flatD (.tup xs) && ds.all flatD) = true then _ else _) = _
  rw [if_neg (by simp [flatD])]
  simp only [s1, s2, Bool.and_self, if_true, any_py]
theorem nin_lst {xs ds : List D} {A : AH} (h : (datL xs && datL ds) = true) (h2 : (decide (depL xs ≤ 10) && decide (depL ds ≤ 10)) = true) : ninD (.tup xs) (.lst ds) A = .ok (.bl (!(ds.any fun z => eqB z (.tup xs)))) A := by
  have hb := h
  have hb2 := h2
  simp only [Bool.and_eq_true, decide_eq_true_eq] at hb hb2
  unfold ninD
  rw [inB_lst (y := .lst ds) rfl rfl rfl (pyOf_dat _ _ (by simpa [datD] using hb.2) (by simp [depD]; omega)) h h2]
theorem nin_ref {xs ds : List D} {n : Nat} {A : AH} (hA : A[n]? = some (.lst ds)) (h : (datL xs && datL ds) = true) (h2 : (decide (depL xs ≤ 10) && decide (depL ds ≤ 10)) = true) : ninD (.tup xs) (.ref n) A = .ok (.bl (!(ds.any fun z => eqB z (.tup xs)))) A := by
  have hb := h
  have hb2 := h2
  simp only [Bool.and_eq_true, decide_eq_true_eq] at hb hb2
  have e1 : pyOf 12 A (.ref n) = some (pyD (.lst ds)) := by
    show (match A[n]? with
      | some (.lst ds) => (pysOf (pyOf 11 A) ds).map PyData.list
      | _ => none) = _
    rw [hA]
    dsimp only
    rw [pysOf_dat ds 11 hb.2 (by omega)]
    simp [pyD]
  unfold ninD
  rw [inB_lst (y := .ref n) (by rw [seq_ref, hA]) (by simp [itemsD, seq_ref, hA]) (by rw [dct_ref, hA]) e1 h h2]
theorem datL_all : ∀ {ds : List D}, (∀ d ∈ ds, datD d = true) → datL ds = true
  | [], _ => by simp [datL]
  | d :: ds, h => by simp [datL, h d List.mem_cons_self, datL_all fun e he => h e (List.mem_cons_of_mem _ he)]
theorem depL_all {k : Nat} : ∀ {ds : List D}, (∀ d ∈ ds, depD d ≤ k) → depL ds ≤ k
  | [], _ => Nat.zero_le _
  | d :: ds, h => by
    have h1 := h d List.mem_cons_self
    have h2 := depL_all fun e he => h e (List.mem_cons_of_mem _ he)
    simp only [depL]
    omega
end Tg

set_option Elab.async false
set_option linter.all false
set_option maxRecDepth 100000
set_option maxHeartbeats 2000000
/-! TgWord: words of cells and boxes: numbers, keys, gates. -/
namespace Tg
open PySem L2
open SX (S)
/-! ### comprehensions that change nothing, over what is walked in any way -/
section
variable {g : MG} {tt : MT} {te : ME} {mi : Sl → AH → R IT} {vs : List Nat} {fin : List D → AH → R D} {s w : Sl} {A : AH} {it : IT} {ds : List D}
theorem lcG_all (hn : ∀ i, itNext it i A = some ds[i]?) : ∀ (f i : Nat) (ps : List (Bool × D)), i + f = ds.length + 1 → f ≠ 0 → All2 (fun d b => ∃ s1, g d w = some s1 ∧ tt s1 A = .ok b.1 A ∧ (b.1 = true → te s1 A = .ok b.2 A)) (ds.drop i) ps → lcG g tt te it w f i A = .ok ((ps.filter (·.1)).map (·.2)) A
  | 0, _, _, _, h, _ => absurd rfl h
  | f + 1, i, ps, h, _, hp => by
    unfold lcG
    rw [hn]
    cases hd : ds[i]? with
    | none =>
      rw [List.drop_eq_nil_of_le (List.getElem?_eq_none_iff.mp hd)] at hp
      cases hp
      rfl
    | some d =>
      obtain ⟨hi, rfl⟩ := List.getElem?_eq_some_iff.mp hd
      rw [List.drop_eq_getElem_cons hi] at hp
      cases hp with
      | cons h1 h2 =>
        rename_i b bs
        obtain ⟨s1, e1, e2, e3⟩ := h1
        have ih := lcG_all hn f (i + 1) bs (by omega) (by omega) h2
        dsimp only
        rw [e1]
        dsimp only
        rw [e2, R.bindN_ok]
        cases hb : b.1 with
        | true =>
          rw [if_pos rfl, e3 hb, R.bindN_ok, ih, R.bind_ok, List.filter_cons, hb]
          rfl
        | false =>
          rw [if_neg (by simp), ih, List.filter_cons, hb]
          rfl
theorem lc_all {ps : List (Bool × D)} (h0 : mi s A = .ok it A) (hn : ∀ i, itNext it i A = some ds[i]?) (hlen : itLen it A = ds.length) (hl : ds.length < 16777216)
    (hp : All2 (fun d b => ∃ s1, g d (wpD s vs) = some s1 ∧ tt s1 A = .ok b.1 A ∧ (b.1 = true → te s1 A = .ok b.2 A)) ds ps) : mLc mi g tt te vs fin s A = fin ((ps.filter (·.1)).map (·.2)) A := by
  unfold mLc
  rw [h0, R.bind_ok, hlen, if_pos hl, lcG_all hn (ds.length + 1) 0 ps (by omega) (by omega) hp]
  rfl
theorem nx_data : ∀ i, itNext (.data ds) i A = some ds[i]? := fun _ => rfl
theorem nx_ref {n : Nat} (h : A[n]? = some (.lst ds)) : ∀ i, itNext (.ref n) i A = some ds[i]? := fun i => by simp only [itNext, h]
theorem ln_ref {n : Nat} (h : A[n]? = some (.lst ds)) : itLen (.ref n) A = ds.length := by simp only [itLen, h]
theorem it_ref {n : Nat} {m : ME} (h : m s A = .ok (.ref n) A) (hA : A[n]? = some (.lst ds)) : miAny m s A = .ok (.ref n) A := by
  unfold miAny
  rw [h, R.bind_ok]
  simp only [itOf, hA]
end
@[simp] theorem at4 {α : Type} {p q r s t : α} {xs : List α} : atI (p :: q :: r :: s :: t :: xs) 4 = some t := Tg.atI_nat 4
/-! ### words -/
def R16 : List (List Nat) := [[], [115], [108], [108, 115], [104], [104, 115], [104, 108], [104, 108, 115], [103], [103, 115], [103, 108], [103, 108, 115], [103, 104], [103, 104, 115], [103, 104, 108], [103, 104, 108, 115]]
theorem R16_ok : ∀ l ∈ R16, PyData.strOk (S l) = true ∧ l.length ≤ 4 := by decide +kernel
/-- numbers, keys -/
inductive Pl where
  | num (i : Int) | key (b e a : Int) (r : List Nat)
  deriving DecidableEq
inductive Wo where
  | pl (p : Pl) | gate (g : Int) (p : Pl)
  deriving DecidableEq
def Pl.d : Pl → D
  | .num i => .int i
  | .key b e a r => .tup [.str "key", .int b, .int e, .int a, .str (S r)]
def Wo.d : Wo → D
  | .pl p => p.d
  | .gate g p => .tup [.str "gate", .int g, p.d]
inductive Pl.Ok (most : Nat) : Pl → Prop
  | num {i : Int} : -10000 ≤ i → i < 10000 → Pl.Ok most (.num i)
  | key {b e a : Int} {r : List Nat} : 0 ≤ b → b < most → b + 1 ≤ e → e ≤ most → -10000 ≤ a → a < 10000 → r ∈ R16 → Pl.Ok most (.key b e a r)
inductive Wo.Ok (rows most : Nat) : Wo → Prop
  | pl {p : Pl} : p.Ok most → Wo.Ok rows most (.pl p)
  | gate {g : Int} {p : Pl} : 0 ≤ g → g < rows + 1 → p.Ok most → Wo.Ok rows most (.gate g p)
def Wo.isNum : Wo → Bool
  | .pl (.num _) => true
  | _ => false
theorem ok_key : PyData.strOk (Str.ofString "key") = true := by decide +kernel
theorem ok_gate : PyData.strOk (Str.ofString "gate") = true := by decide +kernel
theorem Pl.Ok.dat {most : Nat} {p : Pl} (h : p.Ok most) : datD p.d = true ∧ depD p.d ≤ 1 := by
  cases h with
  | num => simp [Pl.d, datD, depD]
  | key _ _ _ _ _ _ hr => simp [Pl.d, datD, datL, depD, depL, ok_key, (R16_ok _ hr).1]
theorem Wo.Ok.dat {rows most : Nat} {w : Wo} (h : w.Ok rows most) : datD w.d = true ∧ depD w.d ≤ 2 := by
  cases h with
  | pl h => exact ⟨h.dat.1, Nat.le_trans h.dat.2 (by decide)⟩
  | gate _ _ h =>
    have h1 := h.dat.1
    have h2 := h.dat.2
    refine ⟨by simp [Wo.d, datD, datL, ok_gate, h1], ?_⟩
    simp only [Wo.d, depD, depL]
    omega
theorem Pl.d_inj {p q : Pl} (h : p.d = q.d) : p = q := by
  cases p <;> cases q <;> simp [Pl.d] at h ⊢
  all_goals exact h
theorem Wo.d_inj {p q : Wo} (h : p.d = q.d) : p = q := by
  cases p with
  | pl p =>
    cases q with
    | pl q => exact congrArg Wo.pl (Pl.d_inj h)
    | gate g q => cases p <;> simp [Wo.d, Pl.d] at h
  | gate g p =>
    cases q with
    | pl q => cases q <;> simp [Wo.d, Pl.d] at h
    | gate g' q =>
      simp only [Wo.d, D.tup.injEq, List.cons.injEq, D.int.injEq, and_true, true_and] at h
      rw [h.1, Pl.d_inj h.2]
theorem mem_d {w : Wo} {ws : List Wo} : w.d ∈ ws.map Wo.d ↔ w ∈ ws := by
  refine ⟨fun h => ?_, fun h => List.mem_map_of_mem h⟩
  obtain ⟨v, hv, e⟩ := List.mem_map.mp h
  rw [← Wo.d_inj e]
  exact hv
/-- w.d as a tuple's items -/
def Wo.items (w : Wo) : List D := match w.d with
  | .tup ds => ds
  | _ => []
theorem Wo.d_tup {w : Wo} (h : w.isNum = false) : w.d = .tup w.items := by
  cases w with
  | pl p => cases p with
    | num i => cases h
    | key => rfl
  | gate => rfl
theorem Wo.it_dat {rows most : Nat} {w : Wo} (h : w.Ok rows most) (hn : w.isNum = false) : datL w.items = true ∧ depL w.items ≤ 1 := by
  have h1 := h.dat.1
  have h2 := h.dat.2
  rw [Wo.d_tup hn] at h1 h2
  refine ⟨by simpa [datD] using h1, ?_⟩
  simp only [depD] at h2
  omega
theorem dats {rows most : Nat} {ws : List Wo} (h : ∀ w ∈ ws, w.Ok rows most) : datL (ws.map Wo.d) = true ∧ depL (ws.map Wo.d) ≤ 2 :=
  ⟨datL_all fun d hd => by
    obtain ⟨w, hw, rfl⟩ := List.mem_map.mp hd
    exact (h w hw).dat.1, depL_all fun d hd => by
    obtain ⟨w, hw, rfl⟩ := List.mem_map.mp hd
    exact (h w hw).dat.2⟩
theorem any_w {rows most : Nat} {ws : List Wo} {w : Wo} (h : ∀ w ∈ ws, w.Ok rows most) (hw : w.Ok rows most) (hn : w.isNum = false) : ((ws.map Wo.d).any fun z => eqB z (.tup w.items)) = decide (w ∈ ws) := by
  have e := any_mem (x := .tup w.items) (by rw [← Wo.d_tup hn]; exact hw.dat.1) (dats h).1
  rw [← Wo.d_tup hn, mem_d] at e
  rw [← Wo.d_tup hn]
  by_cases q : w ∈ ws
  · rw [e.mpr q, decide_eq_true q]
  · rw [decide_eq_false q]
    cases z : (ws.map Wo.d).any fun z => eqB z w.d with
    | false => rfl
    | true => exact absurd (e.mp z) q
/-- w not in a list, one that lies still -/
theorem nin_w {rows most : Nat} {ws : List Wo} {w : Wo} {A : AH} (h : ∀ w ∈ ws, w.Ok rows most) (hw : w.Ok rows most) (hn : w.isNum = false) : ninD w.d (.lst (ws.map Wo.d)) A = .ok (.bl (!(decide (w ∈ ws)))) A := by
  have a := Wo.it_dat hw hn
  have b := dats h
  rw [Wo.d_tup hn, nin_lst (by rw [a.1, b.1]; rfl) (by simp only [Bool.and_eq_true, decide_eq_true_eq]; omega), any_w h hw hn]
theorem nin_wR {rows most n : Nat} {ws : List Wo} {w : Wo} {A : AH} (hA : A[n]? = some (.lst (ws.map Wo.d))) (h : ∀ w ∈ ws, w.Ok rows most) (hw : w.Ok rows most) (hn : w.isNum = false) : ninD w.d (.ref n) A = .ok (.bl (!(decide (w ∈ ws)))) A := by
  have a := Wo.it_dat hw hn
  have b := dats h
  rw [Wo.d_tup hn, nin_ref hA (by rw [a.1, b.1]; rfl) (by simp only [Bool.and_eq_true, decide_eq_true_eq]; omega), any_w h hw hn]
/-! ### what is come to -/
def hasG (r : List Nat) : Bool := decide (103 ∈ r) && decide (104 ∈ r)
/-- the words that a word leads to -/
def succs (gates : Bool) (cells : List Wo) : Wo → List Wo
  | .pl (.num _) => []
  | .pl (.key b e _ r) => if hasG r then (cells.drop b.toNat).take (e.toNat - b.toNat) else []
  | .gate _ p => if gates then [.pl p] else []
inductive Reach (gates : Bool) (cells boxes : List Wo) : Wo → Prop
  | box {w : Wo} : w ∈ boxes → w.isNum = false → Reach gates cells boxes w
  | step {v w : Wo} : Reach gates cells boxes v → w ∈ succs gates cells v → w.isNum = false → Reach gates cells boxes w
def inner : Wo → List Wo
  | .gate _ p => [.pl p]
  | _ => []
def univ (cells boxes : List Wo) : List Wo := boxes ++ cells ++ (boxes.flatMap inner ++ cells.flatMap inner)
theorem Reach.num {gates : Bool} {cells boxes : List Wo} {w : Wo} (h : Reach gates cells boxes w) : w.isNum = false := by
  cases h <;> assumption
theorem mem_inner {v w : Wo} (h : w ∈ inner v) : ∃ p, w = .pl p := by
  cases v with
  | pl p => cases h
  | gate g p => exact ⟨p, List.mem_singleton.mp h⟩
theorem succ_univ {gates : Bool} {cells boxes : List Wo} {v w : Wo} (hv : v ∈ univ cells boxes) (h : w ∈ succs gates cells v) : w ∈ univ cells boxes := by
  unfold univ at hv ⊢
  cases v with
  | pl p =>
    cases p with
    | num i => cases h
    | key b e a r =>
      simp only [succs] at h
      split at h
      · have := List.mem_of_mem_drop (List.mem_of_mem_take h)
        exact List.mem_append_left _ (List.mem_append_right _ this)
      · cases h
  | gate g p =>
    simp only [succs] at h
    split at h
    · have e := List.mem_singleton.mp h
      have hi : w ∈ inner (.gate g p) := by rw [e]; exact List.mem_singleton.mpr rfl
      rcases List.mem_append.mp hv with hv | hv
      · rcases List.mem_append.mp hv with hv | hv
        · exact List.mem_append_right _ (List.mem_append_left _ (List.mem_flatMap.mpr ⟨_, hv, hi⟩))
        · exact List.mem_append_right _ (List.mem_append_right _ (List.mem_flatMap.mpr ⟨_, hv, hi⟩))
      · rcases List.mem_append.mp hv with hv | hv
        · obtain ⟨z, _, hz⟩ := List.mem_flatMap.mp hv
          obtain ⟨q, e2⟩ := mem_inner hz
          cases e2
        · obtain ⟨z, _, hz⟩ := List.mem_flatMap.mp hv
          obtain ⟨q, e2⟩ := mem_inner hz
          cases e2
    · cases h
theorem Reach.univ {gates : Bool} {cells boxes : List Wo} {w : Wo} (h : Reach gates cells boxes w) : w ∈ univ cells boxes := by
  induction h with
  | box h _ => exact List.mem_append_left _ (List.mem_append_left _ h)
  | step _ h _ ih => exact succ_univ ih h
theorem inner_len : ∀ {l : List Wo}, (l.flatMap inner).length ≤ l.length
  | [] => Nat.le_refl _
  | w :: l => by
    have := inner_len (l := l)
    have h1 : (inner w).length ≤ 1 := by cases w <;> simp [inner]
    simp only [List.flatMap_cons, List.length_append, List.length_cons]
    omega
theorem univ_len {cells boxes : List Wo} : (univ cells boxes).length ≤ 2 * (cells.length + boxes.length) := by
  have h1 := inner_len (l := boxes)
  have h2 := inner_len (l := cells)
  simp only [univ, List.length_append]
  omega
theorem succ_ok {gates : Bool} {cells : List Wo} {rows most : Nat} {v w : Wo} (hc : ∀ w ∈ cells, w.Ok rows most) (hv : v.Ok rows most) (h : w ∈ succs gates cells v) : w.Ok rows most := by
  cases hv with
  | pl hp =>
    cases hp with
    | num => cases h
    | key =>
      simp only [succs] at h
      split at h
      · exact hc _ (List.mem_of_mem_drop (List.mem_of_mem_take h))
      · cases h
  | gate _ _ hp =>
    simp only [succs] at h
    split at h
    · rw [List.mem_singleton.mp h]
      exact .pl hp
    · cases h
/-- pigeons -/
theorem nodup_le {α : Type} [DecidableEq α] : ∀ {l u : List α}, l.Nodup → (∀ x ∈ l, x ∈ u) → l.length ≤ u.length
  | [], _, _, _ => Nat.zero_le _
  | x :: l, u, hn, h => by
    have hn' := List.nodup_cons.mp hn
    have hx := h x List.mem_cons_self
    have ih := nodup_le (l := l) (u := u.erase x) hn'.2 fun y hy => by
      refine (List.mem_erase_of_ne fun e => ?_).mpr (h y (List.mem_cons_of_mem _ hy))
      exact hn'.1 (e ▸ hy)
    rw [List.length_erase_of_mem hx] at ih
    have : 0 < u.length := List.length_pos_of_mem hx
    simp only [List.length_cons]
    omega
/-- does a word's key touch a cell by a letter? -/
def touch (c : Int) (l : Nat) : Wo → Bool
  | .pl (.key b e _ r) => decide (b ≤ c) && (decide (c < e) && decide (l ∈ r))
  | _ => false
/-- the letters of a cell -/
def lettersOf (ws : List Wo) (c : Int) : List Nat := (if ws.any (touch c 103) then [103] else []) ++ (if ws.any (touch c 115) then [115] else [])
theorem letters_same {ws vs : List Wo} (h : ∀ w : Wo, (∃ b e a r, w = .pl (.key b e a r)) → (w ∈ ws ↔ w ∈ vs)) (c : Int) : lettersOf ws c = lettersOf vs c := by
  have e : ∀ l, ws.any (touch c l) = vs.any (touch c l) := fun l => by
    rw [Bool.eq_iff_iff, List.any_eq_true, List.any_eq_true]
    have key : ∀ w : Wo, touch c l w = true → ∃ b e a r, w = .pl (.key b e a r) := fun w hw => by
      cases w with
      | pl p => cases p with
        | num => cases hw
        | key b e a r => exact ⟨b, e, a, r, rfl⟩
      | gate => cases hw
    exact ⟨fun ⟨w, h1, h2⟩ => ⟨w, (h w (key w h2)).mp h1, h2⟩, fun ⟨w, h1, h2⟩ => ⟨w, (h w (key w h2)).mpr h1, h2⟩⟩
  unfold lettersOf
  rw [e, e]
end Tg

set_option Elab.async false
set_option linter.all false
set_option maxRecDepth 100000
set_option maxHeartbeats 4000000
/-! TgSrt: sorted(a dict whose keys are numbers), dict(a list of pairs), a tuple many or few times, x, o[i] = e. -/
namespace Tg
open PySem PySem.Spec PyProof.Rows L2
/-! ### sorted -/
def rSortK : List V → Hp → VK → Prop := fun xs H Q =>
  ∃ (a : Addr) (kvs : List (Key × V)) (ks : List Int), xs = [.ref a] ∧ Rd H a (.dK kvs) ∧ kvs.map (·.1) = ks.map Sum.inl ∧ ks.length ≤ 1000 ∧
    ∀ (ys : List Int) (p : Addr), ys.Perm ks → ys.Pairwise (· ≤ ·) → H p = none → Q (.ref p) (upd H p (.lst (ys.map V.int)))
theorem oSrtK {X : Cx} (hcalm : X.calm = true) : CallR X (.builtin "sorted") rSortK := by
  intro pins s σ H xs us Q I r q
  obtain ⟨a, kvs, ks, rfl, hd, hks, hmany, q⟩ := q
  obtain ⟨u, rfl, rx⟩ := vals1 r
  cases rx
  obtain ⟨z, lo, vs, rel, dd⟩ := dk_rd I.hok hd
  obtain ⟨ep, hat⟩ := dd.dictAt
  have keys : vs.map (·.1) = ks.map Sum.inl := rel.keys.symm.trans hks
  have len : vs.length = ks.length := by simpa using congrArg List.length keys
  refine Calls.call_function_entry kind_sorted plain_sorted entry_sorted (args_sorted1 _) ?_
  unfold Builtin.«sorted»
  refine wpAny_bind (m := checkCount "sorted" 1 1 _) (wpAny_pure (wpAny_bind ?_))
  refine PySem.W.kdu_collect (A := X.A.in1) (PySem.W.kdl_dict (knd := mixKind X.prog X.w) (kvs := vs) (ep := ep) lo) (I.ok.hd hcalm) hat (by rw [len, sizeLine_eq]; omega) fun h' tk acc kept seen => ?_
  have alen : acc.toList.length = ks.length := by rw [Array.length_toList, seen.1, len]
  have areI : IntsAre acc.toList ks := L2.ints_each alen fun j v e => by
    obtain ⟨k, x, e1, e2⟩ := seen.2 j v (by rw [← Array.getElem?_toList]; exact e)
    have e3 : (vs.map (·.1))[j]? = some k := by rw [List.getElem?_map, e1]; rfl
    rw [keys, List.getElem?_map] at e3
    obtain ⟨y, e4, e5⟩ := Option.map_eq_some_iff.mp e3
    subst e5
    rcases keyIs_shape (show keyIs (Sum.inl y) v = true from e2) with ⟨i, t, ek, ev⟩ | ⟨i, t, ek, ev⟩
    · cases ek
      exact ⟨y, t, e4, ev⟩
    · cases ek
  have I1 : Inv X pins σ H { s with heap := h', toks := tk } := I.kept kept
  have az : acc.toList.length ≤ sizeLine := by rw [alen, sizeLine_eq]; omega
  refine wpAny_bind (wpAny_newList ?_ az)
  have new : (h'.push (seqObj "list" acc.toList.toArray 0)).get? h'.objs.size = some (seqObj "list" acc.toList.toArray 0) := Heap.get?_push_size _ rfl
  show wpAny _ _ _ _ _ { s with heap := h'.push (seqObj "list" acc.toList.toArray 0), toks := tk }
  refine wpAny_bind (wpAny_holding (wpAny_call_entry slot_list_sort ⟨_, new, rfl⟩ entry_list_sort
    (SrtO.list_sort_ord SrtO.swo_int (s := { s with heap := h'.push (seqObj "list" acc.toList.toArray 0), toks := tk }) new az (fun h2 => SrtO.ints_sortable areI h2) fun out g1 g2 => ⟨_, rfl, ?_⟩) (args_list_sort _)))
  obtain ⟨k1, k2, k3⟩ := SrtO.ints_out areI g1 g2
  obtain ⟨e', there⟩ := PyProof.Rows.sortedHeap_at (vs := acc.toList) (out := out.toArray) new
  have olen : ((out.map SrtO.iv).map V.int).length ≤ sizeLine := by
    rw [List.length_map, k2.length_eq, sizeLine_eq]
    exact Nat.le_trans hmany (by decide)
  refine wpAny_pure ⟨_, rfl, .ref h'.objs.size, upd H h'.objs.size (.lst ((out.map SrtO.iv).map V.int)), I1.laid (t' := tk) (fun b u e => ?_) (Nat.le_refl _)
    (show ObjOk X.prog X.w _ _ _ (.lst ((out.map SrtO.iv).map V.int)) from ⟨olen, out, e', vals_of_ints k1, there⟩), rfl, q _ _ k2 k3 (I1.hok.fresh (Nat.le_refl _))⟩
  have lt : b < h'.objs.size := Heap.lt_size e
  rw [PyProof.Rows.sortedHeap_old (Nat.ne_of_lt lt) (by rw [size_push']; exact Nat.lt_succ_of_lt lt)]
  exact Heap.get?_push_of_some _ e
def keysI : List (Key × D) → Option (List Int)
  | [] => some []
  | (.inl i, _) :: r => (keysI r).map (i :: ·)
  | _ => none
def insI (x : Int) : List Int → List Int
  | [] => [x]
  | y :: l => if x ≤ y then x :: y :: l else y :: insI x l
def srtI : List Int → List Int
  | [] => []
  | x :: l => insI x (srtI l)
theorem insI_perm (x : Int) : ∀ l, (insI x l).Perm (x :: l)
  | [] => .refl _
  | y :: l => by
    unfold insI
    split
    · exact .refl _
    · exact ((insI_perm x l).cons y).trans (.swap x y l)
theorem srtI_perm : ∀ l, (srtI l).Perm l
  | [] => .refl _
  | x :: l => (insI_perm x _).trans ((srtI_perm l).cons x)
theorem insI_sorted (x : Int) : ∀ l, l.Pairwise (· ≤ ·) → (insI x l).Pairwise (· ≤ ·)
  | [], _ => by simp [insI]
  | y :: l, h => by
    unfold insI
    obtain ⟨h1, h2⟩ := List.pairwise_cons.mp h
    split
    · rename_i q
      exact List.pairwise_cons.mpr ⟨fun z hz => by
        rcases List.mem_cons.mp hz with e | e
        · omega
        · have := h1 z e
          omega, h⟩
    · rename_i q
      refine List.pairwise_cons.mpr ⟨fun z hz => ?_, insI_sorted x l h2⟩
      rcases List.mem_cons.mp ((insI_perm x l).mem_iff.mp hz) with e | e
      · omega
      · exact h1 z e
theorem srtI_sorted : ∀ l, (srtI l).Pairwise (· ≤ ·)
  | [] => .nil
  | x :: l => insI_sorted x _ (srtI_sorted l)
theorem sorted_one : ∀ {a b : List Int}, a.Pairwise (· ≤ ·) → b.Pairwise (· ≤ ·) → a.Perm b → a = b
  | [], b, _, _, h => h.nil_eq
  | x :: a, b, ha, hb, h => by
    cases b with
    | nil => exact h.eq_nil
    | cons y b =>
      obtain ⟨a1, a2⟩ := List.pairwise_cons.mp ha
      obtain ⟨b1, b2⟩ := List.pairwise_cons.mp hb
      have hx : x ≤ y := by
        rcases List.mem_cons.mp (h.mem_iff.mpr (List.mem_cons_self (a := y) (l := b))) with e | e
        · omega
        · exact a1 y e
      have hy : y ≤ x := by
        rcases List.mem_cons.mp (h.mem_iff.mp (List.mem_cons_self (a := x) (l := a))) with e | e
        · omega
        · exact b1 x e
      have e : x = y := by omega
      subst e
      rw [sorted_one a2 b2 h.cons_inv]
def sortKD : List D → AH → R D
  | [d], A => match (dctD A d).bind keysI with
    | some ks => if ks.length ≤ 1000 then .ok (.lst ((srtI ks).map D.int)) A else .bad
    | none => .bad
  | _, _ => .bad
section
variable {K : PySem.W.Frag} {mg : Str → Option Value}
theorem keysI_at : ∀ {kvs : List (Key × D)} {ks : List Int}, keysI kvs = some ks → kvs.map (·.1) = ks.map Sum.inl
  | [], ks, e => by
    cases (show some [] = some ks from e)
    rfl
  | (.inl i, d) :: r, ks, e => by
    obtain ⟨l, e1, rfl⟩ := Option.map_eq_some_iff.mp (show (keysI r).map (i :: ·) = some ks from e)
    rw [List.map_cons, List.map_cons, keysI_at e1]
  | (.inr _, d) :: r, ks, e => nomatch (show (none : Option (List Int)) = some ks from e)
theorem reps_ns {W : Wd} : ∀ ns : List Int, Reps K W (ns.map D.int) (ns.map V.int)
  | [] => rfl
  | n :: ns => ⟨_, _, rfl, rfl, reps_ns ns⟩
theorem oSrtKS : CallS K mg rSortK sortKD := fun W A H E Q ds xs k r h => by
  unfold sortKD at h
  split at h
  · rename_i d
    obtain ⟨v, rfl, h1⟩ := reps1 r
    split at h
    · rename_i ks e1
      obtain ⟨kvs, e2, e3⟩ := Option.bind_eq_some_iff.mp e1
      obtain ⟨a, vs, rfl, h2, h3⟩ := dctD_at k h1 e2
      split at h
      · rename_i hz
        refine ⟨a, vs, ks, rfl, .inl h2, h3.1.trans (keysI_at e3), hz, fun ys p g1 g2 hp => ?_⟩
        have e : srtI ks = ys := sorted_one (srtI_sorted ks) g2 ((srtI_perm ks).trans g1.symm)
        rw [← e]
        exact post_lst k h (reps_ns _) hp
      · exact h.elim
    · exact h.elim
  · exact h.elim
/-! ### dict(pairs) -/
def dictPD : List D → AH → R D
  | [d], A => match (seqL A d).bind pairsD with
    | some kvs => .ok (.dct ((mergeD [] kvs).map (·.1)) ((mergeD [] kvs).map (·.2))) A
    | none => .bad
  | _, _ => .bad
def rDictP (K : PySem.W.Frag) : List V → Hp → VK → Prop := fun xs H Q =>
  ∃ (a : Addr) (ps : List Addr) (kvs : List (Key × V)), xs = [.ref a] ∧ SqL K H a (ps.map V.ref) ∧ Paired (fun p kv => SqT K H p [kV kv.1, kv.2]) ps kvs ∧ ∀ p, H p = none → Q (.ref p) (upd H p (.dK (mergeK [] kvs)))
theorem oDictP {X : Cx} (hcalm : X.calm = true) : CallR X (.type "dict") (rDictP X.K) := call_dictP hcalm
theorem oDictPS : CallS K mg (rDictP K) dictPD := fun W A H E Q ds xs k r h => by
  unfold dictPD at h
  split at h
  · obtain ⟨v, rfl, h1⟩ := reps1 r
    split at h
    · rename_i kvs e1
      obtain ⟨es, e2, e3⟩ := Option.bind_eq_some_iff.mp e1
      obtain ⟨a, ys, rfl, h2, h3⟩ := seqL_at k h1 e2
      obtain ⟨qs, kvs', rfl, g1, g2⟩ := pairsD_at k h3 e3
      refine ⟨a, qs, kvs', rfl, h2, g1, fun p hp => ?_⟩
      have kr : KVR K W (mergeD [] kvs) (mergeK [] kvs') := KVR.merge g2 ⟨rfl, rfl⟩
      obtain ⟨k1, x1⟩ := k.frozen hp (.dK (mergeK [] kvs'))
      exact h _ _ _ x1 k1 ⟨p, mergeK [] kvs', rfl, upd_same, kr.1, kr.2.le x1.le⟩
    · exact h.elim
  · exact h.elim
end
/-! ### a tuple some times -/
theorem tup_mul1 (l : Addr) (items : Array Value) (n : Nat) (dd : Option Addr) (sl : Array (Option Value)) (u : Tok) :
    Meets (Builtin.«tuple.__mul__» ⟨[.ref l, .int 1 u], []⟩) (fun _ R s => s.heap.get? l = some { cls := .type "tuple", dict := dd, data := .seq items n, slots := sl } ∧ R (.ok (.ret (Value.ref l))) s) :=
  .of_wp fun prog w A R s h => by
    obtain ⟨hp, g, d, tk, os⟩ := s
    obtain ⟨hl, h⟩ := h
    have f1 := AutoSeq1.idx_int
    wp_walk using wpAny_loadPart' hl
    exact ⟨_, rfl, h⟩
theorem tup_mul0 (l : Addr) (items : Array Value) (n : Nat) (dd : Option Addr) (sl : Array (Option Value)) (x : Int) (u : Tok) (c0 : (decide (x < -(2 ^ 63)) || decide (x ≥ 2 ^ 63)) = false) (c1 : (items.isEmpty || x == 1) = false) (c2 : (decide (x ≤ 0) || items.isEmpty) = true) :
    Meets (Builtin.«tuple.__mul__» ⟨[.ref l, .int x u], []⟩) (fun _ R s => s.heap.get? l = some { cls := .type "tuple", dict := dd, data := .seq items n, slots := sl } ∧
      R (.ok (.ret (Value.ref s.heap.objs.size))) { s with heap := s.heap.push { cls := Value.type "tuple", data := Data.seq #[] }, toks := s.toks }) :=
  .of_wp fun prog w A R s h => by
    obtain ⟨hp, g, d, tk, os⟩ := s
    obtain ⟨hl, h⟩ := h
    have f1 := AutoSeq1.idx_int
    wp_walk using wpAny_loadPart' hl
    repeat (first
      | (refine wpAny_ite_false (decide_eq_false (by rw [c0]; exact Bool.false_ne_true)) ?_; wp_walk using wpAny_loadPart' hl)
      | (refine wpAny_ite_false (decide_eq_false (by rw [c1]; exact Bool.false_ne_true)) ?_; wp_walk using wpAny_loadPart' hl)
      | (refine wpAny_ite_true (decide_eq_true (by rw [c2])) ?_; wp_walk using wpAny_loadPart' hl))
    exact ⟨_, rfl, h⟩
def rMulT (K : PySem.W.Frag) : R2 := fun x y H Q => rRepT K x y H Q ∨ ∃ l k xs, x = .ref l ∧ y = .int k ∧ SqT K H l xs ∧ xs ≠ [] ∧ -1000 ≤ k ∧ k ≤ 1 ∧
  ((k = 1 ∧ Q (.ref l) H) ∨ (k ≤ 0 ∧ ∀ p, H p = none → Q (.ref p) (upd H p (.tup []))))
theorem oMulT {X : Cx} : OpR X (binaryOp .Mult) (rMulT X.K) := by
  refine op_repT.or ?_
  intro pins s σ H x y v u Q I rx ry h
  obtain ⟨l, k, xs, rfl, rfl, hT, hne, h1, h2, q⟩ := h
  cases rx
  obtain ⟨t, rfl⟩ := ry
  obtain ⟨its, r, ⟨⟨cls, dd, data, sl⟩, ho, hc, n, hd⟩, hs⟩ := I.tuple hT
  simp only at hc hd
  subst hc hd
  have hi : its.toArray.isEmpty = false := by
    cases its with
    | nil => exact absurd (List.eq_nil_of_length_eq_zero r.length) hne
    | cons a b => rfl
  rcases q with ⟨rfl, q⟩ | ⟨hk, q⟩
  · exact wpAny_binaryOp_repeat_ref (T := "tuple") (U := "int") (by decide) ⟨_, ho, rfl⟩ (fun s' => typeIs_int s' 1 t) noFill_tuple_mul F.fills_int_mul F.slot_int_rmul repeat_tuple F.slot_int_index.lookup
      (call_meets F.slot_int_rmul (typeIs_int s 1 t) F.entry_int_rmul (F.args_int_rmul_2 _ _) (int_rmul_tuple 1 t l its.toArray n dd sl)
        ⟨ho, rfl, ⟨_, ho, rfl⟩, call_meets F.slot_tuple_mul ⟨_, ho, rfl⟩ F.entry_tuple_mul (F.args_tuple_mul_2 _ _) (tup_mul1 l its.toArray n dd sl t) ⟨ho, ⟨.ref l, H, I, rfl, q⟩⟩⟩)
  · have c0 : (decide (k < -(2 ^ 63)) || decide (k ≥ 2 ^ 63)) = false := by
      rw [decide_eq_false (by omega), decide_eq_false (by omega)]
      rfl
    have c1 : (its.toArray.isEmpty || k == 1) = false := by
      rw [hi, Bool.false_or]
      exact beq_eq_false_iff_ne.mpr (by omega)
    have c2 : (decide (k ≤ 0) || its.toArray.isEmpty) = true := by
      rw [decide_eq_true hk]
      rfl
    refine wpAny_binaryOp_repeat_ref (T := "tuple") (U := "int") (by decide) ⟨_, ho, rfl⟩ (fun s' => typeIs_int s' k t) noFill_tuple_mul F.fills_int_mul F.slot_int_rmul repeat_tuple F.slot_int_index.lookup
      (call_meets F.slot_int_rmul (typeIs_int s k t) F.entry_int_rmul (F.args_int_rmul_2 _ _) (int_rmul_tuple k t l its.toArray n dd sl)
        ⟨ho, rfl, ⟨_, ho, rfl⟩, call_meets F.slot_tuple_mul ⟨_, ho, rfl⟩ F.entry_tuple_mul (F.args_tuple_mul_2 _ _) (tup_mul0 l its.toArray n dd sl k t c0 c1 c2) ⟨ho, ?_⟩⟩)
    exact ⟨.ref s.heap.objs.size, _, I.laid (t' := s.toks) (o := .tup []) (fun b ob z => Heap.get?_push_of_some _ z) (Nat.le_refl _) ⟨Nat.zero_le _, [], .nil, IsTup.new _ _⟩, rfl, q _ (I.hok.fresh (Nat.le_refl _))⟩
def mulT : D → D → AH → R D
  | .tup ds, .int k, A => if ds ≠ [] ∧ -1000 ≤ k ∧ k ≤ 1000 ∧ ds.length ≤ 1000 then .ok (.tup (repD k.toNat ds)) A else .bad
  | _, _, _ => .bad
theorem oMulTS {K : PySem.W.Frag} {mg : Str → Option Value} : OpS K mg (rMulT K) mulT := fun W A H E Q d e x y k rx ry h => by
  unfold mulT at h
  split at h
  · rename_i ds i
    split at h
    · rename_i z
      obtain ⟨z1, z2, z3, z4⟩ := z
      obtain ⟨a, xs, ex, sx, r1⟩ := tup_at k rx
      have ne : xs ≠ [] := fun q => z1 (by
        subst q
        exact List.length_eq_zero_iff.mp r1.length.symm)
      by_cases h2 : 2 ≤ i
      · exact .inl ⟨a, _, xs, ex, ry, sx, ne, h2, z3, by rw [r1.length]; exact z4, fun p hp => post_tup k h (r1.rep _) hp⟩
      · refine .inr ⟨a, _, xs, ex, ry, sx, ne, z2, by omega, ?_⟩
        by_cases h1 : i = 1
        · subst h1
          refine .inl ⟨rfl, ?_⟩
          have e : repD (1 : Int).toNat ds = ds := by
            show (List.replicate 1 ds).flatten = ds
            simp
          rw [e] at h
          rw [← ex]
          exact h.ok_at k rx
        · refine .inr ⟨by omega, fun p hp => ?_⟩
          have e : repD i.toNat ds = [] := by
            rw [show i.toNat = 0 by omega]
            rfl
          rw [e] at h
          exact post_tup k h rfl hp
    · exact h.elim
  · exact h.elim
/-! ### x, o[i] = e -/
theorem stSub_at {K : PySem.W.Frag} {mg : Str → Option Value} {W : Wd} {A A4 : AH} {H : Hp} {x y d : D} {u w v : V} {Q : Hp → Prop} (k : Ok K mg W A H) (ro : Rep K W x u) (ri : Rep K W y w) (rd : Rep K W d v) (e : stSub x y d A = some A4)
    (q : ∀ H4, Ext W H W H4 → Ok K mg W A4 H4 → Q H4) : rSetU u w v H Q := by
  unfold stSub at e
  split at e
  · obtain ⟨a, rfl, ha'⟩ := ro
    split at e
    · rename_i ds q2
      split at e
      · rename_i kx
        split at e
        · rename_i jx q4
          cases e
          obtain ⟨xs, hx, rr⟩ := k.lookL ha' q2
          obtain ⟨k4, e4⟩ := k.write ha' (u := .lst (ds.set jx d)) (o := .lst (xs.set jx v)) (obl (rr.set jx rd))
          exact .inl ⟨a, xs, kx, jx, rfl, ri, hx, by rw [rr.length]; exact q4, q _ e4 k4⟩
        · cases e
      · cases e
    · rename_i kvs q2
      split at e
      · rename_i kx q3
        split at e
        · rename_i q4
          cases e
          obtain ⟨vs, hx, hk, rr⟩ := k.obj _ a _ ha' q2
          have kr : KVR K W kvs vs := ⟨hk, rr⟩
          obtain ⟨k4, e4⟩ := k.write ha' (u := .dct (ptK kvs kx d)) (o := .dK (putK vs kx v)) (obd (kr.put rd))
          refine .inr ⟨a, _, rfl, ?_, q _ e4 k4⟩
          rw [keyD_at ri q3]
          exact .k hx (by rw [sizeLine_eq, kr.len]; exact q4)
        · cases e
      · cases e
    · cases e
  · cases e
def mAsgTS (i : Nat) (me mo mi : ME) : MS := fun s A => (me s A).thenS s fun d A1 => match d with
  | .tup [x, y] => (mo (s.set i (some x)) A1).thenS (s.set i (some x)) fun o A2 => (mi (s.set i (some x)) A2).thenS (s.set i (some x)) fun j A3 => match stSub o j y A3 with
    | some A4 => .nx (s.set i (some x)) A4
    | none => .bad
  | _ => .bad
theorem sasgTS {X : Cx} {Wx : WX} {i : Nat} {x : Str} {o j e : Expr} {to ti te : TE} {mo mi me : ME} {px ps pt pos : Pos} {kt kk : Nat} (hr : Room kk X.A) (hc : X.calm = true) (hN : X.N.Nodup)
    (h : SE X Wx e te me) (ho : SE X Wx o to mo) (hj : SE X Wx j ti mi)
    (hi : X.N[i]? = some x := by rfl) (hx : Loc X.env.scope x := by first | exact Or.inl rfl | exact Or.inr rfl) (hf : X.fn x = true ∨ X.env.scope.names.lookup x = some .local := by first | exact .inl rfl | exact .inr rfl | assumption)
    (ha : ∀ v, assign (.Subscript o j ps) X.env v = (do
      let ov ← holding [v] (eval o X.env)
      let iv ← holding [v, ov] (eval j X.env)
      standAt ps
      holding [v, ov, iv] (setItem ov iv v)
      release [v, ov, iv] []) := by intro _; rfl)
    (h1 : (assignEach [.Name x px, .Subscript o j ps] X.env).map (·.2) = assign (.Name x px) X.env :: (assignEach [.Subscript o j ps] X.env).map (·.2) := by rfl)
    (h2 : (assignEach [.Subscript o j ps] X.env).map (·.2) = assign (.Subscript o j ps) X.env :: (assignEach [] X.env).map (·.2) := by rfl)
    (hn : (assignEach [.Name x px, .Subscript o j ps] X.env).length = 2 := by rfl) (hst : (assignEach [.Name x px, .Subscript o j ps] X.env).findIdx? (·.1) = none := by rfl)
    (hs : swapsWithSole [.Tuple [.Name x px, .Subscript o j ps] kt pt] e pos.line X.env = pure false := by rfl) (hw : swappedStores [.Tuple [.Name x px, .Subscript o j ps] kt pt] e X.env = pure none := by rfl)
    (h3 : (assignEach [.Tuple [.Name x px, .Subscript o j ps] kt pt] X.env).map (·.2) = [assign (.Tuple [.Name x px, .Subscript o j ps] kt pt) X.env] := by rfl) :
    SS X Wx (.Assign [.Tuple [.Name x px, .Subscript o j ps] kt pt] e pos) (tAsg te (gTup X.K 2 (gCons (gName i) (gCons (gSub to ti rSetU) gNil)))) (mAsgTS i me mo mi) :=
  ⟨ps_asg h.pe (pg_tup hc (pgs_cons (pg_name hN hi hx hf) (pgs_cons (pg_sub ho.pe hj.pe (set_any hr) ha) pgs_nil h2) h1) hn hst) hs hw h3, fun W σ s A H De k sr z => h.sim W σ s A H _ k sr (PostS.bind (rel := Rep X.K) sr z fun d A1 v W1 H1 e1 k1 r1 z1 => by
    split at z1
    · rename_i dx dy
      obtain ⟨a, xs, rfl, sx, rr⟩ := tup_at k1 r1
      obtain ⟨vx, vy, rfl, rx, ry⟩ := reps2 rr
      have sr1 := (sr.le e1.le).set i rx
      refine ⟨a, _, rfl, sx, rfl, vx, _, rfl, vy, _, rfl, ?_⟩
      exact ho.sim W1 _ _ A1 H1 _ k1 sr1 (PostS.bind (rel := Rep X.K) sr1 z1 fun xo A2 u W2 H2 e2 k2 r2 z2 =>
        hj.sim W2 _ _ A2 H2 _ k2 (sr1.le e2.le) (PostS.bind (rel := Rep X.K) (sr1.le e2.le) z2 fun yj A3 w W3 H3 e3 k3 r3 z3 => by
          split at z3
          · rename_i A4 q
            exact stSub_at k3 (r2.le e3.le) r3 (ry.le (e2.trans e3).le) q fun H4 e4 k4 => ⟨rfl, z3 _ _ _ e4 k4 (sr1.le (e2.trans e3).le)⟩
          · exact z3.elim))
    · exact z1.elim)⟩
end Tg

set_option Elab.async false
set_option linter.all false
set_option maxRecDepth 100000
set_option maxHeartbeats 2000000
/-! TgRef: loops and comprehensions over what is walked in any way, while the heap changes. -/
namespace Tg
open PySem L2
section
variable {g : MG} {b : MS} {mi : Sl → AH → R IT} {it : IT} {ds : List D}
theorem forG_or (I : Nat → Sl → AH → Prop) (Q : D → AH → Prop) (hn : ∀ j s A, I j s A → itNext it j A = some ds[j]?)
    (h : ∀ j d s A, ds[j]? = some d → I j s A → ∃ s1, g d s = some s1 ∧ ((∃ s2 A2, b s1 A = .nx s2 A2 ∧ I (j + 1) s2 A2) ∨ ∃ x A2, b s1 A = .rt x A2 ∧ Q x A2)) :
    ∀ (f k : Nat) (s : Sl) (A : AH), I k s A → k + f = ds.length + 1 → f ≠ 0 → (∃ s' A', forG g b it f k s A = .nx s' A' ∧ I ds.length s' A') ∨ ∃ x A', forG g b it f k s A = .rt x A' ∧ Q x A'
  | 0, _, _, _, _, _, h => absurd rfl h
  | f + 1, k, s, A, hI, hf, _ => by
    have e0 := hn k s A hI
    cases hd : ds[k]? with
    | none =>
      have hk : k = ds.length := by
        have := List.getElem?_eq_none_iff.mp hd
        omega
      subst hk
      refine .inl ⟨s, A, ?_, hI⟩
      unfold forG
      rw [e0, hd]
    | some d =>
      have hk := (List.getElem?_eq_some_iff.mp hd).1
      obtain ⟨s1, h1, h2⟩ := h k d s A hd hI
      rcases h2 with ⟨s2, A2, h2, h3⟩ | ⟨x, A2, h2, h3⟩
      · have e1 : forG g b it (f + 1) k s A = forG g b it f (k + 1) s2 A2 := by
          conv => lhs; unfold forG
          rw [e0, hd]
          dsimp only
          rw [h1]
          dsimp only
          rw [h2]
        rw [e1]
        exact forG_or I Q hn h f (k + 1) s2 A2 h3 (by omega) (by omega)
      · refine .inr ⟨x, A2, ?_, h3⟩
        unfold forG
        rw [e0, hd]
        dsimp only
        rw [h1]
        dsimp only
        rw [h2]
theorem mFor_or {s : Sl} {A A1 : AH} (I : Nat → Sl → AH → Prop) (Q : D → AH → Prop) (h0 : mi s A = .ok it A1) (hl : itLen it A1 = ds.length) (hI : I 0 s A1) (hn : ∀ j s A, I j s A → itNext it j A = some ds[j]?)
    (h : ∀ j d s A, ds[j]? = some d → I j s A → ∃ s1, g d s = some s1 ∧ ((∃ s2 A2, b s1 A = .nx s2 A2 ∧ I (j + 1) s2 A2) ∨ ∃ x A2, b s1 A = .rt x A2 ∧ Q x A2)) :
    (∃ s' A', mFor mi g b s A = .nx s' A' ∧ I ds.length s' A') ∨ ∃ x A', mFor mi g b s A = .rt x A' ∧ Q x A' := by
  have e : mFor mi g b s A = forG g b it (ds.length + 1) 0 s A1 := by
    unfold mFor
    rw [h0]
    show forG g b it (itLen it A1 + 1) 0 s A1 = _
    rw [hl]
  rw [e]
  exact forG_or I Q hn h _ 0 s A1 hI (Nat.zero_add _) (Nat.succ_ne_zero _)
theorem mFor_at {s : Sl} {A A1 : AH} (I : Nat → Sl → AH → Prop) (h0 : mi s A = .ok it A1) (hl : itLen it A1 = ds.length) (hI : I 0 s A1) (hn : ∀ j s A, I j s A → itNext it j A = some ds[j]?)
    (h : ∀ j d s A, ds[j]? = some d → I j s A → ∃ s1 s2 A2, g d s = some s1 ∧ b s1 A = .nx s2 A2 ∧ I (j + 1) s2 A2) : ∃ s' A', mFor mi g b s A = .nx s' A' ∧ I ds.length s' A' := by
  rcases mFor_or (g := g) (b := b) I (fun _ _ => False) h0 hl hI hn (fun j d s A hd hI => by
    obtain ⟨s1, s2, A2, e1, e2, e3⟩ := h j d s A hd hI
    exact ⟨s1, e1, .inl ⟨s2, A2, e2, e3⟩⟩) with h | ⟨_, _, _, h⟩
  · exact h
  · exact h.elim
end
section
variable {g : MG} {tt : MT} {te : ME} {mi : Sl → AH → R IT} {vs : List Nat} {fin : List D → AH → R D} {s w : Sl} {A A1 : AH} {it : IT} {ds : List D}
theorem lcG_gen (I : Nat → AH → Prop) (P : Nat → D → Prop) (hn : ∀ j A, I j A → itNext it j A = some ds[j]?)
    (h : ∀ j d A, ds[j]? = some d → I j A → ∃ s1 v A2, g d w = some s1 ∧ tt s1 A = .ok true A ∧ te s1 A = .ok v A2 ∧ I (j + 1) A2 ∧ P j v) :
    ∀ (f k : Nat) (A : AH), I k A → k + f = ds.length + 1 → f ≠ 0 → ∃ ys A', lcG g tt te it w f k A = .ok ys A' ∧ I ds.length A' ∧ k + ys.length = ds.length ∧ ∀ j y, ys[j]? = some y → P (k + j) y
  | 0, _, _, _, _, h => absurd rfl h
  | f + 1, k, A, hI, hf, _ => by
    have e0 := hn k A hI
    cases hd : ds[k]? with
    | none =>
      have hk : k = ds.length := by
        have := List.getElem?_eq_none_iff.mp hd
        omega
      subst hk
      refine ⟨[], A, ?_, hI, by simp, fun j y e => by simp at e⟩
      unfold lcG
      rw [e0, hd]
    | some d =>
      have hk := (List.getElem?_eq_some_iff.mp hd).1
      obtain ⟨s1, v, A2, h1, h2, h3, h4, h5⟩ := h k d A hd hI
      obtain ⟨ys, A', q1, q2, q3, q4⟩ := lcG_gen I P hn h f (k + 1) A2 h4 (by omega) (by omega)
      refine ⟨v :: ys, A', ?_, q2, by rw [List.length_cons]; omega, fun j y e => ?_⟩
      · unfold lcG
        rw [e0, hd]
        dsimp only
        rw [h1]
        dsimp only
        rw [h2, R.bindN_ok, if_pos rfl, h3, R.bindN_ok, q1, R.bind_ok]
      · cases j with
        | zero =>
          cases (show some v = some y from e)
          exact h5
        | succ j =>
          rw [show k + (j + 1) = k + 1 + j by omega]
          exact q4 j y (by simpa using e)
theorem lc_genR (I : Nat → AH → Prop) (P : Nat → D → Prop) (h0 : mi s A = .ok it A1) (hl : itLen it A1 = ds.length) (hsz : ds.length < 16777216) (hI : I 0 A1) (hn : ∀ j A, I j A → itNext it j A = some ds[j]?)
    (h : ∀ j d A, ds[j]? = some d → I j A → ∃ s1 v A2, g d (wpD s vs) = some s1 ∧ tt s1 A = .ok true A ∧ te s1 A = .ok v A2 ∧ I (j + 1) A2 ∧ P j v) :
    ∃ ys A', mLc mi g tt te vs fin s A = fin ys A' ∧ I ds.length A' ∧ ys.length = ds.length ∧ ∀ j y, ys[j]? = some y → P j y := by
  obtain ⟨ys, A', q1, q2, q3, q4⟩ := lcG_gen (w := wpD s vs) I P hn h (ds.length + 1) 0 A1 hI (by omega) (by omega)
  refine ⟨ys, A', ?_, q2, by omega, fun j y e => by
    have := q4 j y e
    rwa [Nat.zero_add] at this⟩
  unfold mLc
  rw [h0, R.bind_ok, hl, if_pos hsz, q1]
  rfl
end
/-! ### dicts -/
theorem any_key {kvs : List (Key × D)} {k : Key} : (kvs.any fun kv => decide (kv.1 = k)) = (lkK kvs k).isSome := by
  induction kvs with
  | nil => rfl
  | cons p kvs ih =>
    by_cases h : p.1 = k
    · simp [lkK, h]
    · simp only [lkK, List.any_cons, List.find?_cons, h, decide_false, Bool.false_or] at ih ⊢
      exact ih
theorem lkK_map {kvs : List (Key × D)} {k k' : Key} {d : D} : lkK (kvs.map fun kv => if kv.1 = k then (kv.1, d) else kv) k' = if k' = k then (lkK kvs k').map fun _ => d else lkK kvs k' := by
  induction kvs with
  | nil => simp [lkK]
  | cons p kvs ih =>
    have e : ∀ (q : Key × D) (l : List (Key × D)), lkK (q :: l) k' = if q.1 = k' then some q.2 else lkK l k' := fun q l => by
      by_cases h : q.1 = k' <;> simp [lkK, h]
    rw [List.map_cons, e, e, ih]
    by_cases h1 : p.1 = k
    · by_cases h2 : k' = k
      · subst h2
        simp [h1]
      · have h3 : ¬ k = k' := fun z => h2 z.symm
        simp [h1, h2, h3]
    · by_cases h2 : k' = k
      · subst h2
        simp [h1]
      · simp [h1, h2]
theorem lkK_app {kvs : List (Key × D)} {k k' : Key} {d : D} : lkK (kvs ++ [(k, d)]) k' = match lkK kvs k' with
    | some x => some x
    | none => if k' = k then some d else none := by
  unfold lkK
  rw [List.find?_append]
  cases h : kvs.find? fun kv => decide (kv.1 = k') with
  | some p => rfl
  | none =>
    by_cases h2 : k = k'
    · subst h2
      simp
    · have h3 : ¬ k' = k := fun z => h2 z.symm
      simp [h2, h3]
theorem lkK_put {kvs : List (Key × D)} {k k' : Key} {d : D} : lkK (ptK kvs k d) k' = if k' = k then some d else lkK kvs k' := by
  unfold ptK
  rw [any_key]
  split
  · rename_i h
    rw [lkK_map]
    by_cases h2 : k' = k
    · subst h2
      obtain ⟨x, hx⟩ := Option.isSome_iff_exists.mp h
      rw [if_pos rfl, if_pos rfl, hx]
      rfl
    · rw [if_neg h2, if_neg h2]
  · rename_i h
    rw [lkK_app]
    by_cases h2 : k' = k
    · subst h2
      have : lkK kvs k' = none := by
        cases z : lkK kvs k' with
        | none => rfl
        | some x => exact absurd (by rw [z]; rfl) h
      rw [if_pos rfl, this]
      dsimp only
      rw [if_pos rfl]
    · rw [if_neg h2]
      cases lkK kvs k' with
      | some x => dsimp only; rw [if_neg h2]
      | none => dsimp only; rw [if_neg h2]; try rw [if_neg h2]
theorem keys_put {kvs : List (Key × D)} {k : Key} {d : D} : (ptK kvs k d).map (·.1) = if (lkK kvs k).isSome = true then kvs.map (·.1) else kvs.map (·.1) ++ [k] := by
  unfold ptK
  rw [any_key]
  split
  · rw [List.map_map]
    refine List.map_congr_left fun kv _ => ?_
    show (if kv.1 = k then (kv.1, d) else kv).1 = kv.1
    split <;> rfl
  · rw [List.map_append]
    rfl
end Tg

set_option Elab.async false
set_option linter.all false
set_option maxRecDepth 100000
set_option maxHeartbeats 4000000
/-! TgExc: own exceptions whose __init__ says Base.__init__(self, x) and self.f = x: made, raised. -/
namespace Tg
open PySem PySem.Spec PyProof.Rows L2
/-- what the text must say of such a class -/
structure XC (K : PySem.W.Frag) (C : Addr) (B newId initId : String) (bmB : List Value) : Prop where
  F : ExcBaseFacts B newId initId bmB
  cls : ∃ nm q N bs bm sn sub ab col dd k0 k1 k2 k3 k5, K.lookup C = some (excClassObj nm q C N bs bm true sn sub ab col dd k0 k1 k2 k3 k5 newId) ∧
    (∀ Y : String, bm.contains (.type Y) = bmB.contains (.type Y)) ∧ (PySem.HandSPX.refsVE bm = true ∨ bm = PySem.ESX.exTail)
  sa : PySem.W.findIn K (.ref C) "__setattr__" = some (some (.builtin "object.__setattr__"))
  exC : PySem.W.subIn K (.ref C) (.type "BaseException") = some true
  tyC : PySem.W.typeIn K (.ref C) = some (.type "type")
  kC : PySem.W.keepIn K (.ref C) = true
section
variable {X : Cx} {pins : List (Addr × Obj)} {σ : L2.St} {H : Hp} {s : Shared} {a C : Addr} {f : Str} {y : V} {u : Value} {E : Value → Shared → Prop} {A : Around} {B newId initId : String} {bmB : List Value}
/-- Base.__init__(self, ..): nothing of it is told -/
theorem xinit {us : List Value} {Q : Value → Shared → Prop} (T : XC X.K C B newId initId bmB) (I : Inv X pins σ H s) (e : H a = some (exo a C none)) (few : us.length ≤ sizeLine) (go : ∀ s', Inv X pins σ H s' → Q .none s') :
    wpAny (model X.prog X.w) A (call (.builtin initId) (.ref a :: us)) Q E s := by
  obtain ⟨nm, q, N, bs, bm, sn, sub, ab, col, dd, k0, k1, k2, k3, k5, there, same, _⟩ := T.cls
  obtain ⟨t1, ho⟩ := exo_at I.hok e
  obtain ⟨hp, g, d, t, os⟩ := s
  refine wpAny_call (PySem.HandSPX.init_base T.F same (I.kIn _ _ there) ho few fun h' t2 kept now => ?_)
  have J := I.write (t' := t) (x := a) (e := a) (o := exo a C none) (by rw [e]; exact True.intro) (.inl rfl) kept ⟨_, now⟩ (exo_ok now)
  have again : upd H a (exo a C none) = H := by
    funext b
    by_cases z : b = a
    · rw [z, upd_same, e]
    · rw [upd_ne z]
  rw [again] at J
  exact go _ J
/-- self.f = y, the one field -/
theorem xstore {Q : Unit → Shared → Prop} (T : XC X.K C B newId initId bmB) (I : Inv X pins σ H s) (e : H a = some (exo a C none)) (no : PySem.W.findIn X.K (.ref C) f = some none) (ry : RelV y u)
    (go : ∀ dx s', H dx = none → dx ≠ a → Inv X pins σ (upd (upd H dx (exd dx [(f, y)])) a (exo a C (some dx))) s' → Q () s') : wpAny (model X.prog X.w) A (setAttr (.ref a) f u) Q E s := by
  obtain ⟨nm, q, N, bs, bm, sn, sub, ab, col, dd, k0, k1, k2, k3, k5, there, _, tail⟩ := T.cls
  have data : PySem.W.clsIn X.K C = some { name := nm, bases := bs, mro := .ref C :: bm, ns := N, qualname := q, hasDict := true, slotNames := sn, subclasses := sub, abstract := ab, collection := col, hasDel := false } := by
    unfold PySem.W.clsIn
    rw [there] <;> rfl
  obtain ⟨t1, ho⟩ := exo_at I.hok e
  obtain ⟨hp, g, d, t, os⟩ := s
  refine PySem.W.set_plain I.kIn (ox := { cls := .ref C, dict := none, data := .fields #[.ref t1, .none, .none, .none, .bool false, .none] }) (od := none) ⟨ho, rfl, rfl, trivial⟩ T.sa ?_
  have main : ∀ (h' : Heap) (tk' : Nat) (dx : Addr), (∀ b o, b ≠ a → hp.get? b = some o → h'.get? b = some o) → hp.objs.size ≤ dx → dx ≠ a → h'.get? a = some { cls := .ref C, dict := some dx, data := .fields #[.ref t1, .none, .none, .none, .bool false, .none] } →
      h'.Ns1 dx (fun y => if y = f then some u else none) → Q () ⟨h', g, d, tk', os⟩ := fun h' tk' dx kept big ne now ns => by
    have fresh : H dx = none := I.hok.fresh big
    have apart : ∀ {b : Addr} {o : Obj}, hp.get? b = some o → b ≠ dx := fun {b o} z => Nat.ne_of_lt (Nat.lt_of_lt_of_le (Heap.lt_size z) big)
    have other : ∀ {b : Addr}, H b = none → b ≠ a := fun {b} z w => by
      rw [w, e] at z
      cases z
    have U : Un X.fs [] H (upd (upd H dx (exd dx [(f, y)])) a (exo a C (some dx))) hp h' := by
      refine ⟨fun b o z1 z2 _ _ => kept b o (other z2) z1, fun b o z1 z2 _ _ => ⟨o.slots, kept b o (other z2) z1⟩, fun b o z1 z2 _ => ?_, fun b o z1 _ => ?_, fun b xs z1 => ?_, fun b o v z1 => ?_, fun b ps z1 => ?_⟩
      · rw [upd_ne (other z2), upd_ne (apart z1)]
        exact z2
      · by_cases q : b = a
        · exact ⟨_, by rw [q]; exact now⟩
        · exact ⟨o, kept b o q z1⟩
      · rw [upd_ne (at_ne e z1 exo_tup), upd_ne (ne_of_none z1 fresh)]
        exact z1
      · rw [upd_ne (at_ne e z1 exo_frz), upd_ne (ne_of_none z1 fresh)]
        exact z1
      · refine ⟨#[], ?_⟩
        rw [upd_ne (at_ne e z1 exo_tbl), upd_ne (ne_of_none z1 fresh), z1]
        simp
    refine go dx _ fresh ne (I.un (t' := tk') U fun b o z1 => ?_)
    by_cases q : b = a
    · subst q
      rw [upd_same] at z1
      cases z1
      exact exo_ok now
    · rw [upd_ne q] at z1
      by_cases q2 : b = dx
      · subst q2
        rw [upd_same] at z1
        cases z1
        exact exd_ok ns (relO_put (fs := []) ry fun _ => True.intro)
      · rw [upd_ne q2] at z1
        refine (I.hok b o z1).stay (fun c v z2 z3 => kept c v ?_ z3) (fun c z2 => ?_) fun c xs z2 => ?_
        · rcases z2 with z2 | z2
          · rw [z2]
            exact q
          · exact at_ne e z2 exo_own
        · rw [upd_ne (at_ne e z2 exo_own), upd_ne (ne_of_none z2 fresh)]
          exact z2
        · rw [upd_ne (at_ne e z2 exo_tup), upd_ne (ne_of_none z2 fresh)]
          exact z2
  rcases tail with tail | tail
  · exact PySem.HandSPX.exc_osa I.kIn ho data (show PySem.HandSPX.refsVE (.ref C :: bm) = true from tail) rfl no fun h' tk' dx z1 z2 z3 z4 z5 => main h' tk' dx z1 z2 z3 z4 z5
  · subst tail
    exact PySem.ESX.osa_new I.kIn ho data rfl rfl no fun h' tk' dx z1 z2 z3 z4 z5 => main h' tk' dx z1 z2 z3 z4 z5
end
/-! ### the base's __init__, by its name -/
/-- the name x is a class (built-in or own) whose __init__ is the built-in initId -/
def XBase (K : PySem.W.Frag) (mg : Str → Option Value) (x : Str) (initId : String) : Prop :=
  (mg x = none ∧ ∃ T : String, bootBuiltins x = some (.type T) ∧ x ≠ "__name__" ∧ typeOf (.type T) = pure (.type "type") ∧ Manifest.isStub T = false ∧ PySem.W.findCls K (.type T) (.type "type") "__init__" = some (.val (.builtin initId)) ∧ PySem.W.handedIn (.builtin initId) = true) ∨
  ∃ C, mg x = some (.ref C) ∧ PySem.W.readsIn K C (.type "type") = true ∧ PySem.W.specialIn K (.ref C) "__getattribute__" = some (some (.builtin "type.__getattribute__")) ∧ PySem.W.findCls K (.ref C) (.type "type") "__init__" = some (.val (.builtin initId)) ∧ PySem.W.handedIn (.builtin initId) = true
def tXin (ta : TA) (P : Addr → Hp → Prop) : TE := fun σ H Q => ta σ H fun vs H1 => ∃ (a : Addr) (ws : List V), vs = .ref a :: ws ∧ ws.length ≤ 1000 ∧ P a H1 ∧ Q .non H1
section
variable {X : Cx} {o e : Expr} {es : List Expr} {to te : TE} {ta : TA} {f x : Str} {p p' p1 p2 pos : Pos} {C : Addr} {B newId initId : String} {bmB : List Value}
theorem pe_xin {pl : Sem Bool} (hb : XBase X.K X.mg x initId) (T : XC X.K C B newId initId bmB) (hg : Gl X x) (ha : PA X (e :: es) ta) (hdb : (x == ("__debug__" : Str)) = false := by decide)
    (hc : eval (.Call (.Attribute (.Name x p1) "__init__" p2) (e :: es) [] pos) X.env = (do
      let ov ← eval (.Name x p1) X.env
      standAt p2.atName
      let (f, first) ← holding [ov] (getMethod ov "__init__" pl)
      callWith pos f first (backTo pos (starEach (e :: es) X.env)) (backToKw pos (keywordEach [] X.env))) := by rfl)
    (he : starEach (e :: es) X.env = (false, eval e X.env) :: starEach es X.env := by rfl) (hpl : (backTo pos (starEach es X.env)).any (·.1) = false := by rfl) :
    PE X (.Call (.Attribute (.Name x p1) "__init__" p2) (e :: es) [] pos) (tXin ta fun a H1 => H1 a = some (exo a C none)) := by
  refine ⟨fun pins s σ H Q I h => ?_⟩
  have fin : ∀ s0, Inv X pins σ H s0 → wpAny (model X.prog X.w) X.A (callWith pos (Value.builtin initId) [] (backTo pos (starEach (e :: es) X.env)) []) (EP X pins σ Q) X.xe s0 := fun s0 I0 => by
    refine PyProof.Rows.callWith_method1 (thn (ha.run pos pins s0 σ H _ I0 h) fun us s1 ⟨vs, H1, I1, r1, a, ws, ev, few, ea, q⟩ => ?_) he hpl
    subst ev
    cases r1 with
    | @cons _ u0 _ ur ra rw' =>
      obtain rfl : u0 = Value.ref a := ra
      have hlen : ur.length ≤ sizeLine := by
        rw [← Paired.length rw', sizeLine_eq]
        exact Nat.le_trans few (by decide)
      exact xinit T I1 ea hlen fun s' J => ⟨.non, H1, J, rfl, q⟩
  rcases hb with ⟨hm, Ty, h1, h2, h3, h4, h5, h6⟩ | ⟨D, hm, h1, h2, h3, h4⟩
  · refine PySem.W.methodCall_KW (ld_blt I hg hm h1 ?_ h2 hdb) hc
    obtain ⟨m, fr⟩ := I.fr
    exact PySem.W.method_type fr I.ok.mod.kin h3 h4 h5 h6 (fin _ (I.tok _))
  · refine PySem.W.methodCall_KW (ld_glob I hg hm ?_ hdb) hc
    exact PySem.W.method_cls I.kIn h2 (PySem.W.cls_value I.kIn h1 h3 h4 (fin _ (I.tok _)))
def tXst (f : Str) (to te : TE) (C : Addr) : TS := fun D σ H => te σ H fun y H1 => to σ H1 fun v H2 => ∃ a, v = .ref a ∧ H2 a = some (exo a C none) ∧ ∀ dx, H2 dx = none → dx ≠ a → D.nx σ (upd (upd H2 dx (exd dx [(f, y)])) a (exo a C (some dx)))
theorem ps_xst (T : XC X.K C B newId initId bmB) (no : PySem.W.findIn X.K (.ref C) f = some none) (ho : PE X o to) (he : PE X e te) (hs : swapsWith e (some (.Attribute o f p')) pos.line X.env = pure false := by rfl) : PS X (.Assign [.Attribute o f p'] e pos) (tXst f to te C) := by
  refine ⟨fun pins s σ H D I h => ?_⟩
  refine plainObj_wpAny_Assign_Attribute (thn (he.run pins s σ H _ I h) fun v s1 ⟨y, H1, I1, r1, q1⟩ => thn (ho.run pins s1 σ H1 _ I1 q1) fun w s2 ⟨z, H2, I2, r2, a, ez, ea, q⟩ => ?_) hs
  subst ez
  obtain rfl : w = Value.ref a := r2
  exact xstore T I2 ea no r1 fun dx s' n ne J => ⟨σ, _, J, q dx n ne⟩
end
/-! ### __init__ as a def, the class called -/
/-- __init__(self, y) of a class at C: self.f = y -/
def spX (f : Str) (C : Addr) : Sp := fun vs H Q _ => ∃ (a : Addr) (y : V), vs = [.ref a, y] ∧ H a = some (exo a C none) ∧ ∀ dx, H dx = none → dx ≠ a → Q .non (upd (upd H dx (exd dx [(f, y)])) a (exo a C (some dx)))
def tMkX (C : Addr) (f : Str) (ta : TA) : L2.St → Hp → XK → Prop := fun σ H Q => ta σ H fun vs H1 => ∃ y, vs = [y] ∧ ∀ d, H1 d = none → Q (.ref C) (some d) (upd H1 d (.xd [(f, y)]))
section
variable {X : Cx} {e : Expr} {ta : TA} {p pos : Pos} {B newId initId : String} {bmB : List Value}
theorem pmk_x {x f : Str} {C fI : Addr} {k : Nat} {fd : FuncData} {ps : List Str} (T : XC X.K C B newId initId bmB) (iC : PySem.W.findIn X.K (.ref C) "__init__" = some (some (.ref fI))) (tI : PySem.W.typeIn X.K (.ref fI) = some (.type "function"))
    (F1 : FnOk X.prog X.w X.K X.mg X.base (L2.CX X.prog X.w) k fI fd ps (spX f C)) (hr : Room (k + 1) X.A) (hb : Binds X.K fd ps []) (hg : Gl X x) (hm : X.mg x = some (.ref C)) (ha : PA X [e] ta)
    (hdb : (x == ("__debug__" : Str)) = false := by decide) (he : starEach (e :: []) X.env = (false, eval e X.env) :: starEach [] X.env := by rfl) (hpl : (backTo pos (starEach [] X.env)).any (·.1) = false := by rfl) :
    PMk X (.Call (.Name x p) [e] [] pos) (tMkX C f ta) := by
  intro pins s σ H Q I h
  obtain ⟨nm, q, N, bs, bm, sn, sub, ab, col, dd, k0, k1, k2, k3, k5, there, same, tail⟩ := T.cls
  refine wpAny_Call_Name_kw (ld_glob I hg hm ?_ hdb)
  refine PySem.W.callWith_K (h₀ := X.base) I.ok.mod.kin T.kC (thn (ha.run pos pins s σ H _ I h) fun us s1 ⟨vs, H1, I1, r1, y, ev, q1⟩ => ⟨I1.kIn, ?_⟩) he hpl
  subst ev
  show wpAny _ _ (call (.ref C) us) _ _ _
  have ulen : us.length = 1 := (Paired.length r1).symm
  obtain ⟨hp, g, dr, tk, os⟩ := s1
  have big : hp.objs.size ≤ hp.objs.size + 1 := Nat.le_succ _
  have fresh : H1 (hp.objs.size + 1) = none := I1.hok.fresh big
  have old : ∀ b o, hp.get? b = some o → ((hp.push (PySem.W.kdv_tup us)).push (PySem.HandSPX.excO C hp.objs.size)).get? b = some o := fun b o z => Heap.get?_push_of_some _ (Heap.get?_push_of_some _ z)
  have new : ((hp.push (PySem.W.kdv_tup us)).push (PySem.HandSPX.excO C hp.objs.size)).get? (hp.objs.size + 1) = some (PySem.HandSPX.excO C hp.objs.size) := by heap_get
  have I2 : Inv X pins σ (upd H1 (hp.objs.size + 1) (exo (hp.objs.size + 1) C none)) ⟨(hp.push (PySem.W.kdv_tup us)).push (PySem.HandSPX.excO C hp.objs.size), g, dr, tk, os⟩ :=
    I1.laid (t' := tk) (a := hp.objs.size + 1) (o := exo (hp.objs.size + 1) C none) (h' := (hp.push (PySem.W.kdv_tup us)).push (PySem.HandSPX.excO C hp.objs.size)) old big (exo_ok new)
  have r2 : Vals (V.ref (hp.objs.size + 1) :: [y]) (Value.ref (hp.objs.size + 1) :: us) := .cons rfl r1
  have hq : spX f C (.ref (hp.objs.size + 1) :: [y]) (upd H1 (hp.objs.size + 1) (exo (hp.objs.size + 1) C none)) (fun v H2 => v = .non ∧ ∃ (d : Addr) (fs : List (Str × V)), H2 (hp.objs.size + 1) = some (exo (hp.objs.size + 1) C (some d)) ∧ H2 d = some (exd d fs) ∧ H1 d = none ∧ Q (.ref C) (some d) (upd (del H2 (hp.objs.size + 1)) d (.xd fs))) (fun _ _ _ => False) := by
    refine ⟨_, y, rfl, upd_same, fun dx n ne => ⟨rfl, dx, [(f, y)], upd_same, ?_, ?_, ?_⟩⟩
    · rw [upd_ne ne, upd_same]
    · rw [upd_ne ne] at n
      exact n
    · have n' : H1 dx = none := by
        rw [upd_ne ne] at n
        exact n
      have := q1 dx n'
      have same' : upd (del (upd (upd (upd H1 (hp.objs.size + 1) (exo (hp.objs.size + 1) C none)) dx (exd dx [(f, y)])) (hp.objs.size + 1) (exo (hp.objs.size + 1) C (some dx))) (hp.objs.size + 1)) dx (.xd [(f, y)]) = upd H1 dx (.xd [(f, y)]) := by
        funext b
        by_cases z : b = dx
        · rw [z, upd_same, upd_same]
        · rw [upd_ne z, upd_ne z]
          by_cases z2 : b = hp.objs.size + 1
          · rw [z2, del_same, fresh]
          · rw [del_ne z2, upd_ne z2, upd_ne z, upd_ne z2]
      rw [same']
      exact this
  have hl : (Value.ref (hp.objs.size + 1) :: us ++ []).length = ps.length := by
    have z := F1.len _ _ _ _ hq
    rw [List.append_nil, List.length_cons, ulen, ← z]
    rfl
  have hbinds := hb _ (Value.ref (hp.objs.size + 1) :: us) I2.kIn hl
  rw [List.append_nil] at hbinds
  refine wpAny_call (PySem.HandSPX.call_own T.F same (I1.kIn _ _ there) (PySem.W.looks_findIn I1.kIn iC) (fun self => PySem.W.bind_fn I1.kIn self tI) (by rw [ulen, sizeLine_eq]; decide)
    (codeAny_mono (F1.run _ X.stack _ _ ⟨Value.ref (hp.objs.size + 1) :: us, []⟩ _ _ _ (fun _ _ _ => False) (hr.make C us []) (I2.env0.make C us []) hbinds r2 hq) fun r s' hq' => ?_))
  cases r with
  | error er => exact passL pins σ _ _ er s' I2 hq'
  | ok fl =>
    cases fl with
    | ret u =>
      obtain ⟨v, H2, os2, bare2, un2, hok2, rv, ev, d, fs, ea, ed, hd1, q2⟩ := hq'
      subst ev
      obtain ⟨h2, g2, d2, t2, os'⟩ := s'
      exact ⟨rv, mk_end (raises_own T.exC T.tyC) I1 big old un2 hok2 os2 bare2 ea ed hd1 q2⟩
    | next => exact False.elim hq'
    | brk => exact False.elim hq'
    | cont => exact False.elim hq'
end
end Tg

set_option Elab.async false
set_option linter.all false
set_option maxRecDepth 100000
set_option maxHeartbeats 4000000
/-! TgRaise: raise C(e), try .. except C as n, C.m(self, ..). -/
namespace Tg
open PySem PySem.Spec PyProof.Rows L2
/-! ### raise -/
/-- what the text says of the class named c, whose __init__(self, p) keeps p in f -/
def TX (K : PySem.W.Frag) (mg : Str → Option Value) (c b f qual : Str) (st : Stmt) (ps : List Str) : Prop :=
  ∃ (C fI : Addr) (fd : FuncData) (B newId initId : String) (bmB : List Value), Fun K "__init__" qual st fI fd ∧ mg c = some (.ref C) ∧ XC K C B newId initId bmB ∧ PySem.W.findIn K (.ref C) "__init__" = some (some (.ref fI)) ∧
    PySem.W.typeIn K (.ref fI) = some (.type "function") ∧ Binds K fd ps [] ∧ XBase K mg b initId ∧ PySem.W.findIn K (.ref C) f = some none
/-- .. and of a class that is made so -/
def Xmk (P : Program) (w : World) (K : PySem.W.Frag) (mg : Str → Option Value) (base : Heap) (c f : Str) (k : Nat) : Prop :=
  ∃ (C fI : Addr) (fd : FuncData) (ps : List Str) (B newId initId : String) (bmB : List Value), FnOk P w K mg base (L2.CX P w) k fI fd ps (spX f C) ∧ mg c = some (.ref C) ∧ XC K C B newId initId bmB ∧
    PySem.W.findIn K (.ref C) "__init__" = some (some (.ref fI)) ∧ PySem.W.typeIn K (.ref fI) = some (.type "function") ∧ Binds K fd ps []
section
variable {P : Program} {w : World} {K : PySem.W.Frag} {mg : Str → Option Value} {base : Heap}
theorem xmk_of {c b f qual p : Str} {st : Stmt} {k : Nat} (T : TX K mg c b f qual st ["self", p]) (S : FnScope ["self", p] ["self", p] (defScope st))
    (h : ∀ (C : Addr) (B newId initId : String) (bmB : List Value) (fI : Addr) (cdv : Value) (A : Around) (outer : List Env) (s : Shared) (H : Hp) (E : XK), XC K C B newId initId bmB → XBase K mg b initId → PySem.W.findIn K (.ref C) f = some none →
      PSs (CxT P w K mg base ["self", p] qual st fI cdv A outer s H E) (defBody st) (tSeq (tDrop (tXin (tCons (tVar 0) (tCons (tVar 1) tNil)) fun a H1 => H1 a = some (exo a C none))) (tXst f (tVar 0) (tVar 1) C))) :
    Xmk P w K mg base c f (k + 1) := by
  obtain ⟨C, fI, fd, B, newId, initId, bmB, F, hm, xc, iC, tI, hb, hx, no⟩ := T
  refine ⟨C, fI, fd, ["self", p], B, newId, initId, bmB, ?_, hm, xc, iC, tI, hb⟩
  refine F.okX S (fun vs H Q E ⟨a, y, e, _⟩ => by rw [e]; rfl) fun cdv A outer s H vs Q E hr hsp => ?_
  obtain ⟨a, y, rfl, ea, q⟩ := hsp
  refine ⟨_, h C B newId initId bmB fI cdv A outer s H E xc hx no, ?_⟩
  exact ⟨.ref a, rfl, y, rfl, a, [y], rfl, Nat.le_of_lt_succ (by decide : 1 < 1001), ea, y, rfl, .ref a, rfl, a, rfl, ea, fun dx n ne => q dx n ne⟩
end
def mRaise (c f : Str) (me : ME) : MS := fun s A => (me s A).thenS s fun d A1 => .exc ⟨c, some [(f, d)]⟩ s A1
section
variable {X : Cx} {Wx : WX} {e : Expr} {te : TE} {me : ME} {c f : Str} {p pos pos2 : Pos} {j k : Nat}
theorem sraise (hc : X.calm = true) (d : Xmk X.prog X.w X.K X.mg X.base c f k) (hr : Room j X.A) (hk : k + 1 ≤ j) (tk : Takes X Wx) (h : SE X Wx e te me) (hg : Gl X c := by rfl) (hdb : (c == ("__debug__" : Str)) = false := by decide)
    (he : starEach (e :: []) X.env = (false, eval e X.env) :: starEach [] X.env := by rfl) (hpl : (backTo pos (starEach [] X.env)).any (·.1) = false := by rfl) :
    SS X Wx (.Raise (some (.Call (.Name c p) [e] [] pos)) none pos2) (fun _ σ H => tMkX (clA X.mg c) f (tCons te tNil) σ H fun cls d H' => Wx cls d σ H') (mRaise c f me) := by
  obtain ⟨C, fI, fd, ps, B, newId, initId, bmB, F, hm, xc, iC, tI, hb⟩ := d
  have eC : clA X.mg c = C := clA_of hm
  rw [eC]
  refine ⟨ps_raise hc tk (pmk_x xc iC tI F (hr.mono hk) hb hg hm (pa_cons h.pe pa_nil he) hdb he hpl), fun W σ s A H De kk sr z => ?_⟩
  refine h.sim W σ s A H _ kk sr (PostS.bind (rel := Rep X.K) sr z fun d A1 v W1 H1 e1 k1 r1 z1 => ⟨v, rfl, fun dd n => ?_⟩)
  obtain ⟨k2, e2⟩ := k1.aside n (.xd [(f, v)])
  exact z1 W1 σ _ _ _ e2 k2 (sr.le e1.le) ⟨by rw [eC], dd, [(f, v)], rfl, upd_same, rfl, ⟨v, [], rfl, r1, rfl⟩, k1.notF n, k1.notm n⟩
end
/-! ### try -/
/-- what the clause 'except c as n', and n.w in it, must find -/
def XCat (K : PySem.W.Frag) (mg : Str → Option Value) (c w : Str) : Prop :=
  ∃ C, mg c = some (.ref C) ∧ PySem.W.exmOne K (.ref C) (.ref C) = some true ∧ XfC K C ∧ PySem.W.findIn K (.ref C) w = some none
/-- try: body; except c as (slot i): o.f = (c0, it.w, h); return -/
def mTryW (c : Str) (i : Nat) (mb : MS) (cs : List Str) (f c0 w : Str) (mo mh : ME) : MS := fun s A => match mb s A with
  | .exc x s1 A1 => if x.c = c ∧ i < s1.length then (match x.fs with
    | some fs => (match fs.lookup w with
      | some dw => (match mh (s1.set i none) A1 with
        | .ok dh A2 => (match mo (s1.set i none) A2 with
          | .ok o A3 => (match stFld cs f o (.tup [.str c0, dw, dh]) A3 with
            | some A4 => .rt .non A4
            | none => .bad)
          | _ => .bad)
        | _ => .bad)
      | none => .bad)
    | none => .bad) else .bad
  | r => r
theorem xrep_ext {K : PySem.W.Frag} {mg : Str → Option Value} {W W' : Wd} {x : XV} {c : Value} {d : Option Addr} {H H' : Hp} (h : XRep K mg W x c d H) (e : Ext W H W' H') : XRep K mg W' x c d H' := by
  obtain ⟨h1, h2⟩ := h
  refine ⟨h1, ?_⟩
  cases hx : x.fs with
  | none =>
    rw [hx] at h2
    exact h2
  | some fs =>
    rw [hx] at h2
    obtain ⟨dd, vs, q1, q2, q3, q4, q5, q6⟩ := h2
    refine ⟨dd, vs, q1, e.out dd _ q2 (fun _ q => nomatch q) q6, q3, q4.le e.le, ?_, fun q => ?_⟩
    · cases z : W'.F dd with
      | none => rfl
      | some o =>
        have := e.fF dd o z q5
        rw [this] at q2
        cases q2
    · have := e.fm dd q q6
      rw [this] at q2
      cases q2
theorem SlR.len {K : PySem.W.Frag} {W : Wd} : ∀ {s : Sl} {σ : L2.St}, SlR K W s σ → σ.length = s.length
  | [], _, h => by
    rw [show _ = [] from h]
    rfl
  | none :: s, _, h => by
    obtain ⟨o, r, rfl, h2⟩ := h
    rw [List.length_cons, List.length_cons, SlR.len h2]
  | some _ :: s, _, h => by
    obtain ⟨v, r, rfl, _, h2⟩ := h
    rw [List.length_cons, List.length_cons, SlR.len h2]
/-- two pins at one place: nothing is so -/
theorem takes_void {X : Cx} {W : WX} : Takes (X.tr [(0, { cls := .none, data := .fields #[] }), (0, { cls := .none, data := .fields #[.none] })] (fun _ _ => False)) W := fun u s' ⟨a, B, sI, pins, σ, H, cls, d, e, I, _⟩ => by
  have h1 := (I.pin (0, { cls := .none, data := .fields #[] }) (by simp)).1
  have h2 := (I.pin (0, { cls := .none, data := .fields #[.none] }) (by simp)).1
  rw [h1] at h2
  simp at h2
theorem ss_fixS {X : Cx} {Wx : WX} {st : List Stmt} {t t' : TS} {m : MS} (h : SSs X Wx st t m) (ht : t = t') : SSs X Wx st t' m := ht ▸ h
section
variable {X : Cx} {Wx : WX} {c n f c0 w : Str} {i : Nat} {body : List Stmt} {o h : Expr} {np pos pos' p1 p2 p3 p4 p5 p6 p7 : Pos} {j1 j2 : Nat} {tb : WX → TS} {to th : TE} {mb : MS} {mo mh : ME} {cs : List Str}
theorem sim_tryW {K : PySem.W.Frag} {mg : Str → Option Value} {C : Addr} (hfd : Fds K mg cs f) (hm : clA mg c = C) (hex : PySem.W.exmOne K (.ref C) (.ref C) = some true) (hb : ∀ W : WX, SimS K mg W (tb W) mb) (ho : SimE K mg (fun _ _ _ _ => False) to mo) (hh : SimE K mg (fun _ _ _ _ => False) th mh) :
    SimS K mg Wx (fun De σ H => tb (wAs K (.ref C) i (fun a cls d => tSeq (sFld K to (tTup (tCons (tC (.str c0)) (tCons (tXf a cls d C w (tVar i)) (tCons th tNil)))) f) tRetN) Wx De) De σ H) (mTryW c i mb cs f c0 w mo mh) := by
  intro W σ s A H De k sr z
  refine hb _ W σ s A H De k sr ?_
  unfold mTryW at z
  generalize mb s A = r at z
  cases r with
  | nx s1 A1 => exact z
  | rt d A1 => exact z
  | bk s1 A1 => exact z
  | ct s1 A1 => exact z
  | bad => exact z
  | exc x s1 A1 =>
    intro W1 σ1 H1 cls d e1 k1 sr1 xr
    dsimp only at z
    split at z
    · rename_i hc
      obtain ⟨hc, hil⟩ := hc
      obtain ⟨q1, q2⟩ := id xr
      rw [hc, hm] at q1
      subst q1
      refine ⟨true, hex, fun _ a ha => ?_, fun h => nomatch h⟩
      cases hfs : x.fs with
      | none =>
        rw [hfs] at z
        exact z.elim
      | some fs =>
        rw [hfs] at z q2
        obtain ⟨dd, vs, rfl, x2, x3, x4, x5, x6⟩ := q2
        dsimp only at z
        cases hw : fs.lookup w with
        | none =>
          rw [hw] at z
          exact z.elim
        | some dw =>
          rw [hw] at z
          dsimp only at z
          obtain ⟨v, hv, rv⟩ := fld_at x3 x4 hw
          have hi : i < σ1.length := by rw [sr1.len]; exact hil
          have sr2 : SlR K W1 (s1.set i none) (σ1.set i (some (.ref a))) := sr1.unset i
          generalize hmh : mh (s1.set i none) A1 = rh at z
          cases rh with
          | exc y A2 => exact z.elim
          | bad => exact z.elim
          | ok dh A2 =>
            dsimp only at z
            generalize hmo : mo (s1.set i none) A2 = ro at z
            cases ro with
            | exc y A3 => exact z.elim
            | bad => exact z.elim
            | ok od A3 =>
              dsimp only at z
              generalize hst : stFld cs f od (.tup [.str c0, dw, dh]) A3 = rs at z
              cases rs with
              | none => exact z.elim
              | some A4 =>
                dsimp only at z
                have hσ : (σ1.set i (some (.ref a)))[i]? = some (some (.ref a)) := List.getElem?_set_self hi
                show sFld K to (tTup (tCons (tC (.str c0)) (tCons (tXf a (.ref C) (some dd) C w (tVar i)) (tCons th tNil)))) f _ (σ1.set i (some (.ref a))) H1
                refine ⟨.ref a, hσ, rfl, rfl, dd, vs, v, rfl, x2, hv, ?_⟩
                refine hh W1 _ (s1.set i none) A1 H1 _ k1 sr2 ?_
                rw [hmh]
                intro W2 H2 vh e2 k2 rh
                refine ⟨by rw [sizeLine_eq]; simp, fun p hp => ?_⟩
                obtain ⟨k3, e3⟩ := k2.frozen hp (.tup [.str c0, v, vh])
                refine ho _ _ (s1.set i none) A2 _ _ k3 (sr2.le (e2.trans e3).le) ?_
                rw [hmo]
                intro W4 H4 ov e4 k4 ro
                have rt : Rep K W4 (.tup [.str c0, dw, dh]) (.ref p) := ⟨p, [.str c0, v, vh], rfl, .inl (.inl (e4.le.f _ _ upd_same)), ⟨.str c0, _, rfl, rfl, v, _, rfl, rv.le ((e2.trans e3).trans e4).le, vh, [], rfl, rh.le (e3.trans e4).le, rfl⟩⟩
                unfold stFld at hst
                split at hst
                · rename_i m
                  split at hst
                  · rename_i c' gs g1
                    split at hst
                    · rename_i g2
                      cases hst
                      obtain ⟨b, rfl, hb'⟩ := ro
                      obtain ⟨dx, us, hx, hk, rr⟩ := k4.obj _ b _ hb' g1
                      obtain ⟨p1', p2'⟩ := putFD_at (f := f) rt hk rr
                      have hl : us.length = gs.length := by simpa using congrArg List.length hk
                      obtain ⟨k5, e5⟩ := k4.write hb' (u := .ins c' (putFD f (.tup [.str c0, dw, dh]) gs)) (o := .ins (clA mg c') dx (putF f (.ref p) us)) ⟨dx, _, rfl, p1', p2'⟩
                      refine ⟨b, _, dx, us, rfl, hx, (hfd c' g2.1).1, (hfd c' g2.1).2, by rw [hl]; exact g2.2, ?_⟩
                      exact z _ _ _ ((((e1.trans e2).trans e3).trans e4).trans e5) k5 rfl
                    · cases hst
                  · cases hst
                · cases hst
    · exact z.elim
theorem stryW (hc : X.calm = true) (hN : X.N.Nodup) (hcat : XCat X.K X.mg c w) (hfd : Fds X.K X.mg cs f) (tk : Takes X Wx)
    (hb : ∀ (W : WX) (pn : List (Addr × Obj)) (xe : Value → Shared → Prop), Takes (X.tr pn xe) W → PassesOwn (model X.prog X.w) X.A X.env xe → SSs (X.tr pn xe) W body (tb W) mb)
    (ho : ∀ (a : Addr) (oe : Obj) (pn : List (Addr × Obj)), SE (X.suite a ((a, oe) :: pn)) (fun _ _ _ _ => False) o to mo) (hh : ∀ (a : Addr) (oe : Obj) (pn : List (Addr × Obj)), SE (X.suite a ((a, oe) :: pn)) (fun _ _ _ _ => False) h th mh)
    (hs : X.stack = X.env :: X.outer := by rfl) (hf : X.env.frame = some X.env.locals := by rfl) (hi : X.N[i]? = some n := by rfl) (hln : X.env.kindOf n = some .local := by rfl) (hg : Gl X c := by rfl) (hdb : (c == ("__debug__" : Str)) = false := by decide)
    (hv : Vis X.env.scope n := by first | exact Or.inl rfl | exact Or.inr (Or.inl rfl) | exact Or.inr (Or.inr rfl)) (hd : (n == ("__debug__" : Str)) = false := by decide) (hcd : (n == ("__classdict__" : Str)) = false := by decide)
    (h1 : swapsWith (.Tuple [.Constant (.str c0) j1 p2, .Attribute (.Name n p3) w p4, h] j2 p5) (some (.Attribute o f p1)) p6.line X.env = pure false := by rfl)
    (h2 : starEach [.Constant (.str c0) j1 p2, .Attribute (.Name n p3) w p4, h] X.env = (false, eval (.Constant (.str c0) j1 p2) X.env) :: starEach [.Attribute (.Name n p3) w p4, h] X.env := by rfl)
    (h3 : starEach [.Attribute (.Name n p3) w p4, h] X.env = (false, eval (.Attribute (.Name n p3) w p4) X.env) :: starEach [h] X.env := by rfl)
    (h4 : starEach [h] X.env = (false, eval h X.env) :: starEach [] X.env := by rfl)
    (h5 : attributeBase (.Name n p3) w X.env (eval (.Name n p3) X.env) = eval (.Name n p3) X.env := by rfl) :
    SS X Wx (.Try body [.ExceptHandler (some (.Name c np)) (some n) [.Assign [.Attribute o f p1] (.Tuple [.Constant (.str c0) j1 p2, .Attribute (.Name n p3) w p4, h] j2 p5) p6, .Return none p7] pos'] [] [] pos)
      (fun De σ H => tb (wAs X.K (.ref (clA X.mg c)) i (fun a cls d => tSeq (sFld X.K to (tTup (tCons (tC (.str c0)) (tCons (tXf a cls d (clA X.mg c) w (tVar i)) (tCons th tNil)))) f) tRetN) Wx De) De σ H) (mTryW c i mb cs f c0 w mo mh) := by
  obtain ⟨C, hm, hex, hxf, hno⟩ := hcat
  have eC : clA X.mg c = C := clA_of hm
  rw [eC]
  refine ⟨ps_try_as hs hf hN hi hln ⟨hg, hdb, .inl hm⟩ tk (fun W pn xe t p => (hb W pn xe t p).ps) (fun a oe cls d pn hz hfl => ?_), ?_⟩
  · refine pss_cons (ps_fld (ho a oe pn).pe (pe_tup (pa_cons pe_str (pa_cons (pe_xf hxf hno hz hfl (pe_var hi hv hd hcd) h5) (pa_cons (hh a oe pn).pe pa_nil h4) h3) h2)) h1) (pss_one ps_retN)
  · exact sim_tryW hfd eC hex (fun W => (hb W _ _ takes_void PassesOwn.never).sim) (ho 0 { cls := .none, data := .fields #[] } []).sim (hh 0 { cls := .none, data := .fields #[] } []).sim
end
/-! ### C.m(self, ..) by the class's name -/
def Cfn (P : Program) (w : World) (K : PySem.W.Frag) (mg : Str → Option Value) (base : Heap) (c m : Str) (k : Nat) (g : List D → AH → R D) : Prop :=
  ∃ (C f : Addr) (fd : FuncData) (ps : List Str), FnOk P w K mg base (L2.CX P w) k f fd ps (spM K mg g) ∧ mg c = some (.ref C) ∧ PySem.W.readsIn K C (.type "type") = true ∧ PySem.W.specialIn K (.ref C) "__getattribute__" = some (some (.builtin "type.__getattribute__")) ∧
    PySem.W.findCls K (.ref C) (.type "type") m = some (.val (.ref f)) ∧ PySem.W.keepIn K (.ref f) = true ∧ Binds K fd ps []
/-- .. by its text -/
def TC (K : PySem.W.Frag) (mg : Str → Option Value) (c m qual : Str) (st : Stmt) (ps : List Str) : Prop :=
  ∃ (C f : Addr) (fd : FuncData), Fun K m qual st f fd ∧ mg c = some (.ref C) ∧ PySem.W.readsIn K C (.type "type") = true ∧ PySem.W.specialIn K (.ref C) "__getattribute__" = some (some (.builtin "type.__getattribute__")) ∧
    PySem.W.findCls K (.ref C) (.type "type") m = some (.val (.ref f)) ∧ Binds K fd ps []
theorem cfn_of {P : Program} {w : World} {K : PySem.W.Frag} {mg : Str → Option Value} {base : Heap} {c x qual : Str} {st : Stmt} {N ps : List Str} {k : Nat} {m : MS} (T : TC K mg c x qual st ps) (S : FnScope N ps (defScope st)) (h : Body P w K mg base N qual st k m) :
    Cfn P w K mg base c x (k + 1) (mFun ps.length N.length m) := by
  obtain ⟨C, f, fd, F, hm, h1, h2, h3, hb⟩ := T
  exact ⟨C, f, fd, ps, fnok_of F S h, hm, h1, h2, h3, F.kp, hb⟩
section
variable {X : Cx} {Wx : WX} {e : Expr} {es : List Expr} {t : TA} {ma : MA} {g : List D → AH → R D} {c m : Str} {p1 p2 pos : Pos} {j k : Nat}
theorem scfn {pl : Sem Bool} (d : Cfn X.prog X.w X.K X.mg X.base c m k g) (hr : Room j X.A) (hk : k ≤ j) (tk : Takes X Wx) (ha : SA X Wx (e :: es) t ma) (hg : Gl X c := by rfl) (hdb : (c == ("__debug__" : Str)) = false := by decide)
    (hc : eval (.Call (.Attribute (.Name c p1) m p2) (e :: es) [] pos) X.env = (do
      let ov ← eval (.Name c p1) X.env
      standAt p2.atName
      let (f, first) ← holding [ov] (getMethod ov m pl)
      callWith pos f first (backTo pos (starEach (e :: es) X.env)) (backToKw pos (keywordEach [] X.env))) := by rfl)
    (he : starEach (e :: es) X.env = (false, eval e X.env) :: starEach es X.env := by rfl) (hpl : (backTo pos (starEach es X.env)).any (·.1) = false := by rfl) :
    SE X Wx (.Call (.Attribute (.Name c p1) m p2) (e :: es) [] pos) (tCallS (spM X.K X.mg g) (WE Wx) t) (mCall g ma) := by
  obtain ⟨C, f, fd, ps, F, hm, h1, h2, h3, kp, hb⟩ := d
  refine ⟨⟨fun pins s σ H Q I h => ?_⟩, sim_call ha.sim⟩
  refine PySem.W.methodCall_KW (ld_glob I hg hm ?_ hdb) hc
  refine PySem.W.method_cls I.kIn h2 (PySem.W.cls_value I.kIn h1 h3 rfl ?_)
  refine PySem.W.callWith_K (h₀ := X.base) (first := []) I.ok.mod.kin kp (thn (ha.pa.run pos pins _ σ H _ (I.tok _) h) fun us s1 ⟨vs, H1, I1, r, q⟩ => ⟨I1.kIn, ?_⟩) he hpl
  exact run_fnS F (hr.mono hk) hb (passAt tk σ) I1 r q
end
end Tg

set_option Elab.async false
set_option linter.all false
set_option maxRecDepth 100000
set_option maxHeartbeats 2000000
/-! TgHeir: defs by another name, dicts that change made of pairs; what the end asks of exceptions and classes. -/
namespace Tg
open PySem PySem.Spec PyProof.Rows L2
/-! ### a def that the module knows by another name -/
def TFA (K : PySem.W.Frag) (mg : Str → Option Value) (y x qual : Str) (st : Stmt) (ps : List Str) : Prop := ∃ f fd, Fun K x qual st f fd ∧ mg y = some (.ref f) ∧ Binds K fd ps []
theorem dfn_ofA {P : Program} {w : World} {K : PySem.W.Frag} {mg : Str → Option Value} {base : Heap} {y x qual : Str} {st : Stmt} {N ps : List Str} {k : Nat} {m : MS} (T : TFA K mg y x qual st ps) (S : FnScope N ps (defScope st)) (h : Body P w K mg base N qual st k m) : Dfn P w K mg base y (k + 1) (mFun ps.length N.length m) := by
  obtain ⟨f, fd, F, hm, hb⟩ := T
  exact ⟨f, fd, ps, fnok_of F S h, hm, F.kp, hb⟩
/-! ### dict(pairs), a new one that will change -/
def dictPN : List D → AH → R D
  | [d], A => match (seqL A d).bind pairsD with
    | some kvs => .ok (.ref A.length) (A ++ [.dct (mergeD [] kvs)])
    | none => .bad
  | _, _ => .bad
theorem oDictPNS {K : PySem.W.Frag} {mg : Str → Option Value} : CallS K mg (rDictP K) dictPN := fun W A H E Q ds xs k r h => by
  unfold dictPN at h
  split at h
  · obtain ⟨v, rfl, h1⟩ := reps1 r
    split at h
    · rename_i kvs e1
      obtain ⟨es, e2, e3⟩ := Option.bind_eq_some_iff.mp e1
      obtain ⟨a, ys, rfl, h2, h3⟩ := seqL_at k h1 e2
      obtain ⟨qs, kvs', rfl, g1, g2⟩ := pairsD_at k h3 e3
      refine ⟨a, qs, kvs', rfl, h2, g1, fun p hp => ?_⟩
      have kr : KVR K W (mergeD [] kvs) (mergeK [] kvs') := KVR.merge g2 ⟨rfl, rfl⟩
      have l : Le W ⟨W.F, W.m ++ [p]⟩ := ⟨fun _ _ e => e, [p], rfl⟩
      obtain ⟨k1, x1⟩ := k.fresh hp (o := .dK (mergeK [] kvs')) (u := .dct (mergeD [] kvs)) (obd (kr.le l))
      refine h _ _ _ x1 k1 ⟨p, rfl, ?_⟩
      rw [← k.len]
      exact List.getElem?_concat_length
    · exact h.elim
  · exact h.elim
/-! ### the end -/
section
variable {K : PySem.W.Frag} {h : Heap} {mg : Str → Option Value} {c x qual : Str} {st : Stmt} {ps : List Str} {C f : Addr} {oc kV doc pm cdv ct : Value} {od an : Option Addr} {osl : Array (Option Value)}
theorem tfa_of {y : Str} (X : K.In h) (G : h.Ns mainGlobals mg) (a : PySem.W.nsIn K mainGlobals y = some (some (.ref f))) (l : K.lookup f = some ⟨oc, od, .func (PySem.W.fnOf x qual (defArgs st) (defBody st) (defScope st) .none kV doc pm an cdv ct), osl⟩)
    (cc : PySem.W.codeIn K cdv qual = true) (k : PySem.W.keepIn K (.ref f) = true) (b : HB x qual st ps) : TFA K mg y x qual st ps :=
  ⟨f, _, fun_mk l cc k, PySem.W.mg_of X G a, (fun_mk l cc k).binds b⟩
theorem tc_of (X : K.In h) (G : h.Ns mainGlobals mg) (a : PySem.W.nsIn K mainGlobals c = some (some (.ref C))) (r : PySem.W.readsIn K C (.type "type") = true) (g : PySem.W.specialIn K (.ref C) "__getattribute__" = some (some (.builtin "type.__getattribute__")))
    (m : PySem.W.findCls K (.ref C) (.type "type") x = some (.val (.ref f))) (l : K.lookup f = some ⟨oc, od, .func (PySem.W.fnOf x qual (defArgs st) (defBody st) (defScope st) .none kV doc pm an cdv ct), osl⟩) (cc : PySem.W.codeIn K cdv qual = true)
    (k : PySem.W.keepIn K (.ref f) = true) (b : HB x qual st ps) : TC K mg c x qual st ps :=
  ⟨C, f, _, fun_mk l cc k, PySem.W.mg_of X G a, r, g, m, (fun_mk l cc k).binds b⟩
theorem xb_blt {b : Str} {T initId : String} (hm : mg b = none) (h1 : bootBuiltins b = some (.type T)) (h2 : b ≠ "__name__") (h3 : typeOf (.type T) = pure (.type "type")) (h4 : Manifest.isStub T = false)
    (h5 : PySem.W.findCls K (.type T) (.type "type") "__init__" = some (.val (.builtin initId))) (h6 : PySem.W.handedIn (.builtin initId) = true) : XBase K mg b initId := .inl ⟨hm, T, h1, h2, h3, h4, h5, h6⟩
theorem xb_own {b : Str} {D : Addr} {initId : String} (X : K.In h) (G : h.Ns mainGlobals mg) (a : PySem.W.nsIn K mainGlobals b = some (some (.ref D))) (r : PySem.W.readsIn K D (.type "type") = true) (g : PySem.W.specialIn K (.ref D) "__getattribute__" = some (some (.builtin "type.__getattribute__")))
    (h5 : PySem.W.findCls K (.ref D) (.type "type") "__init__" = some (.val (.builtin initId))) (h6 : PySem.W.handedIn (.builtin initId) = true) : XBase K mg b initId := .inr ⟨D, PySem.W.mg_of X G a, r, g, h5, h6⟩
theorem typ_Ex : typeOf (.type "Exception") = pure (.type "type") := by kernel_rfl
theorem tx_of {b fl : Str} {fI N : Addr} {B newId initId : String} {bmB bs bm sub : List Value} {nm q : Str} {sn : List Str} {ab : Bool} {col : Option Bool} {dd : Option Addr} {k0 k1 k2 k3 k5 : Option Value} (F : ExcBaseFacts B newId initId bmB) (X : K.In h) (G : h.Ns mainGlobals mg)
    (a : PySem.W.nsIn K mainGlobals c = some (some (.ref C))) (xl : K.lookup C = some (excClassObj nm q C N bs bm true sn sub ab col dd k0 k1 k2 k3 k5 newId)) (same : ∀ Y : String, bm.contains (.type Y) = bmB.contains (.type Y)) (tail : PySem.HandSPX.refsVE bm = true ∨ bm = PySem.ESX.exTail)
    (sa : PySem.W.findIn K (.ref C) "__setattr__" = some (some (.builtin "object.__setattr__"))) (eC : PySem.W.subIn K (.ref C) (.type "BaseException") = some true) (tC : PySem.W.typeIn K (.ref C) = some (.type "type")) (kC : PySem.W.keepIn K (.ref C) = true)
    (m : PySem.W.findIn K (.ref C) "__init__" = some (some (.ref fI))) (ti : PySem.W.typeIn K (.ref fI) = some (.type "function")) (l : K.lookup fI = some ⟨oc, od, .func (PySem.W.fnOf "__init__" qual (defArgs st) (defBody st) (defScope st) .none kV doc pm an cdv ct), osl⟩) (cc : PySem.W.codeIn K cdv qual = true)
    (k : PySem.W.keepIn K (.ref fI) = true) (hb : HB "__init__" qual st ps) (xb : XBase K mg b initId) (no : PySem.W.findIn K (.ref C) fl = some none) : TX K mg c b fl qual st ps :=
  ⟨C, fI, _, B, newId, initId, bmB, fun_mk l cc k, PySem.W.mg_of X G a, ⟨F, ⟨nm, q, N, bs, bm, sn, sub, ab, col, dd, k0, k1, k2, k3, k5, xl, same, tail⟩, sa, eC, tC, kC⟩, m, ti, (fun_mk l cc k).binds hb, xb, no⟩
theorem xcat_of {w : Str} (X : K.In h) (G : h.Ns mainGlobals mg) (a : PySem.W.nsIn K mainGlobals c = some (some (.ref C))) (ga : PySem.W.findIn K (.ref C) "__getattribute__" = some (some (.builtin "BaseException.__getattribute__"))) (gg : PySem.W.findIn K (.ref C) "__getattr__" = some none)
    (eC : PySem.W.subIn K (.ref C) (.type "BaseException") = some true) (hd : PySem.W.hasDictIn K C = true) (tC : PySem.W.typeIn K (.ref C) = some (.type "type")) (sC : PySem.W.subIn K (.ref C) (.ref C) = some true) (no : PySem.W.findIn K (.ref C) w = some none) : XCat K mg c w :=
  ⟨C, PySem.W.mg_of X G a, PySem.W.exm_ref eC hd tC sC, ⟨ga, gg, eC, hd⟩, no⟩
end
end Tg

set_option Elab.async false
set_option linter.all false
set_option maxRecDepth 100000
/-! TgXev: mirrors run on; what is raised goes by. -/
namespace Tg
open PySem L2
section
variable {x : XV} {A A1 A2 A3 : AH} {s s2 : Sl}
@[simp] theorem kB1_x {f : D → D → AH → R D} {b : ME} : kB1 f b s (.exc x A) = .exc x A := rfl
@[simp] theorem kB2_x {f : D → D → AH → R D} {d : D} : kB2 f d (.exc x A) = .exc x A := rfl
@[simp] theorem kC1_x {m : MA} : kC1 m s (.exc x A) = .exc x A := rfl
@[simp] theorem kC2_x {d : D} : kC2 d (.exc x A) = .exc x A := rfl
@[simp] theorem kCall_x {g : List D → AH → R D} : kCall g (.exc x A) = .exc x A := rfl
@[simp] theorem kMe3_x {g : List D → AH → R D} {n : Nat} : kMe3 g n (.exc x A) = .exc x A := rfl
@[simp] theorem kMe1_x {c m : Str} {g : List D → AH → R D} {ma : MA} : kMe1 c m g ma s (.exc x A) = .exc x A := rfl
@[simp] theorem kRet_x : kRet s (.exc x A) = .exc x s A := rfl
@[simp] theorem kAsg_x {i : Nat} : kAsg i s (.exc x A) = .exc x s A := rfl
@[simp] theorem kDrop_x : kDrop s (.exc x A) = .exc x s A := rfl
@[simp] theorem kSub1_x {a b : ME} : kSub1 a b s (.exc x A) = .exc x s A := rfl
@[simp] theorem kFS1_x {cs : List Str} {f : Str} {a : ME} : kFS1 cs f a s (.exc x A) = .exc x s A := rfl
@[simp] theorem finS_x : finS (.exc x s A) = .exc x A := rfl
theorem bin_ok {f : D → D → AH → R D} {a b : ME} {u v z : D} (ha : a s A = .ok u A1) (hb : b s A1 = .ok v A2) (hf : f u v A2 = .ok z A3) : mBin f a b s A = .ok z A3 := by
  rw [e_bin, ha, kB1_0, hb, kB2_0, hf]
theorem bin_x {f : D → D → AH → R D} {a b : ME} {u : D} (ha : a s A = .ok u A1) (hb : b s A1 = .exc x A2) : mBin f a b s A = .exc x A2 := by
  rw [e_bin, ha, kB1_0, hb, kB2_x]
theorem cons_ok {e : ME} {m : MA} {d : D} {ds : List D} (h1 : e s A = .ok d A1) (h2 : m s A1 = .ok ds A2) : mCons e m s A = .ok (d :: ds) A2 := by
  rw [e_cons, h1, kC1_0, h2, kC2_0]
theorem cons_x {e : ME} {m : MA} (h1 : e s A = .exc x A1) : mCons e m s A = .exc x A1 := by
  rw [e_cons, h1, kC1_x]
theorem call_ok {g : List D → AH → R D} {ma : MA} {ds : List D} {d : D} (ha : ma s A = .ok ds A1) (hg : g ds A1 = .ok d A2) : mCall g ma s A = .ok d A2 := by
  rw [e_call, ha, kCall_0, hg]
theorem call_x {g : List D → AH → R D} {ma : MA} {ds : List D} (ha : ma s A = .ok ds A1) (hg : g ds A1 = .exc x A2) : mCall g ma s A = .exc x A2 := by
  rw [e_call, ha, kCall_0, hg]
theorem meth_ok {c m : Str} {g : List D → AH → R D} {mo : ME} {ma : MA} {n : Nat} {fs : List (Str × D)} {ds : List D} {d : D} (hm : mo s A = .ok (.ref n) A1) (hA : A1[n]? = some (.ins c fs)) (hf : fs.lookup m = none) (ha : ma s A1 = .ok ds A2) (hg : g (.ref n :: ds) A2 = .ok d A3) :
    mMeth c m g mo ma s A = .ok d A3 := by
  rw [e_meth, hm, kMe1_0, hA, kMe2_0, if_pos ⟨rfl, hf⟩, ha, kMe3_0, hg]
theorem meth_x {c m : Str} {g : List D → AH → R D} {mo : ME} {ma : MA} {n : Nat} {fs : List (Str × D)} {ds : List D} (hm : mo s A = .ok (.ref n) A1) (hA : A1[n]? = some (.ins c fs)) (hf : fs.lookup m = none) (ha : ma s A1 = .ok ds A2) (hg : g (.ref n :: ds) A2 = .exc x A3) :
    mMeth c m g mo ma s A = .exc x A3 := by
  rw [e_meth, hm, kMe1_0, hA, kMe2_0, if_pos ⟨rfl, hf⟩, ha, kMe3_0, hg]
theorem meth_ax {c m : Str} {g : List D → AH → R D} {mo : ME} {ma : MA} {n : Nat} {fs : List (Str × D)} (hm : mo s A = .ok (.ref n) A1) (hA : A1[n]? = some (.ins c fs)) (hf : fs.lookup m = none) (ha : ma s A1 = .exc x A2) :
    mMeth c m g mo ma s A = .exc x A2 := by
  rw [e_meth, hm, kMe1_0, hA, kMe2_0, if_pos ⟨rfl, hf⟩, ha, kMe3_x]
theorem asg_ok {me : ME} {i : Nat} {d : D} (h : me s A = .ok d A1) : mAsg me (gmN i) s A = .nx (s.set i (some d)) A1 := by
  rw [e_asgN, h, kAsg_0]
theorem asg_x {me : ME} {i : Nat} (h : me s A = .exc x A1) : mAsg me (gmN i) s A = .exc x s A1 := by
  rw [e_asgN, h, kAsg_x]
theorem drop_ok {me : ME} {d : D} (h : me s A = .ok d A1) : mDrop me s A = .nx s A1 := by
  rw [e_drop, h, kDrop_0]
theorem drop_x {me : ME} (h : me s A = .exc x A1) : mDrop me s A = .exc x s A1 := by
  rw [e_drop, h, kDrop_x]
theorem ret_ok {me : ME} {d : D} (h : me s A = .ok d A1) : mRet me s A = .rt d A1 := by
  rw [e_ret, h, kRet_0]
theorem ret_x {me : ME} (h : me s A = .exc x A1) : mRet me s A = .exc x s A1 := by
  rw [e_ret, h, kRet_x]
theorem seq_nx {m n : MS} {r : RS} (h : m s A = .nx s2 A1) (h2 : n s2 A1 = r) : mSeq m n s A = r := by
  rw [e_seq, h, RS.nxt_nx, h2]
theorem seq_x {m n : MS} (h : m s A = .exc x s2 A1) : mSeq m n s A = .exc x s2 A1 := by
  rw [e_seq, h, RS.nxt_exc]
theorem seq_rt {m n : MS} {d : D} (h : m s A = .rt d A1) : mSeq m n s A = .rt d A1 := by
  rw [e_seq, h, RS.nxt_rt]
theorem ifS_t {t : ME} {a b : MS} {r : RS} (h : t s A = .ok (.bl true) A1) (h2 : a s A1 = r) : mIfS (mTb t) a b s A = r := by
  rw [e_ifS, e_tb, h, kT_0, kIf_0, h2]
theorem ifS_f {t : ME} {a b : MS} {r : RS} (h : t s A = .ok (.bl false) A1) (h2 : b s A1 = r) : mIfS (mTb t) a b s A = r := by
  rw [e_ifS, e_tb, h, kT_0, kIf_1, h2]
theorem sub_x {a b v : ME} (h : v s A = .exc x A1) : mSubS a b v s A = .exc x s A1 := by
  rw [e_sub, h, kSub1_x]
theorem sub_ok {a b v : ME} {d o i : D} {A4 : AH} (h : v s A = .ok d A1) (h2 : a s A1 = .ok o A2) (h3 : b s A2 = .ok i A3) (h4 : stSub o i d A3 = some A4) : mSubS a b v s A = .nx s A4 := by
  rw [e_sub, h, kSub1_0, h2, kSub2_0, h3, kSub3_0, h4, kSub4_0]
theorem fldS_ok {cs : List Str} {f : Str} {a v : ME} {d o : D} (h : v s A = .ok d A1) (h2 : a s A1 = .ok o A2) (h4 : stFld cs f o d A2 = some A3) : mFldS cs f a v s A = .nx s A3 := by
  rw [e_fldS, h, kFS1_0, h2, kFS2_0, h4, kSub4_0]
theorem fldS_x {cs : List Str} {f : Str} {a v : ME} (h : v s A = .exc x A1) : mFldS cs f a v s A = .exc x s A1 := by
  rw [e_fldS, h, kFS1_x]
theorem fld_ok {cs : List Str} {f : Str} {a : ME} {d o : D} (h : a s A = .ok o A1) (h2 : fldD cs f o A1 = .ok d A2) : mFld cs f a s A = .ok d A2 := by
  rw [e_fld, h, kF_0, h2]
end
end Tg

set_option Elab.async false
set_option linter.all false
set_option maxRecDepth 100000
set_option maxHeartbeats 2000000
/-! TgNev: tests that are never asked. -/
namespace Tg
open PySem L2
def tNv : TT := fun _ _ _ => False
def mNv : MT := fun _ _ => .bad
theorem tnever {X : Cx} {Wx : WX} {e : Expr} : ST X Wx e tNv mNv := ⟨⟨fun _ _ _ _ _ _ h => h.elim⟩, fun _ _ _ _ _ _ _ _ h => h.elim⟩
/-! ### dict(d), a new one that will change -/
def dictCN : List D → AH → R D
  | [d], A => match dctD A d with
    | some kvs => .ok (.ref A.length) (A ++ [.dct kvs])
    | none => .bad
  | _, _ => .bad
def rDictC : List V → Hp → VK → Prop := fun xs H Q => ∃ (a : Addr) (kvs : List (Key × V)), xs = [.ref a] ∧ Rd H a (.dK kvs) ∧ ∀ p, H p = none → Q (.ref p) (upd H p (.dK kvs))
theorem oDictC {X : Cx} : CallR X (.type "dict") rDictC := call_dictD
theorem oDictCNS {K : PySem.W.Frag} {mg : Str → Option Value} : CallS K mg rDictC dictCN := fun W A H E Q ds xs k r h => by
  unfold dictCN at h
  split at h
  · obtain ⟨v, rfl, h1⟩ := reps1 r
    split at h
    · rename_i kvs e1
      obtain ⟨a, vs, rfl, h2, h3⟩ := dctD_at k h1 e1
      refine ⟨a, vs, rfl, .inl h2, fun p hp => ?_⟩
      have l : Le W ⟨W.F, W.m ++ [p]⟩ := ⟨fun _ _ e => e, [p], rfl⟩
      obtain ⟨k1, x1⟩ := k.fresh hp (o := .dK vs) (u := .dct kvs) (obd (h3.le l))
      refine h _ _ _ x1 k1 ⟨p, rfl, ?_⟩
      rw [← k.len]
      exact List.getElem?_concat_length
    · exact h.elim
  · exact h.elim
end Tg

set_option Elab.async false
set_option linter.all false
set_option maxRecDepth 100000
set_option maxHeartbeats 2000000
/-! TgOwn: things of one owner on the heap; what stays. -/
namespace Tg
open PySem L2
structure Own {ι : Type} (A : AH) (base : Nat) (ρ : ι → Nat) (c : ι → AO) : Prop where
  at_ : ∀ i, A[ρ i]? = some (c i)
  inj : ∀ i j, ρ i = ρ j → i = j
  ge : ∀ i, base ≤ ρ i
def Fr (base : Nat) (A A' : AH) : Prop := A.length ≤ A'.length ∧ ∀ i, i < base → A'[i]? = A[i]?
theorem Fr.refl {b : Nat} {A : AH} : Fr b A A := ⟨Nat.le_refl _, fun _ _ => rfl⟩
theorem Fr.trans {b : Nat} {A B C : AH} (h : Fr b A B) (g : Fr b B C) : Fr b A C := ⟨Nat.le_trans h.1 g.1, fun i hi => (g.2 i hi).trans (h.2 i hi)⟩
theorem Fr.mono {a b : Nat} {A B : AH} (h : Fr b A B) (l : a ≤ b) : Fr a A B := ⟨h.1, fun i hi => h.2 i (Nat.lt_of_lt_of_le hi l)⟩
theorem Fr.app {b : Nat} {A : AH} (l : AH) (h : b ≤ A.length) : Fr b A (A ++ l) := ⟨by rw [List.length_append]; omega, fun i hi => List.getElem?_append_left (Nat.lt_of_lt_of_le hi h)⟩
theorem Fr.set {b n : Nat} {A : AH} {o : AO} (h : b ≤ n) : Fr b A (A.set n o) := ⟨by rw [List.length_set]; exact Nat.le_refl _, fun i hi => List.getElem?_set_ne (by omega)⟩
section
variable {ι : Type} {A A' : AH} {base : Nat} {ρ : ι → Nat} {c c' : ι → AO}
theorem Own.lt (O : Own A base ρ c) (i : ι) : ρ i < A.length := (List.getElem?_eq_some_iff.mp (O.at_ i)).1
theorem Own.le (O : Own A base ρ c) (i : ι) : base ≤ A.length := Nat.le_of_lt (Nat.lt_of_le_of_lt (O.ge i) (O.lt i))
theorem Own.set [DecidableEq ι] (O : Own A base ρ c) (k : ι) {x : AO} (h : ∀ i, c' i = if i = k then x else c i) : Own (A.set (ρ k) x) base ρ c' :=
  ⟨fun i => by
    rw [h i]
    by_cases e : i = k
    · subst e
      rw [if_pos rfl, List.getElem?_set_self (O.lt i)]
    · rw [if_neg e, List.getElem?_set_ne (fun q => e (O.inj _ _ q).symm), O.at_ i], O.inj, O.ge⟩
theorem Own.fset (O : Own A base ρ c) (k : ι) {x : AO} : Fr base A (A.set (ρ k) x) := Fr.set (O.ge k)
theorem Own.new [DecidableEq ι] {ρ' : ι → Nat} (O : Own A base ρ c) (k : ι) {x : AO} (hr : ∀ i, ρ' i = if i = k then A.length else ρ i) (h : ∀ i, c' i = if i = k then x else c i) : Own (A ++ [x]) base ρ' c' := by
  refine ⟨fun i => ?_, fun i j e => ?_, fun i => ?_⟩
  · rw [h i, hr i]
    by_cases e : i = k
    · rw [if_pos e, if_pos e, List.getElem?_concat_length]
    · rw [if_neg e, if_neg e, List.getElem?_append_left (O.lt i), O.at_ i]
  · rw [hr i, hr j] at e
    by_cases p : i = k
    · by_cases q : j = k
      · rw [p, q]
      · rw [if_pos p, if_neg q] at e
        have := O.lt j
        omega
    · by_cases q : j = k
      · rw [if_neg p, if_pos q] at e
        have := O.lt i
        omega
      · rw [if_neg p, if_neg q] at e
        exact O.inj _ _ e
  · rw [hr i]
    by_cases e : i = k
    · rw [if_pos e]
      exact O.le k
    · rw [if_neg e]
      exact O.ge i
/-- what others do leaves it -/
theorem Own.fr {b : Nat} (O : Own A base ρ c) (h : ∀ i, A'[ρ i]? = A[ρ i]?) : Own A' base ρ c := ⟨fun i => by rw [h i, O.at_ i], O.inj, O.ge⟩
end
/-! ### mirrors run on -/
theorem mt_ok {T : String} {f : D → List D → AH → R D} {o : ME} {ma : MA} {s : Sl} {A A1 A2 A3 : AH} {x d : D} {ds : List D} (ho : o s A = .ok x A1) (ty : tyMD A1 T x = true) (ha : ma s A1 = .ok ds A2) (hf : f x ds A2 = .ok d A3) : mMt T f o ma s A = .ok d A3 := by
  rw [e_mt, ho, kM1_0, if_pos ty, ha, kM2_0, hf]
theorem fin_of {m : MS} {s : Sl} {A A1 : AH} {d : D} (h : m s A = .rt d A1) : finS (m s A) = .ok d A1 := by rw [h, finS_rt]
theorem fin_x {m : MS} {s s2 : Sl} {A A1 : AH} {x : XV} (h : m s A = .exc x s2 A1) : finS (m s A) = .exc x A1 := by rw [h, finS_x]
theorem fin_nx {m : MS} {s s2 : Sl} {A A1 : AH} (h : m s A = .nx s2 A1) : finS (m s A) = .ok .non A1 := by rw [h, finS_nx]
theorem try_nx {c f c0 w : Str} {i : Nat} {mb : MS} {cs : List Str} {mo mh : ME} {s s2 : Sl} {A A1 : AH} (h : mb s A = .nx s2 A1) : mTryW c i mb cs f c0 w mo mh s A = .nx s2 A1 := by
  unfold mTryW
  rw [h]
theorem try_x {c f c0 w : Str} {i : Nat} {mb : MS} {cs : List Str} {mo mh : ME} {s s2 : Sl} {A A1 A2 A3 A4 : AH} {dw dh o : D} (h : mb s A = .exc ⟨c, some [(w, dw)]⟩ s2 A1) (hi : i < s2.length) (hh : mh (s2.set i none) A1 = .ok dh A2) (ho : mo (s2.set i none) A2 = .ok o A3)
    (hst : stFld cs f o (.tup [.str c0, dw, dh]) A3 = some A4) : mTryW c i mb cs f c0 w mo mh s A = .rt .non A4 := by
  unfold mTryW
  rw [h]
  dsimp only
  rw [if_pos ⟨rfl, hi⟩]
  have e : List.lookup w [(w, dw)] = some dw := by simp [List.lookup]
  rw [e]
  dsimp only
  rw [hh]
  dsimp only
  rw [ho]
  dsimp only
  rw [hst]
theorem make_ok {c : Str} {g : List D → AH → R D} {ma : MA} {s : Sl} {A A1 A2 : AH} {ds : List D} (h : ma s A = .ok ds A1) (hg : g (.ref A1.length :: ds) (A1 ++ [.ins c []]) = .ok .non A2) : mMake c g ma s A = .ok (.ref A1.length) A2 := by
  rw [e_make, h, kMk1_0, hg, kMk2_0]
theorem par2 {i j : Nat} {a b : ME} {s : Sl} {A A1 A2 : AH} {x y : D} (h1 : a s A = .ok x A1) (h2 : b s A1 = .ok y A2) : mPar [i, j] (mCons a (mCons b mNil)) s A = .nx ((s.set i (some x)).set j (some y)) A2 := by
  rw [e_par, cons_ok h1 (cons_ok h2 rfl), kPar_2]
theorem eq_st {x y : String} {A : AH} : eqD (.str x) (.str y) A = .ok (.bl (decide (x = y))) A := by
  rw [o_eqS, ofS_beq]
theorem eqw {i : Nat} {x y : String} {s : Sl} {A : AH} {b : Bool} (h : mv i s A = .ok (.str x) A) (hb : decide (x = y) = b) : mBin eqD (mv i) (mc (.str y)) s A = .ok (.bl b) A := bin_ok h rfl (by rw [eq_st, hb])
theorem eqI {i j : Int} {A : AH} : eqD (.int i) (.int j) A = .ok (.bl (i == j)) A := o_eqI
theorem int_b {b : Bool} {A : AH} : intD [.bl b] A = .ok (.int (if b then 1 else 0)) A := rfl
theorem if_t {t : MT} {a b : ME} {s : Sl} {A A1 : AH} {r : R D} (h : t s A = .ok true A1) (h2 : a s A1 = r) : mIf t a b s A = r := by
  rw [e_if, h, kI_0, h2]
theorem if_f {t : MT} {a b : ME} {s : Sl} {A A1 : AH} {r : R D} (h : t s A = .ok false A1) (h2 : b s A1 = r) : mIf t a b s A = r := by
  rw [e_if, h, kI_1, h2]
theorem iS_t {t : MT} {a b : MS} {s : Sl} {A A1 : AH} {r : RS} (h : t s A = .ok true A1) (h2 : a s A1 = r) : mIfS t a b s A = r := by
  rw [e_ifS, h, kIf_0, h2]
theorem iS_f {t : MT} {a b : MS} {s : Sl} {A A1 : AH} {r : RS} (h : t s A = .ok false A1) (h2 : b s A1 = r) : mIfS t a b s A = r := by
  rw [e_ifS, h, kIf_1, h2]
theorem tb_ok {a : ME} {b : Bool} {s : Sl} {A A1 : AH} (h : a s A = .ok (.bl b) A1) : mTb a s A = .ok b A1 := by
  rw [e_tb, h, kT_0]
theorem and_t {a b : MT} {s : Sl} {A A1 : AH} {r : R Bool} (h : a s A = .ok true A1) (h2 : b s A1 = r) : mAnd a b s A = r := by
  rw [e_and, h, kAnd_0, h2]
theorem and_f {a b : MT} {s : Sl} {A A1 : AH} (h : a s A = .ok false A1) : mAnd a b s A = .ok false A1 := by
  rw [e_and, h, kAnd_1]
theorem or_t {a b : MT} {s : Sl} {A A1 : AH} (h : a s A = .ok true A1) : mOr a b s A = .ok true A1 := by
  rw [e_or, h, kOr_0]
theorem or_f {a b : MT} {s : Sl} {A A1 : AH} {r : R Bool} (h : a s A = .ok false A1) (h2 : b s A1 = r) : mOr a b s A = r := by
  rw [e_or, h, kOr_1, h2]
theorem not_ok {a : MT} {b : Bool} {s : Sl} {A A1 : AH} (h : a s A = .ok b A1) : mNot a s A = .ok (!b) A1 := by
  rw [e_not, h, kN_0]
theorem tup_ok {a : MA} {s : Sl} {A A1 : AH} {ds : List D} (h : a s A = .ok ds A1) (hl : ds.length ≤ 16777216 := by exact Nat.le_of_ble_eq_true rfl) : mTup a s A = .ok (.tup ds) A1 := by
  rw [e_tup, h, kTup_0, if_pos hl]
theorem lst_ok {a : MA} {s : Sl} {A A1 : AH} {ds : List D} (h : a s A = .ok ds A1) (hl : ds.length ≤ 16777216 := by exact Nat.le_of_ble_eq_true rfl) : mLst a s A = .ok (.lst ds) A1 := by
  rw [e_lst, h, kLst_0, if_pos hl]
theorem app_at {n : Nat} {d : D} {ds : List D} {A : AH} (hA : A[n]? = some (.lst ds)) (h : ds.length < 16777216) : appD (.ref n) [d] A = .ok .non (A.set n (.lst (ds ++ [d]))) := by
  rw [app_ref, hA]
  dsimp only
  rw [if_pos h]
theorem ty_ref {n : Nat} {ds : List D} {A : AH} (hA : A[n]? = some (.lst ds)) : tyMD A "list" (.ref n) = true := by simp [tyMD, seq_ref, hA]
theorem ty_dref {n : Nat} {ds : List (Key × D)} {A : AH} (hA : A[n]? = some (.dct ds)) : tyMD A "dict" (.ref n) = true := by simp [tyMD, dct_ref, hA]
theorem flat1 {d : D} : ∀ k : Nat, (List.replicate k [d]).flatten = List.replicate k d
  | 0 => rfl
  | k + 1 => by
    rw [List.replicate_succ, List.replicate_succ, List.flatten_cons, flat1 k]
    rfl
theorem mulL {d : D} {k : Nat} {A : AH} (hk : k ≤ 1000) : mulD (.lst [d]) (.int (k : Int)) A = .ok (.lst (List.replicate k d)) A := by
  simp only [mulD, lstL]
  rw [Int.toNat_natCast, if_pos ⟨by omega, by omega, by rw [List.length_singleton]; omega⟩]
  unfold repD
  rw [flat1]
theorem sl_ref {n : Nat} {ds : List D} {lo hi : Option Int} {A : AH} (h : A[n]? = some (.lst ds)) : slD (.ref n) lo hi A = .ok (.lst (cutD ds lo hi)) A := by
  show (match seqL A (.ref n) with
    | some ds => R.ok (D.lst (cutD ds lo hi)) A
    | none => .bad) = _
  rw [seq_ref, h]
end Tg

set_option Elab.async false
set_option linter.all false
set_option maxRecDepth 100000
set_option maxHeartbeats 2000000
/-! TgSrl: sorted(a list of numbers), a list taken apart. -/
namespace Tg
open PySem L2
def sortLD : List D → AH → R D
  | [.lst ds], A => match intsD ds with
    | some ns => .ok (.lst ((srtI ns).map D.int)) A
    | none => .bad
  | _, _ => .bad
theorem oSrtL {X : Cx} : CallR X (.builtin "sorted") (rSortedI X.K) := cr_sortedI
section
variable {K : PySem.W.Frag} {mg : Str → Option Value}
theorem oSrtLS : CallS K mg (rSortedI K) sortLD := fun W A H E Q ds xs k r h => by
  unfold sortLD at h
  split at h
  · rename_i ds
    obtain ⟨v, rfl, h1⟩ := reps1 r
    split at h
    · rename_i ns e1
      obtain ⟨a, vs, rfl, h2, h3⟩ := seqL_at k h1 (ds := ds) rfl
      have ev := intsD_at e1 h3
      subst ev
      refine ⟨a, ns, rfl, h2, fun ys p g1 g2 hp => ?_⟩
      have e : srtI ns = ys := sorted_one (srtI_sorted ns) g2 ((srtI_perm ns).trans g1.symm)
      rw [← e]
      exact post_lst k h (reps_ns _) hp
    · exact h.elim
  · exact h.elim
end
def gmLst (n : Nat) (gs : MGs) : MG := fun d s => match d with
  | .lst ds => if ds.length = n then gs ds s else none
  | _ => none
section
variable {X : Cx} {es : List Expr} {pos : Pos}
theorem gunl {gs : TGs} {ms : MGs} {is : List Nat} {n j : Nat} (hc : X.calm = true) (h : SGs X es gs ms is) (hn : (assignEach es X.env).length = n := by rfl) (hst : (assignEach es X.env).findIdx? (·.1) = none := by rfl) :
    SG X (.Tuple es j pos) (gUnl X.K n gs) (gmLst n ms) is := ⟨pg_unl hc h.pgs hn hst, fun W σ s s1 A H d x Q k sr r eq hq => by
  unfold gmLst at eq
  split at eq
  · rename_i ds
    split at eq
    · rename_i hl
      obtain ⟨a, xs, rfl, q1, q2⟩ := seqL_at k r (ds := ds) rfl
      exact ⟨a, xs, rfl, q1, q2.length.trans hl, h.sim W σ s s1 A H ds xs Q k sr q2 eq hq⟩
    · cases eq
  · cases eq⟩
end
end Tg

set_option Elab.async false
set_option linter.all false
set_option maxRecDepth 100000
set_option maxHeartbeats 4000000
/-! TgTry: try .. except C as n: o.append(n.w); list(reversed(a list)); list(range(a, b, c)). -/
namespace Tg
open PySem PySem.Spec PyProof.Rows L2
/-- try: body; except c as (slot i): o.append(it.w) -/
def mTryA (c : Str) (i : Nat) (mb : MS) (w : Str) (mo : ME) : MS := fun s A => match mb s A with
  | .exc x s1 A1 => if x.c = c ∧ i < s1.length then (match x.fs with
    | some fs => (match fs.lookup w with
      | some dw => (match mo (s1.set i none) A1 with
        | .ok o A2 => if tyMD A2 "list" o then (match appD o [dw] A2 with
          | .ok _ A3 => .nx (s1.set i none) A3
          | _ => .bad) else .bad
        | _ => .bad)
      | none => .bad)
    | none => .bad) else .bad
  | r => r
section
variable {X : Cx} {Wx : WX} {c n w : Str} {i : Nat} {body : List Stmt} {o : Expr} {np ap cp pos pos' p3 p4 p6 : Pos} {tb : WX → TS} {to : TE} {mb : MS} {mo : ME}
theorem sim_tryA {K : PySem.W.Frag} {mg : Str → Option Value} {C : Addr} (hm : clA mg c = C) (hex : PySem.W.exmOne K (.ref C) (.ref C) = some true) (hb : ∀ W : WX, SimS K mg W (tb W) mb) (ho : SimE K mg (fun _ _ _ _ => False) to mo) :
    SimS K mg Wx (fun De σ H => tb (wAs K (.ref C) i (fun a cls d => tDrop (tBM K "list" rAppend to (tCons (tXf a cls d C w (tVar i)) tNil))) Wx De) De σ H) (mTryA c i mb w mo) := by
  intro W σ s A H De k sr z
  refine hb _ W σ s A H De k sr ?_
  unfold mTryA at z
  generalize mb s A = r at z
  cases r with
  | nx s1 A1 => exact z
  | rt d A1 => exact z
  | bk s1 A1 => exact z
  | ct s1 A1 => exact z
  | bad => exact z
  | exc x s1 A1 =>
    intro W1 σ1 H1 cls d e1 k1 sr1 xr
    dsimp only at z
    split at z
    · rename_i hc
      obtain ⟨hc, hil⟩ := hc
      obtain ⟨q1, q2⟩ := id xr
      rw [hc, hm] at q1
      subst q1
      refine ⟨true, hex, fun _ a ha => ?_, fun h => nomatch h⟩
      cases hfs : x.fs with
      | none =>
        rw [hfs] at z
        exact z.elim
      | some fs =>
        rw [hfs] at z q2
        obtain ⟨dd, vs, rfl, x2, x3, x4, x5, x6⟩ := q2
        dsimp only at z
        cases hw : fs.lookup w with
        | none =>
          rw [hw] at z
          exact z.elim
        | some dw =>
          rw [hw] at z
          dsimp only at z
          obtain ⟨v, hv, rv⟩ := fld_at x3 x4 hw
          have hi : i < σ1.length := by rw [sr1.len]; exact hil
          have sr2 : SlR K W1 (s1.set i none) (σ1.set i (some (.ref a))) := sr1.unset i
          generalize hmo : mo (s1.set i none) A1 = ro at z
          cases ro with
          | exc y A2 => exact z.elim
          | bad => exact z.elim
          | ok od A2 =>
            dsimp only at z
            by_cases q : tyMD A2 "list" od = true
            · rw [if_pos q] at z
              generalize hap : appD od [dw] A2 = ra at z
              cases ra with
              | exc y A3 => exact z.elim
              | bad => exact z.elim
              | ok dn A3 =>
                dsimp only at z
                have hσ : (σ1.set i (some (.ref a)))[i]? = some (some (.ref a)) := List.getElem?_set_self hi
                refine ho W1 _ (s1.set i none) A1 H1 _ k1 sr2 ?_
                rw [hmo]
                intro W2 H2 vo e2 k2 ro
                refine ⟨tyMD_at k2 ro q, ?_⟩
                refine ⟨.ref a, hσ, rfl, rfl, dd, vs, v, rfl, e2.out dd _ x2 (fun _ q => nomatch q) x6, hv, ?_⟩
                show rAppend vo [v] H2 (fun _ H3 => De.nx ((σ1.set i (some (.ref a))).set i none) H3)
                refine oAppS W2 A2 H2 (fun _ _ _ => False) _ od vo [dw] [v] k2 ro (Reps.one (rv.le e2.le)) ?_
                rw [hap]
                intro W3 H3 vn e3 k3 rn
                have sr3 : SlR K W3 (s1.set i none) ((σ1.set i (some (.ref a))).set i none) := by
                  rw [List.set_set]
                  exact (sr1.unset i).le (e2.trans e3).le
                exact z _ _ _ ((e1.trans e2).trans e3) k3 sr3
            · rw [if_neg q] at z
              exact z.elim
    · exact z.elim
theorem stryA (hc : X.calm = true) (hN : X.N.Nodup) (hcat : XCat X.K X.mg c w) (tk : Takes X Wx)
    (hb : ∀ (W : WX) (pn : List (Addr × Obj)) (xe : Value → Shared → Prop), Takes (X.tr pn xe) W → PassesOwn (model X.prog X.w) X.A X.env xe → SSs (X.tr pn xe) W body (tb W) mb)
    (ho : ∀ (a : Addr) (oe : Obj) (pn : List (Addr × Obj)), SE (X.suite a ((a, oe) :: pn)) (fun _ _ _ _ => False) o to mo)
    (hs : X.stack = X.env :: X.outer := by rfl) (hf : X.env.frame = some X.env.locals := by rfl) (hi : X.N[i]? = some n := by rfl) (hln : X.env.kindOf n = some .local := by rfl) (hg : Gl X c := by rfl) (hdb : (c == ("__debug__" : Str)) = false := by decide)
    (hv : Vis X.env.scope n := by first | exact Or.inl rfl | exact Or.inr (Or.inl rfl) | exact Or.inr (Or.inr rfl)) (hd : (n == ("__debug__" : Str)) = false := by decide) (hcd : (n == ("__classdict__" : Str)) = false := by decide)
    (h5 : attributeBase (.Name n p3) w X.env (eval (.Name n p3) X.env) = eval (.Name n p3) X.env := by rfl)
    (hbase : attributeBase o "append" X.env (eval o X.env) = eval o X.env := by rfl)
    (hfew : ((backTo cp (starEach [.Attribute (.Name n p3) w p4] X.env)).all (fun x => !x.1) && (backToKw cp (keywordEach [] X.env)).all (fun x => x.1.isSome) && decide (([.Attribute (.Name n p3) w p4] : List Expr).length + ([] : List Keyword).length + (if ([] : List Keyword).isEmpty then 0 else 1) < 30)) = true := by rfl)
    (hline : (ap.endLine == cp.line) = true := by rfl) (hst : starEach [.Attribute (.Name n p3) w p4] X.env = (false, eval (.Attribute (.Name n p3) w p4) X.env) :: starEach [] X.env := by rfl)
    (hsw : swapsWith (.Call (.Attribute o "append" ap) [.Attribute (.Name n p3) w p4] [] cp) none p6.line X.env = pure false := by rfl) :
    SS X Wx (.Try body [.ExceptHandler (some (.Name c np)) (some n) [.Expr (.Call (.Attribute o "append" ap) [.Attribute (.Name n p3) w p4] [] cp) p6] pos'] [] [] pos)
      (fun De σ H => tb (wAs X.K (.ref (clA X.mg c)) i (fun a cls d => tDrop (tBM X.K "list" rAppend to (tCons (tXf a cls d (clA X.mg c) w (tVar i)) tNil))) Wx De) De σ H) (mTryA c i mb w mo) := by
  obtain ⟨C, hm, hex, hxf, hno⟩ := hcat
  have eC : clA X.mg c = C := clA_of hm
  rw [eC]
  refine ⟨ps_try_as hs hf hN hi hln ⟨hg, hdb, .inl hm⟩ tk (fun W pn xe t p => (hb W pn xe t p).ps) (fun a oe cls d pn hz hfl => ?_), ?_⟩
  · exact pss_one (ps_expr (pe_bm PySem.F.plainAttrs_list PySem.F.slot_list_append PySem.F.type_list_append mt_append (ho a oe pn).pe (pa_cons (pe_xf hxf hno hz hfl (pe_var hi hv hd hcd) h5) pa_nil hst) hbase hfew hline hst rfl) hsw)
  · exact sim_tryA eC hex (fun W => (hb W _ _ takes_void PassesOwn.never).sim) (ho 0 { cls := .none, data := .fields #[] } []).sim
end
/-! ### list(range(a, b, c)) -/
def rgVc (i c : Int) (n : Nat) : List V := (List.range n).map fun k => V.int (i + (k : Nat) * c)
theorem vals_rgc {i c : Int} {n : Nat} {acc : Array Value} (h : ItemsOf (fun k v => ∃ t, v = .int (i + k * c) t) acc n) : Vals (rgVc i c n) acc.toList := by
  have e : acc.toList.length = n := by rw [Array.length_toList]; exact h.1
  unfold rgVc
  rw [← e]
  refine vals_of_get acc.toList _ fun j u hj => ?_
  obtain ⟨t, rfl⟩ := h.2 j u (by rw [← hj, Array.getElem?_toList])
  exact ⟨t, rfl⟩
def tLRg3 (ta : TA) : TE := fun σ H Q => ta σ H fun vs H1 => ∃ (i j c : Int) (n : Nat), vs = [.int i, .int j, .int c] ∧ RgC i j c n ∧ n ≤ 2 ^ 24 ∧ ∀ q, H1 q = none → Q (.ref q) (upd H1 q (.lst (rgVc i c n)))
def mLRg3 (m : MA) : ME := fun s A => (m s A).bind fun ds A1 => match ds with
  | [.int i, .int j, .int c] => if c ≠ 0 ∧ c.natAbs < 1073741824 ∧ Builtin.Range.small i j c = true ∧ (Builtin.Range.rangeSize i j c).toNat ≤ 2 ^ 24 then .ok (.lst (rngL i c (Builtin.Range.rangeSize i j c).toNat)) A1 else .bad
  | _ => .bad
section
variable {X : Cx} {Wx : WX} {a b c : Expr} {ta : TA} {ma : MA} {p p2 pos pos2 : Pos}
theorem pe_lrg3 (hc : X.calm = true) (hg : Gl X "list") (hm : X.mg "list" = none) (hg2 : Gl X "range") (hm2 : X.mg "range" = none) (ha : PA X [a, b, c] ta)
    (hs : starEach [a, b, c] X.env = (false, eval a X.env) :: starEach [b, c] X.env := by rfl) (hpl : (backTo pos2 (starEach [b, c] X.env)).any (·.1) = false := by rfl)
    (hs2 : starEach [.Call (.Name "range" p2) [a, b, c] [] pos2] X.env = (false, eval (.Call (.Name "range" p2) [a, b, c] [] pos2) X.env) :: starEach [] X.env := by rfl) :
    PE X (.Call (.Name "list" p) [.Call (.Name "range" p2) [a, b, c] [] pos2] [] pos) (tLRg3 ta) := by
  refine ⟨fun pins s σ H Q I h => ?_⟩
  refine Call_ (ld_blt I hg hm boot_list (PyProof.Rows.callWith_type1 (args_cons (Call_ (ld_blt I hg2 hm2 boot_range (PyProof.Rows.callWith_type1 (thn (ha.run pos2 pins s σ H _ I h) fun us s1 ⟨vs, H1, I1, r1, q1⟩ => ?_) hs hpl))) hs2) hs2))
  obtain ⟨i, j, k, n, e, ⟨c0, c1, c2, c3⟩, hn, q⟩ := q1
  subst e
  cases r1 with
  | cons r rr =>
    cases rr with
    | cons r' rr =>
      cases rr with
      | cons r'' rr =>
        cases rr
        obtain ⟨t, rfl⟩ := r
        obtain ⟨t', rfl⟩ := r'
        obtain ⟨t'', rfl⟩ := r''
        refine call_range_3 c0 ?_ (.inl (PyProof.noPylong_small c1))
        have I2 : Inv X pins σ H1 { s1 with heap := s1.heap.push { cls := .type "range", data := .fields #[.int i t, .int j t', .int k t''] } } := I1.kept (t' := s1.toks) fun b o e => Heap.get?_push_of_some _ e
        refine args_nil ?_
        refine call_list_range (s := { s1 with heap := s1.heap.push { cls := .type "range", data := .fields #[.int i t, .int j t', .int k t''] } }) (n := n) (I2.ok.hd hc) (IsRange.new ..) c2 c3 hn fun h' tk acc c' hk e' hi => ?_
        refine ⟨.ref _, upd H1 _ (.lst (rgVc i k n)), I2.laid hk (Nat.le_refl _) (show ObjOk X.prog X.w _ _ _ (.lst (rgVc i k n)) from ⟨?_, acc.toList, c', vals_rgc hi, ?_⟩), rfl, q _ (I2.hok.fresh (Nat.le_refl _))⟩
        · unfold rgVc
          rw [List.length_map, List.length_range, sizeLine_eq]
          exact hn
        · rw [Array.toArray_toList]
          exact e'
theorem slrg3 (hc : X.calm = true) (hm : X.mg "list" = none) (hm2 : X.mg "range" = none) (ha : SA X Wx [a, b, c] ta ma) (hg : Gl X "list" := by rfl) (hg2 : Gl X "range" := by rfl)
    (hs : starEach [a, b, c] X.env = (false, eval a X.env) :: starEach [b, c] X.env := by rfl) (hpl : (backTo pos2 (starEach [b, c] X.env)).any (·.1) = false := by rfl)
    (hs2 : starEach [.Call (.Name "range" p2) [a, b, c] [] pos2] X.env = (false, eval (.Call (.Name "range" p2) [a, b, c] [] pos2) X.env) :: starEach [] X.env := by rfl) :
    SE X Wx (.Call (.Name "list" p) [.Call (.Name "range" p2) [a, b, c] [] pos2] [] pos) (tLRg3 ta) (mLRg3 ma) :=
  ⟨pe_lrg3 hc hg hm hg2 hm2 ha.pa hs hpl hs2, fun W σ s A H Q k sr z => ha.sim W σ s A H _ k sr (z.bind fun ds A1 vs W1 H1 e1 k1 r1 h1 => by
    split at h1
    · obtain ⟨v, r', rfl, q, r2⟩ := r1
      obtain ⟨u, w, rfl, q', q2⟩ := reps2 r2
      cases (show v = _ from q)
      cases (show u = _ from q')
      cases (show w = _ from q2)
      split at h1
      · rename_i i j c' b
        refine ⟨i, j, c', (Builtin.Range.rangeSize i j c').toNat, rfl, ⟨b.1, b.2.1, b.2.2.1, ?_⟩, b.2.2.2, fun q hq => post_lst k1 h1 ?_ hq⟩
        · have : 0 ≤ Builtin.Range.rangeSize i j c' := by
            unfold Builtin.Range.rangeSize
            split
            · split
              · have := Int.ediv_nonneg (a := j - i - 1) (b := c') (by omega) (by omega)
                omega
              · exact Int.le_refl 0
            · split
              · have := Int.ediv_nonneg (a := i - j - 1) (b := -c') (by omega) (by omega)
                omega
              · exact Int.le_refl 0
          omega
        · generalize (Builtin.Range.rangeSize i j c').toNat = n
          have e1 : rngL i c' n = ((List.range n).map fun k : Nat => i + (k : Int) * c').map D.int := by
            unfold rngL
            rw [List.map_map]
            rfl
          have e2 : rgVc i c' n = ((List.range n).map fun k : Nat => i + (k : Int) * c').map V.int := by
            unfold rgVc
            rw [List.map_map]
            rfl
          rw [e1, e2]
          exact reps_ints _ _
      · exact h1.elim
    · exact h1.elim)⟩
end
/-! ### list(reversed(a list)) -/
section
variable {prog : Program} {w : World} {A : Around} {E : Value → Shared → Prop} {s : Shared}
theorem list_init_rev {R : Result → Shared → Prop} {it l : Addr} {items : Array Value} (hh : A.handled = none) (hit : s.heap.IsRevIter it l ((items.size : Int) - 1)) (hl : s.heap.IsList l items) (hne : l ≠ it) (hn : items.size ≤ sizeLine) (S : Addr)
    (hS : s.heap.get? S = some { cls := .type "list", data := .seq #[] }) (hSi : S ≠ it) (hSl : S ≠ l)
    (hR : ∀ (h' : Heap) (tk : Nat) (acc : Array Value) (c' : Nat), (∀ b o, b ≠ S → b ≠ it → s.heap.get? b = some o → h'.get? b = some o) → h'.get? S = some { cls := .type "list", dict := none, data := .seq acc c', slots := #[] } →
      ItemsOf (fun i v => items[items.size - 1 - i]? = some v) acc items.size → R (.ok (.ret .none)) { s with heap := h', toks := tk }) :
    wpAny (model prog w) A.in1 (Builtin.«list.__init__» ⟨[.ref S, .ref it], []⟩)
      (fun fin s' => match fin with | .done f => R (.ok f) s' | .again c' => c'.quiet = true ∧ codeAny (model prog w) A c' R s') (fun e s' => R (.error e) s') s := by
  have W := (Walks.listRev (prog := prog) (w := w) (A := A.in1) hh it l hne items).toS
  show wpAny _ _ (do let old ← Builtin.List.listItems (.ref S); Builtin.List.listUpdate (.ref S) (fun _ => #[]); letGo old.toList.reverse; Builtin.List.listExtendWith (.ref S) (.ref it) .none) _ _ s
  refine wpAny_bind ?_
  unfold Builtin.List.listItems
  refine wpAny_bind (wpAny_seqItems hS rfl (wpAny_pure ?_))
  show wpAny _ _ (updateSeq S (fun _ => #[]) >>= fun _ => letGo (#[] : Array Value).toList.reverse >>= fun _ => Builtin.List.listExtendWith (.ref S) (.ref it) .none) _ _ s
  refine wpAny_bind (wpAny_updateSeq hS rfl ?_)
  have hS2 := Heap.get?_update_self (Obj.mapSeq (fun _ => (#[] : Array Value))) hS rfl
  have oth : ∀ b o, b ≠ S → s.heap.get? b = some o → (s.heap.update S (Obj.mapSeq (fun _ => (#[] : Array Value)))).get? b = some o :=
    fun b o hb e => (Heap.get?_update_other _ _ (Ne.symm hb)).trans e
  refine wpAny_bind (wpAny_letGo ?_)
  have hSf : S ∉ [it, l] := by simp only [List.mem_cons, List.not_mem_nil, or_false, not_or]; exact ⟨hSi, hSl⟩
  have hit1 : (s.heap.update S (Obj.mapSeq (fun _ => (#[] : Array Value)))).IsRevIter it l ((items.size : Int) - 1) := hit.at fun o e => oth it o (Ne.symm hSi) e
  have hl1 : (s.heap.update S (Obj.mapSeq (fun _ => (#[] : Array Value)))).IsList l items := by
    obtain ⟨o, ho, r⟩ := hl
    exact ⟨o, oth l o (Ne.symm hSl) ho, r⟩
  generalize s.heap.update S (Obj.mapSeq (fun _ => (#[] : Array Value))) = h1 at hS2 oth hit1 hl1
  have hT : ({ s with heap := h1 } : Shared).TypeIs (.ref it) "list_reverseiterator" := Heap.IsRevIter.typeIs (s := { s with heap := h1 }) hit1
  have h1' : Builtin.List.listSameRef (.ref S) (.ref it) = false := by simp [Builtin.List.listSameRef, hSi]
  unfold Builtin.List.listExtendWith
  refine wpAny_bind (wpAny_typeOf hT ?_)
  rw [if_neg (by rw [h1']; decide)]
  refine wpAny_bind (wpAny_pyIter_revIter (s := { s with heap := h1 }) hit1 ?_)
  refine wpAny_bind (wpAny_holding ?_)
  unfold Builtin.List.listLengthHint
  refine wpAny_bind (wpAny_specialOf hT RT.nolen_lri ?_)
  show wpAny _ A.in1 (specialOf (Value.ref it) (Str.ofString "__length_hint__") >>= _) _ _ _
  refine wpAny_bind (wpAny_specialOf hT RT.hint_lri ?_)
  generalize hid : ("list_reverseiterator.__length_hint__" : String) = id0
  wp_delta
  rw [show splitId id0 = some ("list_reverseiterator", "__length_hint__") from by subst hid; decide +kernel]
  subst hid
  refine wpAny_bind (wpAny_isInstance (b := true) hT (by rw [isSubtype_type]; kernel_rfl) ?_)
  refine wpAny_pure ?_
  rw [if_neg (by decide)]
  have e0 : ((items.size : Nat) : Int) - 1 - ((0 : Nat) : Int) = (items.size : Int) - 1 := by omega
  refine wpAny_pure ⟨plainId_quiet F.plain_extend_loop _, codeAny_extend_loopS W hn _ hSf _ items.size 0 _ _ _ rfl (Nat.zero_le _) ⟨Nat.zero_le _, by rw [e0]; exact hit1, hl1⟩ hS2 (ItemsOf.nil _) fun s' acc' c' hm hS' hacc => ?_⟩
  rw [Moved.eq_with hm]
  refine hR s'.heap s'.toks acc' c' (fun b o hb hb2 e => hm.heap b o (fun hmem => ?_) (oth b o hb e)) hS' hacc
  rcases List.mem_cons.mp hmem with e' | hmem
  · exact hb e'
  · exact hb2 (List.mem_singleton.mp hmem)
theorem call_list_rev {it l : Addr} {items : Array Value} {Q : Value → Shared → Prop} (hh : A.handled = none) (hit : s.heap.IsRevIter it l ((items.size : Int) - 1)) (hl : s.heap.IsList l items) (hne : l ≠ it) (hn : items.size ≤ sizeLine)
    (hQ : ∀ (h' : Heap) (tk : Nat) (acc : Array Value) (c' : Nat), (∀ b o, b ≠ it → s.heap.get? b = some o → h'.get? b = some o) → h'.get? s.heap.objs.size = some { cls := .type "list", dict := none, data := .seq acc c', slots := #[] } →
      ItemsOf (fun i v => items[items.size - 1 - i]? = some v) acc items.size → Q (.ref s.heap.objs.size) { s with heap := h', toks := tk }) :
    wpAny (model prog w) A (call (.type "list") [.ref it]) Q E s := by
  obtain ⟨oi, hoi, _⟩ := id hit
  obtain ⟨ol, hol, _⟩ := id hl
  refine callType_codes (Q₁ := fun obj s₁ => obj = .ref s.heap.objs.size ∧ s₁ = { s with heap := s.heap.push { cls := .type "list", data := .seq #[] } }) F.called_list (F.typeCall_list_1 _) F.entry_list_init
    (code_list_new _ ⟨rfl, rfl⟩) fun obj s₁ h₁ => ?_
  obtain ⟨rfl, rfl⟩ := h₁
  have hS : (s.heap.push { cls := .type "list", data := .seq #[] }).get? s.heap.objs.size = some { cls := .type "list", data := .seq #[] } := Heap.get?_push_size _ rfl
  refine ⟨⟨_, hS, rfl⟩, F.args_list_init_2 _ _, list_init_rev (s := { s with heap := s.heap.push { cls := .type "list", data := .seq #[] } }) (A := A.in1) hh (hit.at fun o e => Heap.get?_push_of_some _ e) (hl.push _) hne hn _ hS (Nat.ne_of_gt (Heap.lt_size hoi)) (Nat.ne_of_gt (Heap.lt_size hol)) fun h' tk acc' c' hk hS' hacc => ?_⟩
  exact ⟨rfl, hQ h' tk acc' c' (fun b o hb e => hk b o (Nat.ne_of_lt (Heap.lt_size e)) hb (Heap.get?_push_of_some _ e)) hS' hacc⟩
end
def tLRev (K : PySem.W.Frag) (te : TE) : TE := fun σ H Q => te σ H fun v H1 => ∃ (a : Addr) (xs : List V), v = .ref a ∧ SqL K H1 a xs ∧ ∀ q, H1 q = none → Q (.ref q) (upd H1 q (.lst xs.reverse))
def mLRev (m : ME) : ME := fun s A => (m s A).bind fun x A1 => match x with
  | .lst ds => .ok (.lst ds.reverse) A1
  | _ => .bad
section
variable {X : Cx} {Wx : WX} {e : Expr} {te : TE} {me : ME} {p p2 pos pos2 : Pos}
theorem pe_lrev (hc : X.calm = true) (hg : Gl X "list") (hm : X.mg "list" = none) (hg2 : Gl X "reversed") (hm2 : X.mg "reversed" = none) (he : PE X e te)
    (hs : starEach [e] X.env = (false, eval e X.env) :: starEach [] X.env := by rfl)
    (hs2 : starEach [.Call (.Name "reversed" p2) [e] [] pos2] X.env = (false, eval (.Call (.Name "reversed" p2) [e] [] pos2) X.env) :: starEach [] X.env := by rfl) :
    PE X (.Call (.Name "list" p) [.Call (.Name "reversed" p2) [e] [] pos2] [] pos) (tLRev X.K te) := by
  refine ⟨fun pins s σ H Q I h => ?_⟩
  refine Call_ (ld_blt I hg hm boot_list (PyProof.Rows.callWith_type1 (args_cons (Call_ (ld_blt I hg2 hm2 PyProof.Rows.boot_reversed (PyProof.Rows.callWith_type1 (args_cons (thn (he.run pins s σ H _ I h) fun u s1 ⟨v, H1, I1, r1, q1⟩ => args_nil ?_) hs) hs rfl))) hs2) hs2 rfl))
  obtain ⟨a, xs, ev, hq, q⟩ := q1
  subst ev
  obtain rfl : u = Value.ref a := r1
  obtain ⟨its, rv, p', hz⟩ := I1.list hq
  refine call_reversed_list p'.isList (args_nil ?_)
  have k0 : ∀ b o, s1.heap.get? b = some o → (s1.heap.push (revObj a ((its.toArray.size : Int) - 1))).get? b = some o := fun b o e => Heap.get?_push_of_some _ e
  have I2 : Inv X pins σ H1 { s1 with heap := s1.heap.push (revObj a ((its.toArray.size : Int) - 1)) } := I1.kept (t' := s1.toks) k0
  obtain ⟨f0, f1, f2, f3, f4, f5⟩ := I1.fpOk (H' := H1) (b := s1.heap.objs.size) (Nat.le_refl _) (I1.hok.fresh (Nat.le_refl _))
  have hl := p'.isList
  obtain ⟨ol, hol, _⟩ := id hl
  have hne : a ≠ s1.heap.objs.size := Nat.ne_of_lt (Heap.lt_size hol)
  have hn : its.toArray.size ≤ sizeLine := by rw [List.size_toArray, ← rv.length]; exact hz
  refine call_list_rev (s := { s1 with heap := s1.heap.push (revObj a ((its.toArray.size : Int) - 1)) }) (I1.ok.hd hc) ⟨_, Heap.get?_push_size _ rfl, rfl, rfl⟩ (hl.push _) hne hn fun h' tk acc c' hk e' hi => ?_
  have old : ∀ b o, s1.heap.get? b = some o → h'.get? b = some o := fun b o e => hk b o (Nat.ne_of_lt (Heap.lt_size e)) (k0 b o e)
  have big : s1.heap.objs.size ≤ (s1.heap.push (revObj a ((its.toArray.size : Int) - 1))).objs.size := by
    show s1.heap.objs.size ≤ (s1.heap.objs.push _).size
    rw [Array.size_push]
    exact Nat.le_succ _
  refine ⟨.ref _, upd H1 _ (.lst xs.reverse), I1.laid (t' := tk) old big (show ObjOk X.prog X.w _ _ _ (.lst xs.reverse) from ⟨by rw [List.length_reverse]; exact hz, acc.toList, c', RT.vals_rev rv hi, ?_⟩), rfl, q _ (I1.hok.fresh big)⟩
  rw [Array.toArray_toList]
  exact e'
theorem slrev (hc : X.calm = true) (hm : X.mg "list" = none) (hm2 : X.mg "reversed" = none) (h : SE X Wx e te me) (hg : Gl X "list" := by rfl) (hg2 : Gl X "reversed" := by rfl)
    (hs : starEach [e] X.env = (false, eval e X.env) :: starEach [] X.env := by rfl)
    (hs2 : starEach [.Call (.Name "reversed" p2) [e] [] pos2] X.env = (false, eval (.Call (.Name "reversed" p2) [e] [] pos2) X.env) :: starEach [] X.env := by rfl) :
    SE X Wx (.Call (.Name "list" p) [.Call (.Name "reversed" p2) [e] [] pos2] [] pos) (tLRev X.K te) (mLRev me) :=
  ⟨pe_lrev hc hg hm hg2 hm2 h.pe hs hs2, fun W σ s A H Q k sr z => h.sim W σ s A H _ k sr (z.bind fun x A1 v W1 H1 e1 k1 r1 h1 => by
    cases x with
    | lst ds =>
      obtain ⟨a, xs, rfl, q1, q2⟩ := seqL_at k1 r1 (ds := ds) rfl
      exact ⟨a, xs, rfl, q1, fun q hq => post_lst k1 h1 q2.reverse hq⟩
    | _ => exact h1.elim)⟩
end
end Tg

set_option Elab.async false
set_option linter.all false
set_option maxRecDepth 100000
set_option maxHeartbeats 4000000
/-! TgVal: text not in d.values(), the values texts. -/
namespace Tg
open PySem PySem.Spec PyProof.Rows L2
theorem entry_citer : entryFor table "proto.contains_iter" = some Builtin.«proto.contains_iter» := entryFor_of_tree (by kernel_rfl)
theorem plain_citer : plainId "proto.contains_iter" = true := by decide +kernel
theorem nocont_vals : typeLookup (.type "dict_values") "__contains__" = pure none := by rw [typeLookup_type, builtinLookup_eq_fast]; kernel_rfl
section
variable {prog : Program} {w : World} {A : Around} {I : Addr} {fp wr : List Addr} {G : Array GenState → Array GenState → Prop} {n : Nat} {P : Nat → Value → Prop} {St : Nat → Shared → Prop} {R : Result → Shared → Prop}
theorem code_citer (W : WalksS prog w A.in1 I fp wr G n P St) (x : Str) (u : Tok) (ss : Nat → Str) (hP : ∀ i v, P i v → ∃ t, v = .str (ss i) t) :
    ∀ (k i : Nat) (s : Shared), n - i = k → i ≤ n → St i s →
    (∀ s' (b : Bool), Moved wr G s s' → (b = true ↔ ∃ j, i ≤ j ∧ j < n ∧ ss j = x) → R (.ok (.ret (.bool b))) s') →
    codeAny (model prog w) A (.builtin "proto.contains_iter" ⟨[.ref I, .str x u], []⟩) R s := by
  intro k
  induction k with
  | zero =>
    intro i s hk hi hst hR
    have hin : i = n := by omega
    subst hin
    refine codeAny_builtin entry_citer ?_
    rw [Around.under_plainId plain_citer _]
    show wpAny _ A.in1 (pyNext (.ref I) >>= _) _ _ s
    refine wpAny_bind (W.done s _ _ hst fun s' hm => ?_)
    refine wpAny_bind (wpAny_rule ?_)
    exact wpAny_pure (hR s' false hm ⟨(fun z => nomatch z), fun ⟨j, h1, h2, _⟩ => absurd h2 (by omega)⟩)
  | succ k ih =>
    intro i s hk hi hst hR
    have hlt : i < n := by omega
    refine codeAny_builtin entry_citer ?_
    rw [Around.under_plainId plain_citer _]
    show wpAny _ A.in1 (pyNext (.ref I) >>= _) _ _ s
    refine wpAny_bind (W.item i s _ _ hlt hst fun v s' hv hst' hm => ?_)
    obtain ⟨t, rfl⟩ := hP i v hv
    show wpAny _ A.in1 (eqBool (.str (ss i) t) (.str x u) >>= _) _ _ s'
    refine wpAny_bind (wpAny_eqBool_str ?_)
    by_cases q : ss i = x
    · rw [decide_eq_true q]
      show wpAny _ A.in1 (rule "in.by-iteration.found" >>= fun _ => ret (.bool true)) _ _ s'
      refine wpAny_bind (wpAny_rule ?_)
      exact wpAny_pure (hR s' true hm ⟨fun _ => ⟨i, Nat.le_refl _, hlt, q⟩, fun _ => rfl⟩)
    · rw [decide_eq_false q]
      show wpAny _ A.in1 (again (.builtin "proto.contains_iter" ⟨[.ref I, .str x u], []⟩)) _ _ s'
      refine wpAny_pure ⟨plainId_quiet plain_citer _, ih (i + 1) s' (by omega) hlt hst' fun s'' b hm' hb => hR s'' b (Moved.trans W.gtrans hm hm') ?_⟩
      rw [hb]
      exact ⟨fun ⟨j, h1, h2, h3⟩ => ⟨j, by omega, h2, h3⟩, fun ⟨j, h1, h2, h3⟩ => ⟨j, by
        by_cases e : j = i
        · rw [e] at h3
          exact absurd h3 q
        · omega, h2, h3⟩⟩
end
section
variable {prog : Program} {w : World} {A : Around} {E : Value → Shared → Prop} {s : Shared}
theorem contains_vals {v d : Addr} {vs : List (Key × Value)} {ep : Nat} {x : Str} {u : Tok} {ss : Nat → Str} {Q : Bool → Shared → Prop} (hh : A.handled = none) (hv : s.heap.IsValuesView v d) (hd : s.heap.DictAt (mixKind prog w) d vs ep) (hne : d < s.heap.objs.size)
    (hss : ∀ (i : Nat) (y : Value), (∃ k, vs[i]? = some (k, y)) → ∃ t, y = Value.str (ss i) t)
    (hQ : ∀ (h' : Heap) (tk : Nat) (b : Bool), (∀ a o, s.heap.get? a = some o → h'.get? a = some o) → (b = true ↔ ∃ j, j < vs.length ∧ ss j = x) → Q b { s with heap := h', toks := tk }) :
    wpAny (model prog w) A (contains (.ref v) (.str x u)) Q E s := by
  have hT : s.TypeIs (.ref v) "dict_values" := hv.typeIs
  unfold contains
  refine wpAny_holding ?_
  rw [stdlibNamesSay?_of_typeIs hT]
  refine wpAny_bind (wpAny_specialOf hT nocont_vals ?_)
  show wpAny _ A (if ((none : Option Value) == some Value.none) = true then _ else _) Q E s
  rw [if_neg (by decide)]
  refine wpAny_bind (wpAny_callSpecialUnlessNone?_none hT nocont_vals ?_)
  refine wpAny_bind (wpAny_rule ?_)
  refine wpAny_bind (wpAny_tryCatch (wpAny_pyIter_values (v := v) (d := d) hv hd ?_))
  have hlt : d ≠ s.heap.objs.size := Nat.ne_of_lt hne
  have W := (Walks.dictValues (prog := prog) (w := w) (knd := mixKind prog w) (A := A.in1) hh s.heap.objs.size d hlt vs ep).toS
  refine wpAny_bind (wpAny_runValue (code_citer W x u ss hss vs.length 0 _ (by omega) (Nat.zero_le _) ⟨⟨_, Heap.get?_push_size _ rfl, rfl, rfl⟩, hd.keep fun b o e => Heap.get?_push_of_some _ e⟩ fun s' b hm hb => ?_))
  show wpAny _ A (pure b) Q E s'
  refine wpAny_pure ?_
  rw [Moved.eq_with hm]
  refine hQ s'.heap s'.toks b (fun a o e => hm.heap a o (fun hmem => ?_) (Heap.get?_push_of_some _ e)) ?_
  · have e1 : a = s.heap.objs.size := List.mem_singleton.mp hmem
    exact absurd (Heap.lt_size e) (by rw [e1]; exact Nat.lt_irrefl _)
  · rw [hb]
    exact ⟨fun ⟨j, _, h2, h3⟩ => ⟨j, h2, h3⟩, fun ⟨j, h2, h3⟩ => ⟨j, Nat.zero_le _, h2, h3⟩⟩
end
def tNinV (ta td : TE) : TE := fun σ H Q => ta σ H fun x H1 => td σ H1 fun y H2 => ∃ (s : Str) (d : Addr) (kvs : List (Key × V)) (ss : List Str), x = .str s ∧ y = .ref d ∧ H2 d = some (.dK kvs) ∧ kvs.map (·.2) = ss.map V.str ∧ Q (.bl (!decide (s ∈ ss))) H2
section
variable {X : Cx} {a o : Expr} {ta td : TE} {pos apos mpos : Pos}
theorem pe_ninV (hc : X.calm = true) (ha : PE X a ta) (hd : PE X o td) (hbase : attributeBase o "values" X.env (eval o X.env) = eval o X.env := by rfl) (hline : (apos.endLine == mpos.line) = true := by rfl)
    (hm : behindInMarks .NotIn (.Call (.Attribute o "values" apos) [] [] mpos) = false := by rfl) :
    PE X (.Compare a [.NotIn] [.Call (.Attribute o "values" apos) [] [] mpos] pos) (tNinV ta td) := by
  refine ⟨fun pins s σ H Q I h => ?_⟩
  refine wpAny_Compare1 (thn (ha.run pins s σ H _ I h) fun u0 s0 ⟨x, H1, I1, r1, q1⟩ => wpAny_Call_method0_late hbase hline (thn (hd.run pins s0 σ H1 _ I1 q1) fun v s1 ⟨y, H2, I2, r2, s', d, kvs, ss, ex, ey, ha', hv, q⟩ => ?_)) hm
  subst ex
  subst ey
  obtain ⟨t0, rfl⟩ := r1
  obtain rfl : v = Value.ref d := r2
  obtain ⟨_, hsys, vs, rel, dof⟩ := dk_of I2.hok ha'
  obtain ⟨ep, dat⟩ := dof.dictAt
  have dat' := dat
  obtain ⟨ob, es, ho, ex, hdat, hko, hpr, hnd⟩ := dat'
  refine ⟨"dict", "dict.values", F.plainAttrs_dict, F.slot_dict_values, F.type_dict_values, ⟨ob, ho, ex.1⟩, fun b e => ?_, Calls.callWith_builtin rfl (PySem.evalArgs_none ?_)⟩
  · cases e
    exact ⟨ob, ho, ex.2.1⟩
  refine call_meetsIn F.slot_dict_values ⟨ob, ho, ex.1⟩ F.entry_dict_values (F.args_dict_values_1 _) (meets_dict_values (mixKind X.prog X.w) d hsys) ⟨⟨vs, dof⟩, ?_⟩
  have k1 : ∀ b u, s1.heap.get? b = some u → (s1.heap.push { cls := .type "dict_values", data := .fields #[.ref d] }).get? b = some u := fun b u e => Heap.get?_push_of_some _ e
  have dat1 : (s1.heap.push { cls := .type "dict_values", data := .fields #[.ref d] }).DictAt (mixKind X.prog X.w) d vs ep := dat.keep k1
  have hlv : vs.length = ss.length := by
    have e1 := congrArg List.length hv
    rw [List.length_map, List.length_map] at e1
    rw [← e1]
    exact (KV.length rel).symm
  have hval : ∀ (i : Nat) (v : Value), (∃ k, vs[i]? = some (k, v)) → ∃ t, v = Value.str (ss.getD i ⟨#[]⟩) t := fun i v ⟨k, hk⟩ => by
    obtain ⟨x, h1, h2⟩ := KV.at' rel hk
    have e1 : (kvs.map (·.2))[i]? = some x := by rw [List.getElem?_map, h1] <;> rfl
    rw [hv, List.getElem?_map] at e1
    obtain ⟨j, hj, e2⟩ := Option.map_eq_some_iff.mp e1
    subst e2
    obtain ⟨t, e3⟩ := h2
    refine ⟨t, ?_⟩
    rw [e3, List.getD_eq_getElem?_getD, hj] <;> rfl
  have hlt : d < s1.heap.objs.size := Heap.lt_size ho
  have hsz : (s1.heap.push { cls := .type "dict_values", data := .fields #[.ref d] }).objs.size = s1.heap.objs.size + 1 := Heap.size_push _ _
  show wpAny _ X.A (compareOp .NotIn (.str s' t0) (.ref s1.heap.objs.size)) _ _ _
  unfold compareOp
  refine wpAny_bind (contains_vals (s := { s1 with heap := s1.heap.push { cls := .type "dict_values", data := .fields #[.ref d] } }) (I2.ok.hd hc) ⟨_, Heap.get?_push_size _ rfl, rfl, rfl⟩ dat1 (by rw [hsz]; exact Nat.lt_succ_of_lt hlt) hval fun h' tk b hk hb => wpAny_pure ?_)
  have eb : b = decide (s' ∈ ss) := by
    have : b = true ↔ s' ∈ ss := by
      rw [hb]
      constructor
      · rintro ⟨j, h1, h2⟩
        rw [hlv] at h1
        rw [← h2, List.getD_eq_getElem?_getD, List.getElem?_eq_getElem h1]
        exact List.getElem_mem h1
      · intro hm
        obtain ⟨j, hj, e⟩ := List.mem_iff_getElem.mp hm
        refine ⟨j, by omega, ?_⟩
        rw [List.getD_eq_getElem?_getD, List.getElem?_eq_getElem hj]
        exact e
    cases b with
    | true => rw [decide_eq_true (this.mp rfl)]
    | false => rw [decide_eq_false fun z => (nomatch this.mpr z)]
  subst eb
  exact ⟨.bl _, H2, I2.kept (t' := tk) fun b u e => hk b u (k1 b u e), rfl, q⟩
end
def vtx1 : D → Option Str
  | .str s => some s
  | _ => none
def vtxD : List D → Option (List Str)
  | [] => some []
  | d :: ds => (vtx1 d).bind fun s => (vtxD ds).map (s :: ·)
def valsD (A : AH) : D → Option (List Str)
  | .ref n => match A[n]? with
    | some (.dct kvs) => vtxD (kvs.map (·.2))
    | _ => none
  | _ => none
def mNinV (a o : ME) : ME := fun s A => (a s A).bind fun x A1 => (o s A1).bind fun y A2 => match x, valsD A2 y with
  | .str z, some ss => .ok (.bl (!decide (z ∈ ss))) A2
  | _, _ => .bad
theorem vtx_at {K : PySem.W.Frag} {W : Wd} : ∀ (ds : List D) (vs : List V) (ss : List Str), Reps K W ds vs → vtxD ds = some ss → vs = ss.map V.str
  | [], vs, ss, r, h => by
    have e : ss = [] := (Option.some.inj h).symm
    rw [e]
    exact r
  | d :: ds, vs, ss, r, h => by
    obtain ⟨v, vs', rfl, r1, r2⟩ := r
    have h : (vtx1 d).bind (fun s => (vtxD ds).map (s :: ·)) = some ss := h
    cases d with
    | str z =>
      have h : (vtxD ds).map (z :: ·) = some ss := h
      obtain ⟨ss', h1, h2⟩ := Option.map_eq_some_iff.mp h
      subst h2
      have e : v = V.str z := r1
      rw [vtx_at ds vs' ss' r2 h1, e]
      rfl
    | _ => exact nomatch h
section
variable {X : Cx} {Wx : WX} {a o : Expr} {ta td : TE} {ma mo : ME} {pos apos mpos : Pos}
theorem sninV (hc : X.calm = true) (ha : SE X Wx a ta ma) (hd : SE X Wx o td mo) (hbase : attributeBase o "values" X.env (eval o X.env) = eval o X.env := by rfl) (hline : (apos.endLine == mpos.line) = true := by rfl)
    (hm : behindInMarks .NotIn (.Call (.Attribute o "values" apos) [] [] mpos) = false := by with_unfolding_all rfl) :
    SE X Wx (.Compare a [.NotIn] [.Call (.Attribute o "values" apos) [] [] mpos] pos) (tNinV ta td) (mNinV ma mo) :=
  ⟨pe_ninV hc ha.pe hd.pe hbase hline hm, fun W σ s A H Q k sr z => ha.sim W σ s A H _ k sr (z.bind fun x A1 v W1 H1 e1 k1 r1 h1 => hd.sim W1 σ s A1 H1 _ k1 (sr.le e1.le) (h1.bind fun y A2 u W2 H2 e2 k2 r2 h2 => by
    cases x with
    | str z =>
      cases hv : valsD A2 y with
      | none =>
        rw [hv] at h2
        exact h2.elim
      | some ss =>
        rw [hv] at h2
        dsimp only at h2
        unfold valsD at hv
        split at hv
        · rename_i n
          split at hv
          · rename_i kvs q
            obtain ⟨d, rfl, hd2⟩ := r2
            obtain ⟨vs, g1, g2, g3⟩ := k2.obj n d _ hd2 q
            have e := vtx_at _ _ _ g3 hv
            cases (show v = _ from r1)
            exact ⟨z, d, vs, ss, rfl, rfl, g1, e, h2 W2 H2 _ (Ext.refl _ _) k2 rfl⟩
          · cases hv
        · cases hv
    | _ =>
      exfalso
      revert h2
      cases valsD A2 y <;> exact id))⟩
end

/-! ### the same, as a test -/
section
variable {P : Program} {w : World} {A : Around} {l r : Expr} {op : CmpOp} {env : Env} {pos : Pos} {whole : Sem Value} {E : Value → Shared → Prop} {s : Shared}
theorem isTrue_of_eval1 {Q : Bool → Shared → Prop} (h : wpAny (model P w) A (eval (.Compare l [op] [r] pos) env) (fun c s' => wpAny (model P w) A (truthy c) Q E s') E s)
    (hm : behindInMarks op r = false) : wpAny (model P w) A (isTrue (.Compare l [op] [r] pos) env whole) Q E s := fun Γ p hΓ => by
  have h' := h Γ p hΓ
  simp only [eval_Compare1, markedBehindIn_of_false hm, Sem.wp_bind', Sem.wp_holding, Sem.wp_cmd_standAt, Sem.wp_operate] at h'
  simp only [isTrue_Compare1, markedBehindIn_of_false hm, Sem.wp_bind', Sem.wp_holding, Sem.wp_cmd_standAt, Sem.wp_operate]
  exact Sem.wp_mono _ Γ _ (fun a p₁ s₁ h₁ => Sem.wp_mono _ Γ _ (fun b _ s₂ h₂ => Sem.wp_mono _ Γ _ (fun c p₃ s₃ h₃ => h₃ Γ p₃ hΓ)
    (fun _ _ _ h' => h') _ _ h₂) (fun _ _ _ h' => h') _ _ h₁) (fun _ _ _ h' => h') _ _ h'
end
section
variable {X : Cx} {Wx : WX} {a b : Expr} {t : TE} {m : ME} {op : CmpOp} {pos : Pos}
theorem pt_cmp1 (h : PE X (.Compare a [op] [b] pos) t) (hm : behindInMarks op b = false := by with_unfolding_all rfl) : PT X (.Compare a [op] [b] pos) (tB t) := by
  refine ⟨fun pins s σ H Q I hw => ?_⟩
  refine isTrue_of_eval1 (thn (h.run pins s σ H _ I hw) fun v s1 ⟨x, H1, I1, r1, q1⟩ => ?_) hm
  obtain ⟨d, rfl, q⟩ := q1
  cases r1
  exact wpAny_truthy_bool ⟨H1, I1, q⟩
/-- a comparison told as a value, as a test -/
theorem tval1 (h : SE X Wx (.Compare a [op] [b] pos) t m) (hm : behindInMarks op b = false := by with_unfolding_all rfl) : ST X Wx (.Compare a [op] [b] pos) (tB t) (mTb m) :=
  ⟨pt_cmp1 h.pe hm, fun W σ s A H Q k sr z => h.sim W σ s A H _ k sr (z.bind fun x A1 v W1 H1 e1 k1 r1 h1 => by
    cases x with
    | bl y => exact ⟨y, r1, h1.ok_at k1 rfl⟩
    | _ => exact h1.elim)⟩
end

/-! ### x, o[j], p[k] = e -/
theorem reps3 {K : PySem.W.Frag} {W : Wd} {d e f : D} {xs : List V} (r : Reps K W [d, e, f] xs) : ∃ v u w, xs = [v, u, w] ∧ Rep K W d v ∧ Rep K W e u ∧ Rep K W f w := by
  obtain ⟨v, r', rfl, q, r2⟩ := r
  obtain ⟨u, w, rfl, q', q2⟩ := reps2 r2
  exact ⟨v, u, w, rfl, q, q', q2⟩
def mAsgTSS (i : Nat) (me mo mi mo2 mi2 : ME) : MS := fun s A => (me s A).thenS s fun d A1 => match d with
  | .tup [x, y, z] => (mo (s.set i (some x)) A1).thenS (s.set i (some x)) fun o A2 => (mi (s.set i (some x)) A2).thenS (s.set i (some x)) fun j A3 => match stSub o j y A3 with
    | some A4 => (mo2 (s.set i (some x)) A4).thenS (s.set i (some x)) fun o2 A5 => (mi2 (s.set i (some x)) A5).thenS (s.set i (some x)) fun j2 A6 => match stSub o2 j2 z A6 with
      | some A7 => .nx (s.set i (some x)) A7
      | none => .bad
    | none => .bad
  | _ => .bad
theorem sasgTSS {X : Cx} {Wx : WX} {i : Nat} {x : Str} {o j o2 j2 e : Expr} {to ti to2 ti2 te : TE} {mo mi mo2 mi2 me : ME} {px ps ps2 pt pos : Pos} {kt kk : Nat} (hr : Room kk X.A) (hc : X.calm = true) (hN : X.N.Nodup)
    (h : SE X Wx e te me) (ho : SE X Wx o to mo) (hj : SE X Wx j ti mi) (ho2 : SE X Wx o2 to2 mo2) (hj2 : SE X Wx j2 ti2 mi2)
    (hi : X.N[i]? = some x := by rfl) (hx : Loc X.env.scope x := by first | exact Or.inl rfl | exact Or.inr rfl) (hf : X.fn x = true ∨ X.env.scope.names.lookup x = some .local := by first | exact .inl rfl | exact .inr rfl | assumption)
    (ha : ∀ v, assign (.Subscript o j ps) X.env v = (do
      let ov ← holding [v] (eval o X.env)
      let iv ← holding [v, ov] (eval j X.env)
      standAt ps
      holding [v, ov, iv] (setItem ov iv v)
      release [v, ov, iv] []) := by intro _; rfl)
    (ha2 : ∀ v, assign (.Subscript o2 j2 ps2) X.env v = (do
      let ov ← holding [v] (eval o2 X.env)
      let iv ← holding [v, ov] (eval j2 X.env)
      standAt ps2
      holding [v, ov, iv] (setItem ov iv v)
      release [v, ov, iv] []) := by intro _; rfl)
    (h1 : (assignEach [.Name x px, .Subscript o j ps, .Subscript o2 j2 ps2] X.env).map (·.2) = assign (.Name x px) X.env :: (assignEach [.Subscript o j ps, .Subscript o2 j2 ps2] X.env).map (·.2) := by rfl)
    (h2 : (assignEach [.Subscript o j ps, .Subscript o2 j2 ps2] X.env).map (·.2) = assign (.Subscript o j ps) X.env :: (assignEach [.Subscript o2 j2 ps2] X.env).map (·.2) := by rfl)
    (h2b : (assignEach [.Subscript o2 j2 ps2] X.env).map (·.2) = assign (.Subscript o2 j2 ps2) X.env :: (assignEach [] X.env).map (·.2) := by rfl)
    (hn : (assignEach [.Name x px, .Subscript o j ps, .Subscript o2 j2 ps2] X.env).length = 3 := by rfl) (hst : (assignEach [.Name x px, .Subscript o j ps, .Subscript o2 j2 ps2] X.env).findIdx? (·.1) = none := by rfl)
    (hs : swapsWithSole [.Tuple [.Name x px, .Subscript o j ps, .Subscript o2 j2 ps2] kt pt] e pos.line X.env = pure false := by rfl) (hw : swappedStores [.Tuple [.Name x px, .Subscript o j ps, .Subscript o2 j2 ps2] kt pt] e X.env = pure none := by rfl)
    (h3 : (assignEach [.Tuple [.Name x px, .Subscript o j ps, .Subscript o2 j2 ps2] kt pt] X.env).map (·.2) = [assign (.Tuple [.Name x px, .Subscript o j ps, .Subscript o2 j2 ps2] kt pt) X.env] := by rfl) :
    SS X Wx (.Assign [.Tuple [.Name x px, .Subscript o j ps, .Subscript o2 j2 ps2] kt pt] e pos) (tAsg te (gTup X.K 3 (gCons (gName i) (gCons (gSub to ti rSetU) (gCons (gSub to2 ti2 rSetU) gNil))))) (mAsgTSS i me mo mi mo2 mi2) :=
  ⟨ps_asg h.pe (pg_tup hc (pgs_cons (pg_name hN hi hx hf) (pgs_cons (pg_sub ho.pe hj.pe (set_any hr) ha) (pgs_cons (pg_sub ho2.pe hj2.pe (set_any hr) ha2) pgs_nil h2b) h2) h1) hn hst) hs hw h3, fun W σ s A H De k sr z => h.sim W σ s A H _ k sr (PostS.bind (rel := Rep X.K) sr z fun d A1 v W1 H1 e1 k1 r1 z1 => by
    split at z1
    · rename_i dx dy dz
      obtain ⟨a, xs, rfl, sx, rr⟩ := tup_at k1 r1
      obtain ⟨vx, vy, vz, rfl, rx, ry, rz⟩ := reps3 rr
      have sr1 := (sr.le e1.le).set i rx
      refine ⟨a, _, rfl, sx, rfl, vx, _, rfl, vy, _, rfl, ?_⟩
      exact ho.sim W1 _ _ A1 H1 _ k1 sr1 (PostS.bind (rel := Rep X.K) sr1 z1 fun xo A2 u W2 H2 e2 k2 r2 z2 =>
        hj.sim W2 _ _ A2 H2 _ k2 (sr1.le e2.le) (PostS.bind (rel := Rep X.K) (sr1.le e2.le) z2 fun yj A3 w W3 H3 e3 k3 r3 z3 => by
          split at z3
          · rename_i A4 q
            have l3 := (e2.trans e3).le
            refine stSub_at k3 (r2.le e3.le) r3 (ry.le l3) q fun H4 e4 k4 => ⟨vz, _, rfl, ?_⟩
            have l4 := ((e2.trans e3).trans e4).le
            exact ho2.sim _ _ _ A4 H4 _ k4 (sr1.le l4) (PostS.bind (rel := Rep X.K) (sr1.le l4) (z3.ext e4) fun xo2 A5 u2 W5 H5 e5 k5 r5 z5 =>
              hj2.sim W5 _ _ A5 H5 _ k5 (sr1.le (l4.trans e5.le)) (PostS.bind (rel := Rep X.K) (sr1.le (l4.trans e5.le)) z5 fun yj2 A6 w2 W6 H6 e6 k6 r6 z6 => by
                split at z6
                · rename_i A7 q7
                  exact stSub_at k6 (r5.le e6.le) r6 (rz.le ((l4.trans e5.le).trans e6.le)) q7 fun H7 e7 k7 => ⟨rfl, z6 _ _ _ e7 k7 (sr1.le (((l4.trans e5.le).trans e6.le).trans e7.le))⟩
                · exact z6.elim))
          · exact z3.elim))
    · exact z1.elim)⟩
end Tg

set_option Elab.async false
set_option linter.all false
set_option maxRecDepth 100000
set_option maxHeartbeats 2000000
/-! TgLck: a comprehension that walks a dict that changes elsewhere: locked meanwhile. -/
namespace Tg
open PySem PySem.Spec PyProof.Rows L2
/-- the world while the thing at a is locked, and behind -/
def Wd.lock (W : Wd) (a : Addr) (o : HO) : Wd := ⟨upd W.F a o, W.m⟩
def Wd.free (W : Wd) (a : Addr) : Wd := ⟨fun b => if b = a then none else W.F b, W.m⟩
theorem Wd.free_ne {W : Wd} {a b : Addr} (h : b ≠ a) : (W.free a).F b = W.F b := if_neg h
theorem Wd.free_at {W : Wd} {a : Addr} : (W.free a).F a = none := if_pos rfl
section
variable {K : PySem.W.Frag} {W : Wd} {a : Addr} {od : Obj} {ws : List (Key × V)}
theorem free_rd (h : W.F a = some (.frz od (.dK ws))) {b : Addr} {u : HO} (hu : ∀ kvs, u ≠ .dK kvs) (hf : ∀ o v, u ≠ .frz o v) (r : Rd W.F b u) : Rd (W.free a).F b u := by
  have n : b ≠ a := fun q => by
    subst q
    rcases r with r | ⟨o, r⟩
    · rw [h] at r
      exact hf _ _ (Option.some.inj r).symm
    · rw [h] at r
      cases r
      exact hu _ rfl
  rcases r with r | ⟨o, r⟩
  · exact .inl ((Wd.free_ne n).trans r)
  · exact .inr ⟨o, (Wd.free_ne n).trans r⟩
mutual
theorem Rep.free (h : W.F a = some (.frz od (.dK ws))) : ∀ {d : D} {v : V}, Rep K W d v → Rep K (W.free a) d v
  | .non, _, r => r
  | .bl _, _, r => r
  | .int _, _, r => r
  | .str _, _, r => r
  | .tup _, _, r => by
    obtain ⟨b, xs, e, s, rr⟩ := r
    exact ⟨b, xs, e, s.elim (fun z => .inl (free_rd h (fun _ q => nomatch q) (fun _ _ q => nomatch q) z)) .inr, Reps.free h rr⟩
  | .lst _, _, r => by
    obtain ⟨b, xs, e, s, rr⟩ := r
    have n : b ≠ a := fun q => by
      rw [q, h] at s
      cases s
    exact ⟨b, xs, e, (Wd.free_ne n).trans s, Reps.free h rr⟩
  | .dct _ _, _, r => by
    obtain ⟨b, xs, e, s, k, rr⟩ := r
    have n : b ≠ a := fun q => by
      rw [q, h] at s
      cases s
    exact ⟨b, xs, e, (Wd.free_ne n).trans s, k, Reps.free h rr⟩
  | .ref _, _, r => r
  | .scr _, _, r => by
    obtain ⟨b, e, s⟩ := r
    exact ⟨b, e, s.elim (fun z => .inl (free_rd h (fun _ q => nomatch q) (fun _ _ q => nomatch q) z)) .inr⟩
theorem Reps.free (h : W.F a = some (.frz od (.dK ws))) : ∀ {ds : List D} {vs : List V}, Reps K W ds vs → Reps K (W.free a) ds vs
  | [], _, r => r
  | _ :: _, _, r => by
    obtain ⟨v, r', e, h1, h2⟩ := r
    exact ⟨v, r', e, Rep.free h h1, Reps.free h h2⟩
end
theorem ObR.free {mg : Str → Option Value} (h : W.F a = some (.frz od (.dK ws))) : ∀ {o : AO} {u : Option HO}, ObR K mg W o u → ObR K mg (W.free a) o u
  | .lst _, _, z => by
    obtain ⟨xs, e, r⟩ := z
    exact ⟨xs, e, r.free h⟩
  | .dct _, _, z => by
    obtain ⟨xs, e, k, r⟩ := z
    exact ⟨xs, e, k, r.free h⟩
  | .ins _ _, _, z => by
    obtain ⟨dx, xs, e, k, r⟩ := z
    exact ⟨dx, xs, e, k, r.free h⟩
  | .lck _, _, z => by
    obtain ⟨dx, xs, e, k, r⟩ := z
    exact ⟨dx, xs, e, k, r.free h⟩
end
section
variable {K : PySem.W.Frag} {mg : Str → Option Value} {W : Wd} {A : AH} {H : Hp}
theorem Ok.inj (k : Ok K mg W A H) {n j : Nat} {a : Addr} (h : W.m[n]? = some a) (h' : W.m[j]? = some a) : n = j := by
  obtain ⟨h1, e1⟩ := List.getElem?_eq_some_iff.mp h
  obtain ⟨h2, e2⟩ := List.getElem?_eq_some_iff.mp h'
  rcases Nat.lt_trichotomy n j with z | z | z
  · exact absurd (e1.trans e2.symm) (List.pairwise_iff_getElem.mp k.nd n j h1 h2 z)
  · exact z
  · exact absurd (e2.trans e1.symm) (List.pairwise_iff_getElem.mp k.nd j n h2 h1 z)
theorem Ok.lock (k : Ok K mg W A H) {n : Nat} {a : Addr} {kvs : List (Key × D)} {vs : List (Key × V)} (ha : W.m[n]? = some a) (hA : A[n]? = some (.dct kvs)) (hx : H a = some (.dK vs)) (r : KVR K W kvs vs) (od : Obj) :
    Ok K mg (W.lock a (.frz od (.dK vs))) (A.set n (.lck kvs)) (upd H a (.frz od (.dK vs))) ∧ Le W (W.lock a (.frz od (.dK vs))) := by
  have nF : W.F a = none := k.sep n a _ ha hA
  have hn : n < A.length := (List.getElem?_eq_some_iff.mp hA).1
  have l : Le W (W.lock a (.frz od (.dK vs))) := ⟨fun b u e => by
    have z : b ≠ a := fun q => by
      rw [q, nF] at e
      cases e
    show upd W.F a _ b = some u
    rw [upd_ne z]
    exact e, [], (List.append_nil _).symm⟩
  refine ⟨⟨fun b u e => ?_, fun j b u e1 e2 => ?_, k.nd, ?_, fun j b u e1 e2 => ?_, fun x hx P hP => (k.tab x hx P hP).keep l.f (upd_ne (show P ≠ a from fun z => (k.tab x hx P hP).nm (z ▸ List.mem_of_getElem? ha))) (k.tab x hx P hP).nm ((upd_ne (show P ≠ a from fun z => (k.tab x hx P hP).nm (z ▸ List.mem_of_getElem? ha))).trans (k.tab x hx P hP).nF)⟩, l⟩
  · have e' : upd W.F a (.frz od (.dK vs)) b = some u := e
    by_cases q : b = a
    · subst q
      rw [upd_same] at e' ⊢
      exact e'
    · rw [upd_ne q] at e' ⊢
      exact k.frz b u e'
  · by_cases q : j = n
    · subst q
      rw [List.getElem?_set_self hn] at e2
      cases e2
      have e1' : W.m[j]? = some b := e1
      rw [ha] at e1'
      cases e1'
      show upd W.F a _ a = upd H a _ a
      rw [upd_same, upd_same]
    · rw [List.getElem?_set_ne (fun z => q z.symm)] at e2
      have z : b ≠ a := fun z => q (k.inj (z ▸ e1) ha)
      exact (k.sep j b u e1 e2).at (upd_ne z) (upd_ne z)
  · rw [List.length_set]
    exact k.len
  · by_cases q : j = n
    · subst q
      rw [List.getElem?_set_self hn] at e2
      cases e2
      have e1' : W.m[j]? = some b := e1
      rw [ha] at e1'
      cases e1'
      rw [upd_same]
      exact ⟨od, vs, rfl, r.1, r.2.le l⟩
    · rw [List.getElem?_set_ne (fun z => q z.symm)] at e2
      have z : b ≠ a := fun z => q (k.inj (z ▸ e1) ha)
      rw [upd_ne z]
      exact (k.obj j b u e1 e2).le l
theorem Ok.unlock {W2 : Wd} {A2 : AH} {H2 : Hp} {n : Nat} {a : Addr} {kvs : List (Key × D)} {vs : List (Key × V)} {od : Obj} (k : Ok K mg W A H) (nF : W.F a = none) (hx : H a = some (.dK vs)) (ha : W.m[n]? = some a)
    (e : Ext (W.lock a (.frz od (.dK vs))) (upd H a (.frz od (.dK vs))) W2 H2) (k2 : Ok K mg W2 A2 H2) (hA : A2[n]? = some (.lck kvs)) :
    W2.F a = some (.frz od (.dK vs)) ∧ H2 a = some (.frz od (.dK vs)) ∧ Ok K mg (W2.free a) (A2.set n (.dct kvs)) (upd H2 a (.dK vs)) ∧ Ext W H (W2.free a) (upd H2 a (.dK vs)) := by
  have f2 : W2.F a = some (.frz od (.dK vs)) := e.le.f a _ (show upd W.F a _ a = _ from upd_same)
  have h2 := k2.frz _ _ f2
  have ha2 : W2.m[n]? = some a := e.le.at ha
  have hn : n < A2.length := (List.getElem?_eq_some_iff.mp hA).1
  refine ⟨f2, h2, ⟨fun b u q => ?_, fun j b u e1 e2 => ?_, k2.nd, ?_, fun j b u e1 e2 => ?_, fun x hx P hP => ?_⟩, ⟨⟨fun b u q => ?_, e.le.m⟩, fun b u q t nb => ?_, fun b q => ?_, fun b u q z => ?_, fun b h1 h2 => ?_⟩⟩
  · by_cases z : b = a
    · rw [z, Wd.free_at] at q
      cases q
    · rw [Wd.free_ne z] at q
      rw [upd_ne z]
      exact k2.frz b u q
  · by_cases q : j = n
    · subst q
      rw [List.getElem?_set_self hn] at e2
      cases e2
      have e1' : W2.m[j]? = some b := e1
      rw [ha2] at e1'
      cases e1'
      exact Wd.free_at
    · rw [List.getElem?_set_ne (fun z => q z.symm)] at e2
      have z : b ≠ a := fun z => q (k2.inj (z ▸ e1) ha2)
      exact (k2.sep j b u e1 e2).at (Wd.free_ne z) (upd_ne z)
  · rw [List.length_set]
    exact k2.len
  · by_cases q : j = n
    · subst q
      rw [List.getElem?_set_self hn] at e2
      cases e2
      have e1' : W2.m[j]? = some b := e1
      rw [ha2] at e1'
      cases e1'
      obtain ⟨od', vs', y1, y2, y3⟩ := k2.obj j a _ ha2 hA
      rw [h2] at y1
      cases y1
      rw [upd_same]
      exact ⟨vs, rfl, y2, y3.free f2⟩
    · rw [List.getElem?_set_ne (fun z => q z.symm)] at e2
      have z : b ≠ a := fun z => q (k2.inj (z ▸ e1) ha2)
      rw [upd_ne z]
      exact (k2.obj j b u e1 e2).free f2
  · obtain ⟨⟨tb, y1, y2, y3⟩, y4, y5⟩ := k2.tab x hx P hP
    have z : P ≠ a := fun z => y4 (z ▸ List.mem_of_getElem? ha2)
    refine ⟨⟨tb, (upd_ne z).trans y1, y2, fun p cv h => ?_⟩, y4, (Wd.free_ne z).trans y5⟩
    obtain ⟨c, w1, w2⟩ := y3 p cv h
    have zc : c ≠ a := fun q => by
      rw [q, f2] at w2
      cases w2
    exact ⟨c, w1, (Wd.free_ne zc).trans w2⟩
  · have z : b ≠ a := fun z => by
      rw [z, nF] at q
      cases q
    exact (Wd.free_ne z).trans (e.le.f b u (show upd W.F a _ b = _ from (upd_ne z).trans q))
  · have z : b ≠ a := fun z => nb (z ▸ List.mem_of_getElem? ha)
    rw [upd_ne z]
    exact e.out b u (by rw [upd_ne z]; exact q) t nb
  · by_cases z : b = a
    · rw [z, upd_same] at q
      cases q
    · rw [upd_ne z] at q
      have y := e.dom b q
      rw [upd_ne z] at y
      exact y
  · by_cases y : b = a
    · rw [y, Wd.free_at] at q
      cases q
    · rw [Wd.free_ne y] at q
      have w := e.fF b u q (show upd W.F a _ b = none from (upd_ne y).trans z)
      rw [upd_ne y] at w
      exact w
  · have w := e.fm b h1 h2
    by_cases y : b = a
    · rw [y, upd_same] at w
      cases w
    · rw [upd_ne y] at w
      exact w
end
/-- e is read while the dict that mo tells is locked -/
def mLck (mo me : ME) : ME := fun s A => match mo s A with
  | .ok (.ref n) _ => match A[n]? with
    | some (.dct kvs) => match me s (A.set n (.lck kvs)) with
      | .ok x A2 => match A2[n]? with
        | some (.lck kvs2) => .ok x (A2.set n (.dct kvs2))
        | _ => .bad
      | _ => .bad
    | _ => .bad
  | _ => .bad
section
variable {X : Cx} {Wx : WX} {e tg : Expr} {te : TE} {me : ME}
theorem slock (mo : ME) (h : SE X Wx e te me) : SE X Wx e (tLockE te) (mLck mo me) :=
  ⟨pe_lock h.pe, fun W σ s A H Q k sr z => by
    unfold mLck at z
    split at z
    · rename_i n A' _
      split at z
      · rename_i kvs hA
        have hn : n < W.m.length := by
          rw [k.len]
          exact (List.getElem?_eq_some_iff.mp hA).1
        have ha : W.m[n]? = some W.m[n] := List.getElem?_eq_getElem hn
        obtain ⟨vs, hx, hk, rr⟩ := k.obj n _ _ ha hA
        have nF : W.F W.m[n] = none := k.sep n _ _ ha hA
        refine ⟨_, _, hx, True.intro, fun od => ?_⟩
        obtain ⟨k1, l1⟩ := k.lock ha hA hx ⟨hk, rr⟩ od
        refine h.sim _ σ s _ _ _ k1 (sr.le l1) ?_
        split at z
        · rename_i x A2 hm
          rw [hm]
          split at z
          · rename_i kvs2 hA2
            intro W2 H2 v e2 k2 r2
            obtain ⟨f2, h2, k3, e3⟩ := k.unlock nF hx ha e2 k2 hA2
            exact ⟨h2, z _ _ _ e3 k3 (r2.free f2)⟩
          · exact z.elim
        · exact z.elim
      · exact z.elim
    · exact z.elim⟩

/-! ### what is read of a locked dict -/
def keyVD : Key → D
  | .inl i => .int i
  | .inr x => .str x
theorem keyVD_rep {K : PySem.W.Frag} {W : Wd} : ∀ k : Key, Rep K W (keyVD k) (kV k)
  | .inl _ => rfl
  | .inr _ => rfl
def keysOfL (A : AH) : D → Option (List (Key × D))
  | .ref n => match A[n]? with
    | some (.lck kvs) => some kvs
    | _ => none
  | _ => none
def miKeys (m : ME) : Sl → AH → R IT := fun s A => (m s A).bind fun x A1 => match keysOfL A1 x with
  | some kvs => .ok (.data (kvs.map fun p => keyVD p.1)) A1
  | none => .bad
theorem lck_at {K : PySem.W.Frag} {mg : Str → Option Value} {W : Wd} {A : AH} {H : Hp} (k : Ok K mg W A H) {d : D} {v : V} (r : Rep K W d v) {kvs : List (Key × D)} (e : keysOfL A d = some kvs) :
    ∃ a od vs, v = .ref a ∧ W.F a = some (.frz od (.dK vs)) ∧ H a = some (.frz od (.dK vs)) ∧ KVR K W kvs vs := by
  cases d with
  | ref n =>
    obtain ⟨a, ev, ha⟩ := r
    unfold keysOfL at e
    dsimp only at e
    split at e
    · rename_i es q
      cases e
      obtain ⟨od, vs, hx, hk, rr⟩ := k.obj n a _ ha q
      exact ⟨a, od, vs, ev, (show W.F a = H a from k.sep n a _ ha q).trans hx, hx, hk, rr⟩
    · cases e
  | _ => cases (show none = some kvs from e)
theorem jr_keys {K : PySem.W.Frag} {mg : Str → Option Value} {W : Wd} {a : Addr} {od : Obj} {vs : List (Key × V)} {kvs : List (Key × D)} (h : W.F a = some (.frz od (.dK vs))) (hk : vs.map (·.1) = kvs.map (·.1)) :
    JR K mg W (.data (kvs.map fun p => keyVD p.1)) (Itk a od vs) := fun W' A' H' i l k => by
  have q := k.frz _ _ (l.f _ _ h)
  have e1 : (kvs.map fun p => keyVD p.1) = (vs.map (·.1)).map keyVD := by
    rw [hk, List.map_map]
    rfl
  show match some (kvs.map fun p => keyVD p.1)[i]? with
    | some (some d) => _
    | some none => _
    | none => True
  rw [e1, List.getElem?_map, List.getElem?_map]
  cases hd : vs[i]? with
  | none => exact ⟨q, List.getElem?_eq_none_iff.mp hd⟩
  | some p =>
    refine ⟨⟨q, (List.getElem?_eq_some_iff.mp hd).1⟩, fun x H2 y => ?_⟩
    obtain ⟨rfl, k', v', h1, rfl⟩ := y
    rw [hd] at h1
    cases h1
    exact ⟨W', Ext.refl _ _, k, keyVD_rep _⟩
theorem ikeys (h : SE X Wx e te me) : SI X Wx tg e (iKeys te) (miKeys me) :=
  ⟨pi_keys h.pe, fun W σ s A H Rr k sr z => h.sim W σ s A H _ k sr (z.bind fun x A1 v W1 H1 e1 k1 r1 h1 => by
    split at h1
    · rename_i kvs q
      obtain ⟨a, od, vs, rfl, f1, q1, q2⟩ := lck_at k1 r1 q
      exact ⟨a, od, rfl, .inl ⟨vs, q1, h1.ok_at k1 (jr_keys f1 q2.1)⟩⟩
    · exact h1.elim)⟩
/-- a[b], a locked dict -/
def ixL (x y : D) (A : AH) : R D := match keysOfL A x with
  | some kvs => match (keyD y).bind (lkK kvs) with
    | some d => .ok d A
    | none => .bad
  | none => .bad
end
theorem oIxLS {K : PySem.W.Frag} {mg : Str → Option Value} : OpS K mg (rIxU K) ixL := fun W A H E Q d e x y k rx ry h => by
  unfold ixL at h
  split at h
  · rename_i kvs e1
    split at h
    · rename_i d' e2
      obtain ⟨kk, e3, e4⟩ := Option.bind_eq_some_iff.mp e2
      obtain ⟨a, od, vs, rfl, f1, h1, h2⟩ := lck_at k rx e1
      obtain ⟨v, h3, h4⟩ := h2.get e4
      refine .inl ⟨a, v, rfl, ?_, h.ok_at k h4⟩
      rw [keyD_at ry e3, ← h3]
      exact .inl ⟨vs, kk, .inr ⟨od, h1⟩, rfl, rfl⟩
    · exact h.elim
  · exact h.elim
section
variable {X : Cx} {Wx : WX} {a b : Expr} {ta tb : TE} {ma mb : ME} {pos : Pos}
theorem sixL {k : Nat} (hr : Room k X.A) (ha : SE X Wx a ta ma) (hb : SE X Wx b tb mb) (hs : PlainIx b := by intro _ _; rfl) : SE X Wx (.Subscript a b pos) (tOp (rIxU X.K) ta tb) (mBin ixL ma mb) :=
  ⟨pe_ix (oIx hr) ha.pe hb.pe hs, sim_bin oIxLS ha.sim hb.sim⟩
end
end Tg

set_option Elab.async false
set_option linter.all false
set_option maxRecDepth 100000
set_option maxHeartbeats 2000000
/-! TgOver: raise C(e), C an own class without __init__ of its own: an exception without fields. -/
namespace Tg
open PySem PySem.Spec PyProof.Rows L2
/-- what the text says of such a class -/
def X0 (K : PySem.W.Frag) (mg : Str → Option Value) (c : Str) : Prop :=
  ∃ (C : Addr) (B newId initId : String) (bmB : List Value), mg c = some (.ref C) ∧ ExcBaseFacts B newId initId bmB ∧ PySem.W.excIn K C bmB newId = true ∧ PySem.W.keepIn K (.ref C) = true ∧
    PySem.W.subIn K (.ref C) (.type "BaseException") = some true ∧ PySem.W.typeIn K (.ref C) = some (.type "type")
def mRaise0 (c : Str) (me : ME) : MS := fun s A => (me s A).thenS s fun _ A1 => .exc ⟨c, none⟩ s A1
section
variable {X : Cx} {Wx : WX} {e : Expr} {te : TE} {me : ME} {c : Str} {p pos pos2 : Pos}
theorem sraise0 (hc : X.calm = true) (d : X0 X.K X.mg c) (tk : Takes X Wx) (h : SE X Wx e te me) (hg : Gl X c := by rfl) (hdb : (c == ("__debug__" : Str)) = false := by decide)
    (hs : starEach [e] X.env = (false, eval e X.env) :: starEach [] X.env := by rfl) :
    SS X Wx (.Raise (some (.Call (.Name c p) [e] [] pos)) none pos2) (fun _ σ H => te σ H fun _ H1 => Wx (.ref (clA X.mg c)) none σ H1) (mRaise0 c me) := by
  obtain ⟨C, B, newId, initId, bmB, hm, F, q, kC, h1, h2⟩ := d
  have eC : clA X.mg c = C := clA_of hm
  rw [eC]
  refine ⟨ps_raise hc tk (SkE.pmk_own1 F q hm kC (raises_own h1 h2) hg h.pe hs hdb), fun W σ s A H De kk sr z => ?_⟩
  refine h.sim W σ s A H _ kk sr (PostS.bind (rel := Rep X.K) sr z fun d A1 v W1 H1 e1 k1 r1 z1 => ?_)
  exact z1 W1 σ _ _ _ (Ext.refl _ _) k1 (sr.le e1.le) ⟨by rw [eC], rfl⟩
end
end Tg

set_option Elab.async false
set_option linter.all false
set_option maxRecDepth 100000
set_option maxHeartbeats 4000000
/-! TgHead: the small head: the top is run once in the kernel, and what it left is looked at there. -/
namespace Tg
open PySem PySem.Spec PyProof.Rows L2
/-- a fact about what the top left -/
abbrev Fc : Type := PySem.W.Frag → Bool
abbrev AlX : Type := He.Al × List (Option (List (Option (Str × Int))))
def obsX (fc : List Fc) (fn : List He.FnD) (ts : List (Str × List Str)) (K : PySem.W.Frag) : AlX :=
  (((fc.all fun f => f K) && (fn.all fun d => (He.Fa.code d.at_ d.qual).ok K), fn.map fun d => He.fnObs K d.at_), ts.map fun t => He.dicW K (He.ga K t.1))
def valX (fn : List He.FnD) (ts : List (Str × List Str)) (w : World) : AlX := ((true, fn.map He.FnD.val), ts.map fun t => some (He.keysIn w.params t.2))
def SaysX (fc : List Fc) (fn : List He.FnD) (ts : List (Str × List Str)) (w : World) (K : PySem.W.Frag) : Prop := obsX fc fn ts K = valX fn ts w
/-- what the module's names lead to, in four steps -/
def ledTo (g : Addr → Option Obj) (as : List Addr) : List Addr := as.flatMap fun a => match g a with
  | some o => He.refsO o
  | none => []
def asX (g : Addr → Option Obj) : List Addr :=
  let l1 := ledTo g [mainGlobals]
  let l2 := ledTo g l1
  let l3 := ledTo g l2
  mainGlobals :: cStatics :: (l1 ++ (l2 ++ (l3 ++ ledTo g l3)))
def obsXG (fc : List Fc) (fn : List He.FnD) (ts : List (Str × List Str)) (g : Addr → Option Obj) : AlX := obsX fc fn ts (He.frG g (asX g))
def hookX (fc : List Fc) (fn : List He.FnD) (ts : List (Str × List Str)) : PySem.W.Hook where
  α := AlX
  obs := fun t => obsXG fc fn ts t.heap.get?
  val := fun v => valX fn ts v
  says := fun v hp => ∃ F : PySem.W.Frag, F.In hp ∧ SaysX fc fn ts v F
  of := fun _ _ q => ⟨_, He.frG_in, q⟩
  keeps := fun _ _ _ ⟨F, hF, q⟩ z => ⟨F, PySem.W.Frag.In.keeps hF z, q⟩
theorem obsX_eq {fc : List Fc} {fn : List He.FnD} {ts : List (Str × List Str)} (s : PySem.W.SharedT) : obsXG fc fn ts (HandSHeadRun.getT s) = (hookX fc fn ts).obs s.abs := by
  have q : HandSHeadRun.getT s = s.abs.heap.get? := funext fun a => HandSHeadRun.getT_eq s a
  show _ = obsXG fc fn ts s.abs.heap.get?
  rw [q]
/-- a def that stands so -/
def FnX (K : PySem.W.Frag) (d : He.FnD) : Prop :=
  ∃ oc od osl kV doc pm an cdv ct, K.lookup (He.fAd K d.at_) = some ⟨oc, od, .func (PySem.W.fnOf d.name d.qual d.params d.body d.scope .none kV doc pm an cdv ct), osl⟩ ∧ PySem.W.codeIn K cdv d.qual = true
section
variable {fc : List Fc} {fn : List He.FnD} {ts : List (Str × List Str)} {w : World} {K : PySem.W.Frag}
theorem SaysX.fact (c : SaysX fc fn ts w K) (i : Nat) {f : Fc} (h : fc[i]? = some f) : f K = true := by
  have c1 : ((fc.all fun f => f K) && (fn.all fun d => (He.Fa.code d.at_ d.qual).ok K)) = true := congrArg (fun z : AlX => z.1.1) c
  exact List.all_eq_true.mp (Bool.and_eq_true_iff.mp c1).1 f (List.mem_of_getElem? h)
theorem SaysX.df (c : SaysX fc fn ts w K) (i : Nat) {d : He.FnD} (h : fn[i]? = some d) : FnX K d := by
  have c1 : ((fc.all fun f => f K) && (fn.all fun d => (He.Fa.code d.at_ d.qual).ok K)) = true := congrArg (fun z : AlX => z.1.1) c
  have c2 : (fn.map fun d => He.fnObs K d.at_) = fn.map He.FnD.val := congrArg (fun z : AlX => z.1.2) c
  have c3 : (fn.map fun d => He.fnObs K d.at_)[i]? = (fn.map He.FnD.val)[i]? := by rw [c2]
  rw [List.getElem?_map, List.getElem?_map, h] at c3
  exact He.fn_ok (Option.some.inj c3) (List.all_eq_true.mp (Bool.and_eq_true_iff.mp c1).2 d (List.mem_of_getElem? h))
theorem SaysX.tab (c : SaysX fc fn ts w K) (i : Nat) {t : Str × List Str} (h : ts[i]? = some t) : He.dicW K (He.ga K t.1) = some (He.keysIn w.params t.2) := by
  have c2 : (ts.map fun t => He.dicW K (He.ga K t.1)) = ts.map fun t => some (He.keysIn w.params t.2) := congrArg (fun z : AlX => z.2) c
  have c3 : (ts.map fun t => He.dicW K (He.ga K t.1))[i]? = (ts.map fun t => some (He.keysIn w.params t.2))[i]? := by rw [c2]
  rw [List.getElem?_map, List.getElem?_map, h] at c3
  exact Option.some.inj c3
end
/-! ### facts -/
def fa (a : He.Fa) : Fc := fun K => a.ok K
/-- a class's method stays -/
def kpm (c m : Str) : Fc := fun K => PySem.W.keepIn K (.ref (He.ma K (He.ga K c) m))
/-- a class whose functions are called by its name -/
def clr (c : Str) : Fc := fun K => PySem.W.readsIn K (He.ga K c) (.type "type") && He.eqO (PySem.W.specialIn K (.ref (He.ga K c)) "__getattribute__") (some (some (.builtin "type.__getattribute__")))
def clm (c m : Str) : Fc := fun K => match PySem.W.findCls K (.ref (He.ga K c)) (.type "type") m with
  | some (.val (.ref a)) => decide (a = He.ma K (He.ga K c) m)
  | _ => false
def cli (T initId : String) : Fc := fun K => match PySem.W.findCls K (.type T) (.type "type") "__init__" with
  | some (.val (.builtin n)) => decide (n = initId)
  | _ => false
def catF (c f : Str) : Fc := fun K => He.eqO (PySem.W.findIn K (.ref (He.ga K c)) "__getattribute__") (some (some (.builtin "BaseException.__getattribute__"))) && (He.eqO (PySem.W.findIn K (.ref (He.ga K c)) "__getattr__") (some none) &&
  (decide (PySem.W.subIn K (.ref (He.ga K c)) (.type "BaseException") = some true) && (PySem.W.hasDictIn K (He.ga K c) && (decide (PySem.W.typeIn K (.ref (He.ga K c)) = some (.type "type")) &&
  (decide (PySem.W.subIn K (.ref (He.ga K c)) (.ref (He.ga K c)) = some true) && He.eqO (PySem.W.findIn K (.ref (He.ga K c)) f) (some none))))))
/-- an own class over Exception -/
def excX (c : Str) (newId : String) : Fc := fun K => match K.lookup (He.ga K c) with
  | some ⟨.type "type", _, .cls cd, sl⟩ => (match cd.mro, sl.toList with
    | .ref C' :: bm, [_, _, _, _, some (.builtin n), _] => C' == He.ga K c && n == newId && !cd.hasDel && cd.hasDict && bm == PySem.ESX.exTail
    | _, _ => false)
  | _ => false
def excY (c f : Str) : Fc := fun K => He.eqO (PySem.W.findIn K (.ref (He.ga K c)) "__setattr__") (some (some (.builtin "object.__setattr__"))) && (decide (PySem.W.subIn K (.ref (He.ga K c)) (.type "BaseException") = some true) &&
  (decide (PySem.W.typeIn K (.ref (He.ga K c)) = some (.type "type")) && (PySem.W.keepIn K (.ref (He.ga K c)) && (He.eqO (PySem.W.findIn K (.ref (He.ga K c)) "__init__") (some (some (.ref (He.ma K (He.ga K c) "__init__")))) &&
  (decide (PySem.W.typeIn K (.ref (He.ma K (He.ga K c) "__init__")) = some (.type "function")) && He.eqO (PySem.W.findIn K (.ref (He.ga K c)) f) (some none))))))
def tupF (x : Str) (ds : List D) : Fc := fun K => tupAt K (He.ga K x) ds
def tabF (x : Str) (kvs : List (Str × Str)) : Fc := fun K => decide (dicT K (He.ga K x) = kvs.map some)
/-! ### what they give -/
section
variable {K : PySem.W.Frag} {h : Heap} {mg : Str → Option Value} {x y qual c f p : Str} {st : Stmt} {ps : List Str}
theorem tfH (X : K.In h) (G : h.Ns mainGlobals mg) (a : fa (.glo x) K = true) (d : FnX K ⟨(x, none), x, qual, defArgs st, defBody st, defScope st⟩) (k : fa (.keep x) K = true) (b : HB x qual st ps) : TF K mg x qual st ps := by
  obtain ⟨oc, od, osl, kV, doc, pm, an, cdv, ct, l, cc⟩ := d
  exact tf_of X G (He.eqO_ok a) l cc k b
theorem tfaH (X : K.In h) (G : h.Ns mainGlobals mg) (a : fa (.glo y) K = true) (d : FnX K ⟨(y, none), x, qual, defArgs st, defBody st, defScope st⟩) (k : fa (.keep y) K = true) (b : HB x qual st ps) : TFA K mg y x qual st ps := by
  obtain ⟨oc, od, osl, kV, doc, pm, an, cdv, ct, l, cc⟩ := d
  exact tfa_of X G (He.eqO_ok a) l cc k b
theorem tlH (X : K.In h) (G : h.Ns mainGlobals mg) (a : fa (.glo x) K = true) (d : FnX K ⟨(x, none), x, x, defArgs st, defBody st, defScope st⟩) (k : fa (.keep x) K = true) (b : HB x x st [p]) : TL K mg x st p := by
  obtain ⟨oc, od, osl, kV, doc, pm, an, cdv, ct, l, cc⟩ := d
  exact tl_of X G (He.eqO_ok a) l cc k b
theorem tmH (X : K.In h) (G : h.Ns mainGlobals mg) (a : fa (.glo c) K = true) (m : fa (.meth c x) K = true) (d : FnX K ⟨(c, some x), x, qual, defArgs st, defBody st, defScope st⟩) (cl : fa (.cls c) K = true) (b : HB x qual st ps) : TM K mg c x qual st ps := by
  obtain ⟨oc, od, osl, kV, doc, pm, an, cdv, ct, l, cc⟩ := d
  obtain ⟨c1, c2, c3, c4⟩ := He.cls_ok cl
  obtain ⟨m1, m2, m3⟩ := He.meth_ok m
  exact tm_of X G (He.eqO_ok a) m1 m2 l cc m3 b c1 c2 c3 c4
theorem tiH (X : K.In h) (G : h.Ns mainGlobals mg) (a : fa (.glo c) K = true) (m : fa (.mkr c) K = true) (d : FnX K ⟨(c, some "__init__"), "__init__", qual, defArgs st, defBody st, defScope st⟩) (k : kpm c "__init__" K = true) (b : HB "__init__" qual st ps) : TI K mg c qual st ps := by
  obtain ⟨oc, od, osl, kV, doc, pm, an, cdv, ct, l, cc⟩ := d
  obtain ⟨m1, m2, m3, m4⟩ := He.mkr_ok m
  exact ti_of X G (He.eqO_ok a) m2 m3 l cc k b m1 m4
theorem clm_ok (h : clm c x K = true) : PySem.W.findCls K (.ref (He.ga K c)) (.type "type") x = some (.val (.ref (He.ma K (He.ga K c) x))) := by
  unfold clm at h
  split at h
  · rename_i a e
    rw [e, of_decide_eq_true h]
  · cases h
theorem cli_ok {T initId : String} (h : cli T initId K = true) : PySem.W.findCls K (.type T) (.type "type") "__init__" = some (.val (.builtin initId)) := by
  unfold cli at h
  split at h
  · rename_i a e
    rw [e, of_decide_eq_true h]
  · cases h
theorem tcH (X : K.In h) (G : h.Ns mainGlobals mg) (a : fa (.glo c) K = true) (r : clr c K = true) (m : clm c x K = true) (d : FnX K ⟨(c, some x), x, qual, defArgs st, defBody st, defScope st⟩) (k : kpm c x K = true) (b : HB x qual st ps) : TC K mg c x qual st ps := by
  obtain ⟨oc, od, osl, kV, doc, pm, an, cdv, ct, l, cc⟩ := d
  obtain ⟨r1, r2⟩ := Bool.and_eq_true_iff.mp (show (_ && _) = true from r)
  exact tc_of X G (He.eqO_ok a) r1 (He.eqO_ok r2) (clm_ok m) l cc k b
theorem catH (X : K.In h) (G : h.Ns mainGlobals mg) (a : fa (.glo c) K = true) (z : catF c f K = true) : XCat K mg c f := by
  obtain ⟨z1, z⟩ := Bool.and_eq_true_iff.mp (show (_ && _) = true from z)
  obtain ⟨z2, z⟩ := Bool.and_eq_true_iff.mp z
  obtain ⟨z3, z⟩ := Bool.and_eq_true_iff.mp z
  obtain ⟨z4, z⟩ := Bool.and_eq_true_iff.mp z
  obtain ⟨z5, z⟩ := Bool.and_eq_true_iff.mp z
  obtain ⟨z6, z7⟩ := Bool.and_eq_true_iff.mp z
  exact xcat_of X G (He.eqO_ok a) (He.eqO_ok z1) (He.eqO_ok z2) (of_decide_eq_true z3) z4 (of_decide_eq_true z5) (of_decide_eq_true z6) (He.eqO_ok z7)
theorem excX_ok {newId : String} (q : excX c newId K = true) : ∃ nm qn N bs sn sub ab col dd k0 k1 k2 k3 k5, K.lookup (He.ga K c) = some (excClassObj nm qn (He.ga K c) N bs PySem.ESX.exTail true sn sub ab col dd k0 k1 k2 k3 k5 newId) := by
  unfold excX at q
  split at q
  · rename_i dd cd sl ho
    split at q
    · rename_i C' bm k0 k1 k2 k3 n k5 hm hs
      simp only [Bool.and_eq_true, beq_iff_eq, Bool.not_eq_true'] at q
      obtain ⟨⟨⟨⟨q1, q2⟩, q3⟩, q4⟩, q5⟩ := q
      obtain ⟨nm, bs, mro, ns, qn, hd, sn, sub, ab, col, del⟩ := cd
      dsimp only at hm q3 q4
      subst hm q3 q4 q2 q5
      rw [q1] at ho
      have hsl : sl = #[k0, k1, k2, k3, some (.builtin n), k5] := by
        obtain ⟨l⟩ := sl
        simp only at hs
        rw [hs]
      subst hsl
      exact ⟨nm, qn, ns, bs, sn, sub, ab, col, dd, k0, k1, k2, k3, k5, ho⟩
    · cases q
  · cases q
theorem txH {b : Str} {initId newId : String} {bmB : List Value} {B : String} (F : ExcBaseFacts B newId initId bmB) (hs : ∀ Y : String, PySem.ESX.exTail.contains (.type Y) = bmB.contains (.type Y)) (X : K.In h) (G : h.Ns mainGlobals mg) (a : fa (.glo c) K = true) (e : excX c newId K = true) (z : excY c f K = true)
    (d : FnX K ⟨(c, some "__init__"), "__init__", qual, defArgs st, defBody st, defScope st⟩) (k : kpm c "__init__" K = true) (hb : HB "__init__" qual st ps) (xb : XBase K mg b initId) : TX K mg c b f qual st ps := by
  obtain ⟨oc, od, osl, kV, doc, pm, an, cdv, ct, l, cc⟩ := d
  obtain ⟨nm, qn, N, bs, sn, sub, ab, col, dd, k0, k1, k2, k3, k5, xl⟩ := excX_ok e
  obtain ⟨z1, z⟩ := Bool.and_eq_true_iff.mp (show (_ && _) = true from z)
  obtain ⟨z2, z⟩ := Bool.and_eq_true_iff.mp z
  obtain ⟨z3, z⟩ := Bool.and_eq_true_iff.mp z
  obtain ⟨z4, z⟩ := Bool.and_eq_true_iff.mp z
  obtain ⟨z5, z⟩ := Bool.and_eq_true_iff.mp z
  obtain ⟨z6, z7⟩ := Bool.and_eq_true_iff.mp z
  exact tx_of F X G (He.eqO_ok a) xl hs (.inr rfl) (He.eqO_ok z1) (of_decide_eq_true z2) (of_decide_eq_true z3) z4 (He.eqO_ok z5) (of_decide_eq_true z6) l cc k hb xb (He.eqO_ok z7)
theorem intH {i : Int} (X : K.In h) (G : h.Ns mainGlobals mg) (a : fa (.int x i) K = true) : GDat K mg x (.int i) := by
  obtain ⟨t, e⟩ := He.int_ok X G a
  exact gint e
theorem strH {z : Str} (X : K.In h) (G : h.Ns mainGlobals mg) (a : fa (.str x z) K = true) : GDat K mg x (.str z) := by
  obtain ⟨t, e⟩ := He.str_ok X G a
  exact gstr e
theorem tupH {ds : List D} (X : K.In h) (G : h.Ns mainGlobals mg) (a : fa (.glo x) K = true) (t : tupF x ds K = true) : GDat K mg x (.tup ds) := gtupc (He.glo_ok X G a) t
theorem tabH {w : World} {ks : List Str} {kvs : List (Str × Str)} (X : K.In h) (G : h.Ns mainGlobals mg) (a : fa (.glo x) K = true) (d : He.dicW K (He.ga K x) = some (He.keysIn w.params ks)) (t : tabF x kvs K = true) : GTab K w mg x kvs := by
  obtain ⟨es, n, kd⟩ := He.dicW_ok d
  have e : es.toList.map entOf = kvs.map some := by
    have q : dicT K (He.ga K x) = kvs.map some := of_decide_eq_true t
    unfold dicT at q
    rw [kd.at_] at q
    exact q
  exact gtab_at (He.glo_ok X G a) kd.at_ kd.lit kd.low e
theorem fdsH {cs : List Str} (X : K.In h) (G : h.Ns mainGlobals mg) (a : fa (.glo c) K = true) (cl : fa (.cls c) K = true) (nf : fa (.noat c f) K = true) (r : Fds K mg cs f) : Fds K mg (c :: cs) f := by
  obtain ⟨c1, c2, c3, c4⟩ := He.cls_ok cl
  exact fds_cons X G (He.eqO_ok a) c1 c2 c3 c4 (He.eqO_ok nf) r
theorem noneH (X : K.In h) (G : h.Ns mainGlobals mg) (a : fa (.free x) K = true) : mg x = none := He.free_ok X G a
end
/-- the law, over such a head -/
theorem walkX {l : PySem.W.OpenLaw} {k : Nat} {q : Program} {loose : List Str} {XP : (Str → Option Value) → Heap → Prop} {YP : World → Heap → Prop} {d : DefRec} {p : Str} (hn : l.most = some 63) (hdf : d.params.defaults = []) (hr : Room k callerA)
    (F : ∀ (v : World) (mg : Str → Option Value) (fa : Addr) (hp : Heap), YP v hp → hp.Ns mainGlobals mg → mg d.name = some (.ref fa) →
      ∃ (K : PySem.W.Frag) (fd : FuncData), K.In hp ∧ (∀ (s : Shared) (u : Value), BindsTo s fd ⟨[u], []⟩ [(p, u)]) ∧ ∀ base : Heap, K.In base → base.Ns mainGlobals mg → FnOk l.prog v K mg base (L2.CX l.prog v) k fa fd [p] (spLaw K)) :
    PySem.W.WalkO q loose XP YP l.row.toRowW d [] (fun f vs => PySem.call f vs) := by
  refine Att.attach_call hn hdf ?_
  intro v t0 t1 mg mb fa ob pm cv doc a us is G Y ho hd hc hm hob hi hl hg
  obtain ⟨K, fd, KX, hb, hF⟩ := F v mg fa _ Y G.T.g hm
  exact law_call KX G.T.g G.T.b G.T.builtins G.T.nolimit hg hob hi (Nat.le_trans hl (by decide)) hr hF hb (fun H _ hS => ⟨a, is, rfl, hS, hl, fun _ => rfl⟩) fun H e s' z => cx_none z
end Tg

set_option Elab.async false
set_option linter.all false
set_option maxRecDepth 100000
set_option maxHeartbeats 4000000
/-! TgHeadV: the small head for own classes over ValueError, whose __init__ calls an own base's. -/
namespace Tg
open PySem PySem.Spec PyProof.Rows L2
def excV (c : Str) (newId : String) : Fc := fun K => match K.lookup (He.ga K c) with
  | some ⟨.type "type", _, .cls cd, sl⟩ => (match cd.mro, sl.toList with
    | .ref C' :: bm, [_, _, _, _, some (.builtin n), _] => C' == He.ga K c && n == newId && !cd.hasDel && cd.hasDict && PySem.HandSPX.refsVE bm
    | _, _ => false)
  | _ => false
def clb (c initId : Str) (n : String) : Fc := fun K => match PySem.W.findCls K (.ref (He.ga K c)) (.type "type") initId with
  | some (.val (.builtin z)) => decide (z = n)
  | _ => false
section
variable {K : PySem.W.Frag} {h : Heap} {mg : Str → Option Value} {x y qual c f p : Str} {st : Stmt} {ps : List Str}
theorem excV_ok {newId : String} (q : excV c newId K = true) : ∃ nm qn N bs bm sn sub ab col dd k0 k1 k2 k3 k5, K.lookup (He.ga K c) = some (excClassObj nm qn (He.ga K c) N bs bm true sn sub ab col dd k0 k1 k2 k3 k5 newId) ∧ PySem.HandSPX.refsVE bm = true := by
  unfold excV at q
  split at q
  · rename_i dd cd sl ho
    split at q
    · rename_i C' bm k0 k1 k2 k3 n k5 hm hs
      simp only [Bool.and_eq_true, beq_iff_eq, Bool.not_eq_true'] at q
      obtain ⟨⟨⟨⟨q1, q2⟩, q3⟩, q4⟩, q5⟩ := q
      obtain ⟨nm, bs, mro, ns, qn, hd, sn, sub, ab, col, del⟩ := cd
      dsimp only at hm q3 q4
      subst hm q3 q4 q2
      rw [q1] at ho
      have hsl : sl = #[k0, k1, k2, k3, some (.builtin n), k5] := by
        obtain ⟨l⟩ := sl
        simp only at hs
        rw [hs]
      subst hsl
      exact ⟨nm, qn, ns, bs, bm, sn, sub, ab, col, dd, k0, k1, k2, k3, k5, ho, q5⟩
    · cases q
  · cases q
theorem clb_ok {m : Str} {n : String} (q : clb c m n K = true) : PySem.W.findCls K (.ref (He.ga K c)) (.type "type") m = some (.val (.builtin n)) := by
  unfold clb at q
  split at q
  · rename_i z e
    rw [e, of_decide_eq_true q]
  · cases q
theorem xbH {b : Str} {n : String} (X : K.In h) (G : h.Ns mainGlobals mg) (a : fa (.glo b) K = true) (r : clr b K = true) (z : clb b "__init__" n K = true) (hh : PySem.W.handedIn (.builtin n) = true) : XBase K mg b n := by
  obtain ⟨r1, r2⟩ := Bool.and_eq_true_iff.mp (show (_ && _) = true from r)
  exact xb_own X G (He.eqO_ok a) r1 (He.eqO_ok r2) (clb_ok z) hh
theorem txVH {b : Str} (X : K.In h) (G : h.Ns mainGlobals mg) (a : fa (.glo c) K = true) (e : excV c "ValueError.__new__" K = true) (z : excY c f K = true)
    (d : FnX K ⟨(c, some "__init__"), "__init__", qual, defArgs st, defBody st, defScope st⟩) (k : kpm c "__init__" K = true) (hb : HB "__init__" qual st ps) (xb : XBase K mg b "ValueError.__init__") : TX K mg c b f qual st ps := by
  obtain ⟨oc, od, osl, kV, doc, pm, an, cdv, ct, l, cc⟩ := d
  obtain ⟨nm, qn, N, bs, bm, sn, sub, ab, col, dd, k0, k1, k2, k3, k5, xl, hv⟩ := excV_ok e
  obtain ⟨z1, z⟩ := Bool.and_eq_true_iff.mp (show (_ && _) = true from z)
  obtain ⟨z2, z⟩ := Bool.and_eq_true_iff.mp z
  obtain ⟨z3, z⟩ := Bool.and_eq_true_iff.mp z
  obtain ⟨z4, z⟩ := Bool.and_eq_true_iff.mp z
  obtain ⟨z5, z⟩ := Bool.and_eq_true_iff.mp z
  obtain ⟨z6, z7⟩ := Bool.and_eq_true_iff.mp z
  exact tx_of PySem.F.excBase_ValueError X G (He.eqO_ok a) xl (fun Y => PySem.HandSPX.refsVE_contains Y _ hv) (.inl hv) (He.eqO_ok z1) (of_decide_eq_true z2) (of_decide_eq_true z3) z4 (He.eqO_ok z5) (of_decide_eq_true z6) l cc k hb xb (He.eqO_ok z7)
end
end Tg

set_option Elab.async false
set_option linter.all false
set_option maxRecDepth 100000
set_option maxHeartbeats 4000000
/-! TgLam: isinstance of a caught exception that has fields; list.count. -/
namespace Tg
open PySem PySem.Spec PyProof.Rows L2
section
variable {P : Program} {w : World} {Ar : Around} {Ex : Value → Shared → Prop} {st : Shared} {K : PySem.W.Frag} {a D : Addr} {oa : Obj} {od : Option Obj}
theorem found_class (z1 : PySem.W.hasDictIn K D = true) (z2 : PySem.W.findIn K (.ref D) "__class__" = some (some (.builtin "object.__class__")))
    (z3 : PySem.W.specialIn K (.builtin "object.__class__") "__get__" = some (some (.builtin "getset_descriptor.__get__"))) (z4 : PySem.W.takesIn K (.builtin "object.__class__") = some true) :
    PySem.W.findObj K D od "__class__" = some (.bind (.builtin "getset_descriptor.__get__") (.builtin "object.__class__")) := by
  obtain ⟨cd, hc, _⟩ := PySem.W.any_some z1
  unfold PySem.W.findObj
  rw [hc, Option.bind_some, z2]
  simp [z3, z4]
theorem class_at {R : Option Value → Shared → Prop} (X : ExcC K D) (ki : K.In st.heap) (J : PySem.W.InstAt st.heap a oa D od) (go : R (some (.ref D)) { st with toks := st.toks + 1 }) :
    wpAny (model P w) Ar (getAttr? (.ref a) "__class__") R Ex st := by
  have fnd := found_class (od := od) X.hd X.ha X.hn X.ht
  obtain ⟨hp, g, dr, tk, os⟩ := st
  have q0 := J.type (M := model P w)
  have q1 := PySem.W.looks_findIn (M := model P w) ki X.hg
  have q2 := PySem.W.looks_findIn (M := model P w) ki X.hk
  have q3 := PySem.W.looks_find (M := model P w) ki J fnd
  have q4 : PySem.W.Looks (model P w) hp (isInstance (.ref a) (.type "BaseException")) true := q0.andThen (PySem.W.looks_subIn ki X.hs)
  have y0 : (false && onTheHeap (Value.builtin "BaseException.__getattribute__")) = false :=
    rfl
  have y2 : (Value.builtin "BaseException.__getattribute__" == .builtin "object.__getattribute__") = false := by
    decide +kernel
  have y1 : (onTheHeap (Value.ref D) && Value.builtin "BaseException.__getattribute__" == .builtin "object.__getattribute__") = false := by
    rw [y2] <;> rfl
  unfold getAttr?
  unfold getAttrBy? getAttrBy
  refine wpAny_bind (wpAny_mkText (wpAny_bind (wpAny_attempt (wpAny_holding (wpAny_bind (q0.at (wpAny_bind (q1.at ?_))))))))
  show wpAny _ _ (if (onTheHeap (Value.ref D) && Value.builtin "BaseException.__getattribute__" == .builtin "object.__getattribute__") = true then _ else _) _ _ _
  rw [y1, if_neg Bool.false_ne_true]
  unfold getAttrByItsOwn
  unfold hookBefore
  refine wpAny_bind ?_
  rw [if_pos (show onTheHeap (.ref D) = true from rfl)]
  refine q2.at ?_
  refine wpAny_bind (wpAny_attempt ?_)
  refine wpAny_holding ?_
  unfold callGetattribute
  rw [y0, if_neg Bool.false_ne_true]
  unfold boundAndCalled
  rw [PySem.F.excAttr_ValueError.ga.bind (.ref a)]
  refine wpAny_bind (wpAny_pure ?_)
  show wpAny _ _ (call (.builtin "BaseException.__getattribute__") [.ref a, .str "__class__" tk]) _ _ _
  refine wpAny_call (codeAny_call_builtin PySem.F.excAttr_ValueError.ga.plain PySem.F.entry_bexc_ga ?_)
  refine @PySem.W.check_slot (model P w) _ _ ⟨hp, g, dr, tk + 1, os⟩ "BaseException.__getattribute__" "BaseException" "__getattribute__" (.ref a) [.str "__class__" tk] [] _ (by decide +kernel) (by decide +kernel) q4 (PySem.F.args_bexc_ga (.ref a) (.str "__class__" tk)) ?_
  unfold Builtin.«object.__getattribute__»
  refine wpAny_bind (wpAny_of_eq (a := ((Value.ref a : Value), [Value.str "__class__" tk])) (by first | rfl | (simp only [slotArgs]; rfl)) ?_)
  refine wpAny_bind (wpAny_pure (wpAny_bind (q0.at (wpAny_bind (q3.at ?_)))))
  show wpAny _ _ (holding [Value.builtin "object.__class__"] (call (.builtin "getset_descriptor.__get__") [.builtin "object.__class__", .ref a, .ref D]) >>= ret) _ _ _
  refine wpAny_bind (wpAny_holding (wpAny_call (PySem.W.class_get (s := ⟨hp, g, dr, tk + 1, os⟩) (ox := oa) (od := od) ki J X.hm ?_)))
  refine wpAny_pure ?_
  show wpAny _ _ (handedOut (.ref D)) _ _ _
  rw [PySem.W.handedOut_of (v := .ref D) rfl]
  first
    | exact wpAny_pure (wpAny_pure go)
    | exact wpAny_pure go
    | exact wpAny_pure (wpAny_bind (wpAny_pure (wpAny_pure go)))
theorem kitx_at (X : ExcC K D) : PySem.W.KitX K (.ref a) (.ref D) (fun h => PySem.W.InstAt h a oa D od) where
  ty := fun _ _ _ J => J.type
  it := fun _ _ ki _ => by
    obtain ⟨cd, hc, _⟩ := PySem.W.any_some X.hd
    unfold PySem.W.clsIn at hc
    split at hc
    · rename_i c1 d1 cd1 s1 lo
      intro Ar Q E s k q
      unfold isType
      unfold loadHead
      exact wpAny_bind (wpAny_loadPart (k _ _ (ki _ _ lo)) (wpAny_pure q))
    · cases hc
  ne := (PySem.W.handS_kitx_exc (x := a) (ox := oa) X.hg X.hk X.hs X.hd X.ha X.hn X.ht X.hm).ne
  ca := fun ki J go => class_at X ki J go
end
/-- isinstance(e, c), e the exception that the suite holds, with its own dict or none -/
def rIsX (K : PySem.W.Frag) (cls : Value) (d : Option Addr) (a : Addr) : List V → Hp → VK → Prop := fun xs H Q => ∃ (D : Addr) (c : V) (cv : Value) (b : Bool), cls = .ref D ∧ ExcC K D ∧ (∀ dd, d = some dd → ∃ fs, H dd = some (.xd fs)) ∧
  xs = [.ref a, c] ∧ (∀ u, RelV c u → u = cv) ∧ PySem.W.kitOne K (.ref D) cv = some b ∧ Q (.bl b) H
theorem call_isX {X : Cx} {a : Addr} {cls : Value} {d : Option Addr} {oe : Obj} {pn : List (Addr × Obj)} (hz : Zc cls d oe) (hf : ∃ vs, oe.data = .fields vs) : CallR (X.suite a ((a, oe) :: pn)) (.builtin "isinstance") (rIsX X.K cls d a) := by
  intro pins s σ H xs us Q I r ⟨D, c, cv, b, e1, C, e2, e3, e4, e5, q⟩
  subst e1 e3
  cases r with
  | cons rx rr =>
    cases rr with
    | cons rt rr =>
      cases rr
      cases rx
      cases e4 _ rt
      have pn1 := (I.pin (a, oe) (List.mem_append.mpr (.inl List.mem_cons_self))).1
      obtain ⟨vs, hv⟩ := hf
      obtain ⟨oc, odd, oda, osl⟩ := oe
      obtain ⟨h1, h2⟩ := hz
      dsimp only at h1 h2 hv
      subst h1 h2 hv
      cases odd with
      | none => exact PySem.W.kia_one (kitx_at (od := none) C) I.kIn ⟨pn1, rfl, rfl, trivial⟩ e5 (fun z => nomatch z) fun tk => ⟨.bl b, H, I.kept (t' := tk) fun _ _ z => z, rfl, q⟩
      | some dd =>
        obtain ⟨fs, hfs⟩ := e2 dd rfl
        obtain ⟨mA, ⟨o', es, ep, ho, _⟩, _⟩ := I.hok dd _ hfs
        exact PySem.W.kia_one (kitx_at (od := some o') C) I.kIn ⟨pn1, rfl, rfl, ho⟩ e5 (fun z => nomatch z) fun tk => ⟨.bl b, H, I.kept (t' := tk) fun _ _ z => z, rfl, q⟩
/-! ### list.count, flat items -/
def rCount (K : PySem.W.Frag) : V → List V → Hp → VK → Prop := fun x xs H Q => ∃ (a : Addr) (ys : List V) (y : V), x = V.ref a ∧ xs = [y] ∧ SqL K H a ys ∧ flatV y = true ∧ ys.all flatV = true ∧ Q (.int ((ys.countP fun z => eqV z y : Nat) : Int)) H
theorem count_flat {y : V} : ∀ {ys : List V} {us : List Value}, Vals ys us → ys.all flatV = true → us.countP (eqU y) = ys.countP fun z => eqV z y
  | _, _, .nil, _ => rfl
  | z :: ys, u :: us, .cons r t, f => by
    rw [List.all_cons, Bool.and_eq_true] at f
    rw [List.countP_cons, List.countP_cons, count_flat t f.2, eqU_of r f.1]
theorem mt_count {X : Cx} : MtR X "list.count" (rCount X.K) := by
  intro pins s σ H x xs v us Q I rx rxs ⟨a, ys, y, e1, e2, hs, fy, fys, q⟩
  subst e1 e2
  cases rx
  cases rxs with
  | cons ry rt =>
    rename_i uy ut
    cases rt
    obtain ⟨its, rv, ⟨⟨oc, dd, data, sl⟩, n, ho, c1, c2, c3⟩, _⟩ := I.list hs
    simp only at c1 c3
    subst c1 c3
    refine call_meets PySem.F.slot_list_count ⟨_, ho, rfl⟩ PySem.F.entry_list_count (PySem.F.args_list_count_2 _ _) (SeqAt.list_countAt a its.toArray n dd sl uy (eqU y)) ⟨ho, fun u' hu' => mem_eqAt ry fy rv fys u' (by simpa using hu'), ?_⟩
    refine ⟨.int _, H, I.tok _, ⟨_, rfl⟩, ?_⟩
    rw [show its.toArray.toList = its from rfl, count_flat rv fys]
    exact q
end Tg

set_option Elab.async false
set_option linter.all false
set_option maxRecDepth 100000
set_option maxHeartbeats 4000000
/-! TgWordF: _law_word(lambda: e): what is raised, told by its class. -/
namespace Tg
open PySem PySem.Spec PyProof.Rows L2
abbrev wCls : List Str := ["BadProgram", "BadWord", "BadRooms", "BadFuel", "BadCell", "Over", "BadText"]
/-- what is told of an exception -/
def wordX (x : XV) : Option D :=
  if x.c = "BadProgram" then (x.fs.bind fun fs => fs.lookup ("row" : Str)).map fun v => .tup [.str "program", v]
  else if x.c = "BadWord" then (x.fs.bind fun fs => fs.lookup ("place" : Str)).map fun v => .tup [.str "word", v]
  else if x.c = "BadText" then (x.fs.bind fun fs => fs.lookup ("line" : Str)).map fun v => .tup [.str "text", v]
  else if x.c = "BadRooms" then some (.tup [.str "rooms", .int 0])
  else if x.c = "BadFuel" then some (.tup [.str "fuel", .int 0])
  else if x.c = "BadCell" then some (.tup [.str "cell", .int 0])
  else if x.c = "Over" then some (.tup [.str "over", .int 0])
  else none
/-- the same, with what is not raised -/
def wordR : R D → R D
  | .ok _ A => .ok .non A
  | .exc x A => (match wordX x with
    | some d => .ok d A
    | none => .bad)
  | .bad => .bad
/-- what the classes must say -/
structure WordC (K : PySem.W.Frag) (mg : Str → Option Value) : Prop where
  tag : PySem.W.Frag → True := fun _ => trivial
  cls : ∃ T, mg "TagError" = some (.ref T) ∧ ∀ c ∈ wCls, ∃ C, mg c = some (.ref C) ∧ ExcC K C ∧ PySem.W.exmOne K (.ref C) (.ref T) = some true ∧ (∀ c' ∈ wCls, PySem.W.kitOne K (.ref C) (.ref (clA mg c')) = some (decide (c = c'))) ∧
    PySem.W.kitOne K (.ref C) (.type "ValueError") = some true ∧ PySem.W.findIn K (.ref C) "row" = some none ∧ PySem.W.findIn K (.ref C) "place" = some none ∧ PySem.W.findIn K (.ref C) "line" = some none
section
variable (K : PySem.W.Frag) (mg : Str → Option Value) (cls : Value) (d : Option Addr) (a : Addr)
def tIs (v : V) : TE := tCB (rIsX K cls d a) (tCons (tVar 1) (tCons (tC v) tNil))
def tIsC (c : Str) : TE := tIs K cls d a (.ref (clA mg c))
def tH1 : TS := tAsg (tLst (tCons (tIsC K mg cls d a "BadProgram") (tCons (tIsC K mg cls d a "BadWord") (tCons (tIsC K mg cls d a "BadRooms") (tCons (tIsC K mg cls d a "BadFuel") tNil))))) (gName 2)
def tH2 : TS := tAsg (tOp rCat (tVar 2) (tLst (tCons (tIsC K mg cls d a "BadCell") (tCons (tIsC K mg cls d a "Over") (tCons (tIsC K mg cls d a "BadText") tNil))))) (gName 2)
def tH3 : TS := tIfS (tOr (tTest (tOp rNe (tBM K "list" (rCount K) (tVar 2) (tCons (tC (.bl true)) tNil)) (tC (.int 1)))) (tNot (tB (tIs K cls d a (.ty "ValueError"))))) (tRet (tTup (tCons (tC (.str "other")) (tCons (tC (.int 0)) tNil)))) tNext
def tH4 : TS := tAsg (tOp (rIxL K) (tLst (tCons (tC (.str "program")) (tCons (tC (.str "word")) (tCons (tC (.str "rooms")) (tCons (tC (.str "fuel")) (tCons (tC (.str "cell")) (tCons (tC (.str "over")) (tCons (tC (.str "text")) tNil))))))))
  (tBM K "list" (rIndex K) (tVar 2) (tCons (tC (.bl true)) tNil))) (gName 3)
def tHf (c f : Str) : TE := tXf a cls d (clA mg c) f (tVar 1)
def tH5 (w c f : Str) : TS := tIfS (tTest (tOp rEq (tVar 3) (tC (.str w)))) (tRet (tTup (tCons (tVar 3) (tCons (tHf mg cls d a c f) tNil)))) tNext
def tH7 : TS := tRet (tTup (tCons (tVar 3) (tCons (tIf (tTest (tOp rEq (tVar 3) (tC (.str "text")))) (tHf mg cls d a "BadText" "line") (tC (.int 0))) tNil)))
def tHand : TS := tSeq (tH1 K mg cls d a) (tSeq (tH2 K mg cls d a) (tSeq (tH3 K cls d a) (tSeq (tH4 K) (tSeq (tH5 mg cls d a "word" "BadWord" "place") (tSeq (tH5 mg cls d a "program" "BadProgram" "row") (tH7 mg cls d a))))))
end
/-- which word a class has -/
def wName (c : Str) : Str := if c = "BadProgram" then "program" else if c = "BadWord" then "word" else if c = "BadRooms" then "rooms" else if c = "BadFuel" then "fuel" else if c = "BadCell" then "cell" else if c = "Over" then "over" else "text"
section
variable {K : PySem.W.Frag} {mg : Str → Option Value} {cls : Value} {d : Option Addr} {a D : Addr} {σ : L2.St} {H : Hp} {Q : VK}
theorem is_ok {v : V} {cv : Value} {b : Bool} (hc : cls = .ref D) (C : ExcC K D) (hd : ∀ dd, d = some dd → ∃ fs, H dd = some (.xd fs)) (h1 : σ[1]? = some (some (.ref a))) (hv : ∀ u, RelV v u → u = cv) (hk : PySem.W.kitOne K (.ref D) cv = some b) (q : Q (.bl b) H) : tIs K cls d a v σ H Q :=
  ⟨.ref a, h1, D, v, cv, b, hc, C, hd, rfl, hv, hk, q⟩
end
section
variable {K : PySem.W.Frag} {mg : Str → Option Value} {W : Wd} {A : AH} {H : Hp}
theorem hand14 (Wc : WordC K mg) (k : Ok K mg W A H) {c : Str} {d : Option Addr} (hc : c ∈ wCls) (hd : ∀ dd, d = some dd → ∃ fs, H dd = some (.xd fs)) {a : Addr} {σ : L2.St} (h1 : σ[1]? = some (some (.ref a))) (hl : σ.length = 4) {De : Ends} {u : TS}
    (z : ∀ H' σ', Ext W H W H' → Ok K mg W A H' → σ'[1]? = some (some (.ref a)) → σ'[3]? = some (some (.str (wName c))) → u De σ' H') :
    tSeq (tH1 K mg (.ref (clA mg c)) d a) (tSeq (tH2 K mg (.ref (clA mg c)) d a) (tSeq (tH3 K (.ref (clA mg c)) d a) (tSeq (tH4 K) u))) De σ H := by
  obtain ⟨T, hT, hall⟩ := Wc.cls
  obtain ⟨C, hC, xc, _, kit, kitV, _⟩ := hall c hc
  have eC : clA mg c = C := clA_of hC
  rw [eC]
  have isC : ∀ {H1 : Hp} {σ1 : L2.St} {Q : VK} (c' : Str), c' ∈ wCls → (∀ b o, H b = some o → H1 b = some o) → σ1[1]? = some (some (.ref a)) → Q (.bl (decide (c = c'))) H1 → tIsC K mg (.ref C) d a c' σ1 H1 Q := fun {H1 σ1 Q} c' hc' kp hs q =>
    is_ok rfl xc (fun dd e => by
      obtain ⟨fs, hf⟩ := hd dd e
      exact ⟨fs, kp _ _ hf⟩) hs (fun _ r => r) (kit c' hc') q
  have up : ∀ {H1 : Hp} {p : Addr} {o : HO}, H1 p = none → (∀ b o, H b = some o → H1 b = some o) → ∀ b u, H b = some u → upd H1 p o b = some u := fun {H1 p o} hp kp b u e => by
    rw [upd_ne (fun z => by rw [z] at e; rw [kp _ _ e] at hp; cases hp)]
    exact kp _ _ e
  have i0 : ∀ b o, H b = some o → H b = some o := fun _ _ h => h
  -- the kinds
  refine isC _ (by decide) i0 h1 (isC _ (by decide) i0 h1 (isC _ (by decide) i0 h1 (isC _ (by decide) i0 h1 ⟨by rw [sizeLine_eq]; exact Nat.le_of_ble_eq_true rfl, fun p1 n1 => ?_⟩)))
  obtain ⟨k1, e1⟩ := k.aside n1 (.lst [.bl (decide (c = "BadProgram")), .bl (decide (c = "BadWord")), .bl (decide (c = "BadRooms")), .bl (decide (c = "BadFuel"))])
  have u1 := up (o := .lst [.bl (decide (c = "BadProgram")), .bl (decide (c = "BadWord")), .bl (decide (c = "BadRooms")), .bl (decide (c = "BadFuel"))]) n1 i0
  have s1 : (σ.set 2 (some (.ref p1)))[1]? = some (some (.ref a)) := by rw [List.getElem?_set_ne (by decide)]; exact h1
  refine ⟨.ref p1, List.getElem?_set_self (by rw [hl]; decide), ?_⟩
  refine isC _ (by decide) u1 s1 (isC _ (by decide) u1 s1 (isC _ (by decide) u1 s1 ⟨by rw [sizeLine_eq]; exact Nat.le_of_ble_eq_true rfl, fun p2 n2 => ?_⟩))
  obtain ⟨k2, e2⟩ := k1.aside n2 (.lst [.bl (decide (c = "BadCell")), .bl (decide (c = "Over")), .bl (decide (c = "BadText"))])
  have u2 := up (o := .lst [.bl (decide (c = "BadCell")), .bl (decide (c = "Over")), .bl (decide (c = "BadText"))]) n2 u1
  have ne21 : p1 ≠ p2 := fun q => by
    rw [← q, upd_same] at n2
    cases n2
  refine ⟨p1, p2, _, _, rfl, rfl, by rw [upd_ne ne21, upd_same], upd_same, by rw [sizeLine_eq]; exact Nat.le_of_ble_eq_true rfl, fun p3 n3 => ?_⟩
  obtain ⟨k3, e3⟩ := k2.aside n3 (.lst ([.bl (decide (c = "BadProgram")), .bl (decide (c = "BadWord")), .bl (decide (c = "BadRooms")), .bl (decide (c = "BadFuel"))] ++ [.bl (decide (c = "BadCell")), .bl (decide (c = "Over")), .bl (decide (c = "BadText"))]))
  have u3 := up (o := .lst ([.bl (decide (c = "BadProgram")), .bl (decide (c = "BadWord")), .bl (decide (c = "BadRooms")), .bl (decide (c = "BadFuel"))] ++ [.bl (decide (c = "BadCell")), .bl (decide (c = "Over")), .bl (decide (c = "BadText"))])) n3 u2
  generalize hH3 : upd (upd (upd H p1 _) p2 _) p3 _ = H3 at k3 e3 u3
  have at3 : H3 p3 = some (.lst ([.bl (decide (c = "BadProgram")), .bl (decide (c = "BadWord")), .bl (decide (c = "BadRooms")), .bl (decide (c = "BadFuel"))] ++ [.bl (decide (c = "BadCell")), .bl (decide (c = "Over")), .bl (decide (c = "BadText"))])) := by
    rw [← hH3, upd_same]
  have l2 : (σ.set 2 (some (.ref p1))).length = 4 := by rw [List.length_set]; exact hl
  have s3 : ((σ.set 2 (some (.ref p1))).set 2 (some (.ref p3)))[1]? = some (some (.ref a)) := by rw [List.getElem?_set_ne (by decide)]; exact s1
  have s32 : ((σ.set 2 (some (.ref p1))).set 2 (some (.ref p3)))[2]? = some (some (.ref p3)) := List.getElem?_set_self (by rw [l2]; decide)
  have l3 : ((σ.set 2 (some (.ref p1))).set 2 (some (.ref p3))).length = 4 := by rw [List.length_set]; exact l2
  show tSeq (tH3 K (.ref C) d a) (tSeq (tH4 K) u) De ((σ.set 2 (some (.ref p1))).set 2 (some (.ref p3))) H3
  generalize ((σ.set 2 (some (.ref p1))).set 2 (some (.ref p3))) = σ3 at s3 s32 l3
  -- one of them
  refine ⟨.ref p3, s32, .inl ⟨rfl, _, .inl (.inl at3)⟩, p3, _, .bl true, rfl, rfl, .inl (.inl at3), rfl, rfl, ?_⟩
  refine ⟨rfl, _, rfl, ?_⟩
  have hcnt : decide (V.int ((([.bl (decide (c = "BadProgram")), .bl (decide (c = "BadWord")), .bl (decide (c = "BadRooms")), .bl (decide (c = "BadFuel"))] ++ [.bl (decide (c = "BadCell")), .bl (decide (c = "Over")), .bl (decide (c = "BadText"))] : List V).countP (fun z => eqV z (.bl true)) : Nat) : Int) = V.int 1) = true := by
    have q : ∀ c ∈ wCls, (([.bl (decide (c = "BadProgram")), .bl (decide (c = "BadWord")), .bl (decide (c = "BadRooms")), .bl (decide (c = "BadFuel"))] ++ [.bl (decide (c = "BadCell")), .bl (decide (c = "Over")), .bl (decide (c = "BadText"))] : List V).countP (fun z => eqV z (.bl true))) = 1 := by decide +kernel
    rw [q c hc]
    rfl
  rw [hcnt]
  refine is_ok rfl xc (fun dd e => by
    obtain ⟨fs, hf⟩ := hd dd e
    exact ⟨fs, u3 _ _ hf⟩) s3 (fun _ r => r) kitV ⟨true, rfl, ?_⟩
  -- its word
  refine ⟨by rw [sizeLine_eq]; decide, fun p4 n4 => ?_⟩
  obtain ⟨k4, e4⟩ := k3.aside n4 (.lst [.str "program", .str "word", .str "rooms", .str "fuel", .str "cell", .str "over", .str "text"])
  have ne43 : p3 ≠ p4 := fun q => by
    rw [← q, at3] at n4
    cases n4
  have at34 : upd H3 p4 (.lst [.str "program", .str "word", .str "rooms", .str "fuel", .str "cell", .str "over", .str "text"]) p3 = _ := (upd_ne ne43).trans at3
  refine ⟨.ref p3, s32, .inl ⟨rfl, _, .inl (.inl at34)⟩, ?_⟩
  have fin : ∀ j : Nat, [V.str "program", .str "word", .str "rooms", .str "fuel", .str "cell", .str "over", .str "text"][j]? = some (.str (wName c)) →
      rIxL K (.ref p4) (.int (j : Nat)) (upd H3 p4 (.lst [.str "program", .str "word", .str "rooms", .str "fuel", .str "cell", .str "over", .str "text"])) fun x H1 => gName 3 x σ3 H1 (u De) := fun j hj => by
    refine ⟨p4, _, (j : Nat), .str (wName c), rfl, rfl, .inl (.inl upd_same), ?_, z _ _ ((e1.trans e2).trans (e3.trans e4)) k4 ?_ (List.getElem?_set_self (by rw [l3]; decide))⟩
    · have hj7 := (List.getElem?_eq_some_iff.mp hj).1
      simp only [List.length_cons, List.length_nil] at hj7
      rw [← hj]
      have : j = 0 ∨ j = 1 ∨ j = 2 ∨ j = 3 ∨ j = 4 ∨ j = 5 ∨ j = 6 := by omega
      rcases this with rfl | rfl | rfl | rfl | rfl | rfl | rfl <;> rfl
    · rw [List.getElem?_set_ne (by decide)]
      exact s3
  have pick : ∀ c ∈ wCls, ∃ j z, [V.str "program", .str "word", .str "rooms", .str "fuel", .str "cell", .str "over", .str "text"][j]? = some (.str (wName c)) ∧
      ([.bl (decide (c = "BadProgram")), .bl (decide (c = "BadWord")), .bl (decide (c = "BadRooms")), .bl (decide (c = "BadFuel"))] ++ [.bl (decide (c = "BadCell")), .bl (decide (c = "Over")), .bl (decide (c = "BadText"))] : List V)[j]? = some z ∧ eqV z (.bl true) = true ∧
      ∀ (m : Nat) (z' : V), m < j → ([.bl (decide (c = "BadProgram")), .bl (decide (c = "BadWord")), .bl (decide (c = "BadRooms")), .bl (decide (c = "BadFuel"))] ++ [.bl (decide (c = "BadCell")), .bl (decide (c = "Over")), .bl (decide (c = "BadText"))] : List V)[m]? = some z' → eqV z' (.bl true) = false := by
    intro c hc
    simp only [List.mem_cons, List.not_mem_nil, or_false] at hc
    rcases hc with rfl | rfl | rfl | rfl | rfl | rfl | rfl
    · exact ⟨0, .bl true, rfl, rfl, rfl, fun m z' hm h => absurd hm (by omega)⟩
    · exact ⟨1, .bl true, rfl, rfl, rfl, fun m z' hm h => by
        have : m = 0 := by omega
        subst this; cases h; rfl⟩
    · exact ⟨2, .bl true, rfl, rfl, rfl, fun m z' hm h => by
        have : m = 0 ∨ m = 1 := by omega
        rcases this with rfl | rfl <;> cases h <;> rfl⟩
    · exact ⟨3, .bl true, rfl, rfl, rfl, fun m z' hm h => by
        have : m = 0 ∨ m = 1 ∨ m = 2 := by omega
        rcases this with rfl | rfl | rfl <;> cases h <;> rfl⟩
    · exact ⟨4, .bl true, rfl, rfl, rfl, fun m z' hm h => by
        have : m = 0 ∨ m = 1 ∨ m = 2 ∨ m = 3 := by omega
        rcases this with rfl | rfl | rfl | rfl <;> cases h <;> rfl⟩
    · exact ⟨5, .bl true, rfl, rfl, rfl, fun m z' hm h => by
        have : m = 0 ∨ m = 1 ∨ m = 2 ∨ m = 3 ∨ m = 4 := by omega
        rcases this with rfl | rfl | rfl | rfl | rfl <;> cases h <;> rfl⟩
    · exact ⟨6, .bl true, rfl, rfl, rfl, fun m z' hm h => by
        have : m = 0 ∨ m = 1 ∨ m = 2 ∨ m = 3 ∨ m = 4 ∨ m = 5 := by omega
        rcases this with rfl | rfl | rfl | rfl | rfl | rfl <;> cases h <;> rfl⟩
  obtain ⟨j, y, y1, y2, y3, y4⟩ := pick c hc
  exact ⟨p3, _, .bl true, j, y, rfl, rfl, .inl (.inl at34), rfl, rfl, y2, y3, y4, fin j y1⟩
theorem hand_ok (Wc : WordC K mg) (k : Ok K mg W A H) {x : XV} {cls : Value} {d : Option Addr} (xr : XRep K mg W x cls d H) {dr : D} (hx : wordX x = some dr) {a : Addr} {σ : L2.St} (h1 : σ[1]? = some (some (.ref a))) (hl : σ.length = 4) {De : Ends}
    (z : ∀ W' H' v, Ext W H W' H' → Ok K mg W' A H' → Rep K W' dr v → De.rt v H') : tHand K mg cls d a De σ H := by
  obtain ⟨c, fs⟩ := x
  obtain ⟨q1, q2⟩ := xr
  dsimp only at q1 q2
  subst q1
  have hd : ∀ dd, d = some dd → ∃ fs, H dd = some (.xd fs) := fun dd e => by
    cases fs with
    | none => rw [e] at q2; cases q2
    | some fs =>
      obtain ⟨dd', vs, e1, e2, _⟩ := q2
      rw [e] at e1
      cases e1
      exact ⟨vs, e2⟩
  have hc : c ∈ wCls := by
    unfold wordX at hx
    dsimp only at hx
    simp only [List.mem_cons, List.not_mem_nil, or_false]
    split at hx
    · exact .inl ‹_›
    split at hx
    · exact .inr (.inl ‹_›)
    split at hx
    · exact .inr (.inr (.inr (.inr (.inr (.inr ‹_›)))))
    split at hx
    · exact .inr (.inr (.inl ‹_›))
    split at hx
    · exact .inr (.inr (.inr (.inl ‹_›)))
    split at hx
    · exact .inr (.inr (.inr (.inr (.inl ‹_›))))
    split at hx
    · exact .inr (.inr (.inr (.inr (.inr (.inl ‹_›)))))
    · cases hx
  refine hand14 Wc k hc hd h1 hl fun H' σ' e k' s1 s3 => ?_
  have fin : ∀ (v : V) (dv : D) (p : Addr), dr = .tup [.str (wName c), dv] → Rep K W dv v → H' p = none → De.rt (.ref p) (upd H' p (.tup [.str (wName c), v])) := fun v dv p e0 r np => by
    obtain ⟨k2, e2⟩ := k'.frozen np (.tup [.str (wName c), v])
    refine z _ _ _ (e.trans e2) k2 ?_
    rw [e0]
    exact ⟨p, _, rfl, .inl (.inl upd_same), _, _, rfl, rfl, _, _, rfl, r.le e2.le, rfl⟩
  have sz : ∀ v : V, [V.str (wName c), v].length ≤ sizeLine := fun v => by rw [sizeLine_eq]; exact Nat.le_of_ble_eq_true rfl
  have fld : ∀ (f : Str) (dv : D), (fs.bind fun fs => fs.lookup f) = some dv → ∃ dd vs v, d = some dd ∧ H' dd = some (.xd vs) ∧ vs.lookup f = some v ∧ Rep K W dv v := fun f dv h => by
    cases fs with
    | none => cases h
    | some fs =>
      obtain ⟨dd, vs, e1, e2, e3, e4, e5, e6⟩ := q2
      obtain ⟨v, hv, rv⟩ := fld_at e3 e4 (show fs.lookup f = some dv from h)
      exact ⟨dd, vs, v, e1, e.out dd _ e2 (fun _ q => nomatch q) e6, hv, rv⟩
  have no : ∀ {w : Str} {t u : TS} {cc f : Str}, wName c ≠ w → u De σ' H' → tSeq (tH5 mg (.ref (clA mg c)) d a w cc f) u De σ' H' := fun {w t u cc f} hw hu => by
    refine ⟨_, s3, rfl, _, rfl, ?_⟩
    dsimp only
    rw [if_neg (by rw [decide_eq_true_eq]; exact fun q => hw (V.str.inj q))]
    exact hu
  have yes : ∀ {w cc f : Str} {u : TS} (dv : D), wName c = w → c = cc → dr = .tup [.str (wName c), dv] → (fs.bind fun fs => fs.lookup f) = some dv → tSeq (tH5 mg (.ref (clA mg c)) d a w cc f) u De σ' H' := fun {w cc f u} dv hw hcc hdr hf => by
    refine ⟨_, s3, rfl, _, rfl, ?_⟩
    dsimp only
    rw [if_pos (by rw [decide_eq_true_eq, hw])]
    obtain ⟨dd, vs, v, e1, e2, e3, e4⟩ := fld f dv hf
    exact ⟨_, s3, .ref a, s1, rfl, by rw [hcc], dd, vs, v, e1, e2, e3, sz v, fun p np => fin v dv p hdr e4 np⟩
  have last : (wName c ≠ "text" ∧ dr = .tup [.str (wName c), .int 0]) ∨ (c = "BadText" ∧ ∃ dv, dr = .tup [.str (wName c), dv] ∧ (fs.bind fun fs => fs.lookup ("line" : Str)) = some dv) → tH7 mg (.ref (clA mg c)) d a De σ' H' := fun h => by
    rcases h with ⟨h, hdr⟩ | ⟨hcc, dv, hdr, hf⟩
    · refine ⟨_, s3, _, s3, rfl, _, rfl, ?_⟩
      dsimp only
      rw [if_neg (by rw [decide_eq_true_eq]; exact fun q => h (V.str.inj q))]
      exact ⟨sz _, fun p np => fin _ _ p hdr rfl np⟩
    · refine ⟨_, s3, _, s3, rfl, _, rfl, ?_⟩
      dsimp only
      rw [if_pos (by rw [decide_eq_true_eq, hcc]; rfl)]
      obtain ⟨dd, vs, v, e1, e2, e3, e4⟩ := fld _ dv hf
      exact ⟨.ref a, s1, rfl, by rw [hcc], dd, vs, v, e1, e2, e3, sz v, fun p np => fin v dv p hdr e4 np⟩
  unfold wordX at hx
  dsimp only at hx
  simp only [List.mem_cons, List.not_mem_nil, or_false] at hc
  rcases hc with rfl | rfl | rfl | rfl | rfl | rfl | rfl
  · rw [if_pos rfl] at hx
    obtain ⟨dv, e1, e2⟩ := Option.map_eq_some_iff.mp hx
    exact no (t := tNext) (by decide) (yes dv rfl rfl e2.symm e1)
  · rw [if_neg (by decide), if_pos rfl] at hx
    obtain ⟨dv, e1, e2⟩ := Option.map_eq_some_iff.mp hx
    exact yes dv rfl rfl e2.symm e1
  · rw [if_neg (by decide), if_neg (by decide), if_neg (by decide), if_pos rfl] at hx
    cases hx
    exact no (t := tNext) (by decide) (no (t := tNext) (by decide) (last (.inl ⟨by decide, rfl⟩)))
  · rw [if_neg (by decide), if_neg (by decide), if_neg (by decide), if_neg (by decide), if_pos rfl] at hx
    cases hx
    exact no (t := tNext) (by decide) (no (t := tNext) (by decide) (last (.inl ⟨by decide, rfl⟩)))
  · rw [if_neg (by decide), if_neg (by decide), if_neg (by decide), if_neg (by decide), if_neg (by decide), if_pos rfl] at hx
    cases hx
    exact no (t := tNext) (by decide) (no (t := tNext) (by decide) (last (.inl ⟨by decide, rfl⟩)))
  · rw [if_neg (by decide), if_neg (by decide), if_neg (by decide), if_neg (by decide), if_neg (by decide), if_neg (by decide), if_pos rfl] at hx
    cases hx
    exact no (t := tNext) (by decide) (no (t := tNext) (by decide) (last (.inl ⟨by decide, rfl⟩)))
  · rw [if_neg (by decide), if_neg (by decide), if_pos rfl] at hx
    obtain ⟨dv, e1, e2⟩ := Option.map_eq_some_iff.mp hx
    exact no (t := tNext) (by decide) (no (t := tNext) (by decide) (last (.inr ⟨rfl, dv, e2.symm, e1⟩)))
end
end Tg

set_option Elab.async false
set_option linter.all false
set_option maxRecDepth 100000
set_option maxHeartbeats 4000000
/-! TgLamW: a lambda is made; _law_word(lambda: e) as an expression. -/
namespace Tg
open PySem PySem.Spec PyProof.Rows L2
/-- what the making of a lambda does with the heap: c' is its code object -/
def LamStep (H H1 : Hp) (P : Addr) (tb : Array Value) (q : Str) (c' : Addr) : Prop :=
  (H1 = H ∧ H c' = some (LamX.CodeO c' q)) ∨
    (H c' = none ∧ c' ≠ P ∧ ∃ more : Array Value, H1 = upd (upd H P (.tbl (tb ++ more))) c' (LamX.CodeO c' q) ∧ TriplesOk (tb ++ more).toList ∧ ∀ p cv, codeAmong p (tb ++ more).toList = some cv → codeAmong p tb.toList = some cv ∨ cv = .ref c')
section
variable {X : Cx} {pins : List (Addr × Obj)} {σ : L2.St} {H : Hp} {s : Shared}
theorem lam_new {c P : Addr} {params : Arguments} {body : Expr} {scope : Scope} {pos : Pos} {E : Value → Shared → Prop} {Q : Value → Shared → Prop} {tb : Array Value} (I : Inv X pins σ H s) (B : LamX.TabB X.base X.mg c P) (hco : X.env.code = .ref c)
    (hP : H P = some (.tbl tb)) (ok : TriplesOk tb.toList) (known : ∀ p cv, codeAmong p tb.toList = some cv → ∃ c, cv = .ref c ∧ H c = some (LamX.CodeO c (X.env.qual ++ "<lambda>")))
    (nodef : defaultsOf params X.env = ([], [])) (hfr : ∀ y ∈ scope.names, y.2 = .free → ∃ c, X.env.cells.lookup y.1 = some c)
    (go : ∀ (f c' : Addr) (pm ct : Value) (H1 : Hp) (s1 : Shared), Inv X pins σ H1 s1 → LamStep H H1 P tb (X.env.qual ++ "<lambda>") c' →
      s1.heap.get? f = some (PySem.W.kla_obj "<lambda>" (X.env.qual ++ "<lambda>") params body scope (cloFrom X.env.cells scope.names []) pm c' ct) → H1 f = none → f ∉ frs X.stack → H1 c' = some (LamX.CodeO c' (X.env.qual ++ "<lambda>")) → Q (.ref f) s1) :
    wpAny (model X.prog X.w) X.A (eval (.Lambda params body scope pos) X.env) Q E s := by
  refine PySem.W.kla_eval nodef ?_
  have bP : s.heap.BuiltinsAt X.mg P := B.bm.keeps I.bk
  have tP : s.heap.get? P = some { cls := .none, data := .fields tb } := I.hok P _ hP
  have off : ∀ f, s.heap.objs.size ≤ f → f ∉ frs X.stack := fun f hf z => (List.mem_cons.mp (I.stkSub _ z)).elim
    (fun e => by
      have h1 := I.lt
      rw [← e] at h1
      exact absurd (Nat.lt_of_lt_of_le h1 hf) (Nat.lt_irrefl _))
    fun e => I.nofs hf e
  cases hc : codeAmong pos tb.toList with
  | some cv =>
    obtain ⟨c', e, oc⟩ := known pos cv hc
    subst e
    refine PySem.W.kla_makeFunctionHit (mg := X.mg) (c := c) (P := P) (ps := tb) (closure_ok hfr) I.ok.glob (I.mod.glob.keeps I.bk) hco (B.code.keeps I.bk) tP ok hc bP fun ct h1 tk old big => ?_
    exact go h1.objs.size c' ((X.mg "__name__").getD .none) ct H _ (I.kept fun b o e => Heap.get?_push_of_some _ (old b o e)) (.inl ⟨rfl, oc⟩) (Heap.get?_push_size _ rfl) (I.hok.fresh big) (off _ big) oc
  | none =>
    refine PySem.W.kla_makeFunction (mg := X.mg) (c := c) (P := P) (ps := tb) (closure_ok hfr) I.ok.glob (I.mod.glob.keeps I.bk) hco (B.code.keeps I.bk) tP ok hc B.gP bP fun c' ct h1 tk old ge lt rec tab => ?_
    obtain ⟨c2, oc, vs, t, e2, ho, hd, hv⟩ := rec
    cases e2
    have big : s.heap.objs.size ≤ h1.objs.size := Nat.le_trans ge (Nat.le_of_lt lt)
    have nC : H c' = none := I.hok.fresh ge
    have nCP : c' ≠ P := fun z => by rw [z, hP] at nC; cases nC
    have eL : (tb ++ #[rawInt pos.line, rawInt pos.col, .ref c']).toList = tb.toList ++ [rawInt pos.line, rawInt pos.col, .ref c'] := by simp
    have I1 := LamX.inv_table (t' := tk) (more := #[rawInt pos.line, rawInt pos.col, .ref c']) (q := X.env.qual ++ "<lambda>") (h' := h1.push (PySem.W.kla_obj "<lambda>" (X.env.qual ++ "<lambda>") params body scope (cloFrom X.env.cells scope.names []) ((X.mg "__name__").getD .none) c' ct)) I hP
      (fun b o hb e => Heap.get?_push_of_some _ (old b o hb e)) (Heap.get?_push_of_some _ tab) ge ⟨oc, vs, t, Heap.get?_push_of_some _ ho, hd, hv⟩
    refine go h1.objs.size c' ((X.mg "__name__").getD .none) ct _ _ I1 (.inr ⟨nC, nCP, _, rfl, ?_, fun p cv h => ?_⟩) (Heap.get?_push_size _ rfl) ?_ (off _ big) upd_same
    · rw [eL]
      exact PySem.TriplesOk_snoc _ _ _ _ ok
    · rw [eL] at h
      exact LamX.among_app _ ok h
    · rw [upd_ne (Nat.ne_of_gt lt), upd_ne (Nat.ne_of_gt (Nat.lt_of_lt_of_le (Heap.lt_size tP) big))]
      exact I.hok.fresh big
end
theorem upd_swap {H : Hp} {a b : Addr} {o u : HO} (h : a ≠ b) : upd (upd H a o) b u = upd (upd H b u) a o := by
  funext c
  by_cases z : c = b
  · rw [z, upd_same, upd_ne (Ne.symm h), upd_same]
  · by_cases y : c = a
    · rw [y, upd_ne h, upd_same, upd_same]
    · rw [upd_ne z, upd_ne y, upd_ne y, upd_ne z]
section
variable {K : PySem.W.Frag} {mg : Str → Option Value} {W : Wd} {A : AH} {H H1 : Hp}
/-- a table grows -/
theorem Ok.table (k : Ok K mg W A H) {x : Str} {P : Addr} (hx : x ∈ lamDefs) (hP : tabA K mg x = some P) (hu : ∀ y ∈ lamDefs, tabA K mg y = some P → y = x) {tb : Array Value} (ok : TriplesOk tb.toList)
    (known : ∀ p cv, codeAmong p tb.toList = some cv → ∃ c, cv = .ref c ∧ W.F c = some (LamX.CodeO c (lamQ x))) : Ok K mg W A (upd H P (.tbl tb)) ∧ Ext W H W (upd H P (.tbl tb)) := by
  have t := k.tab x hx P hP
  have nm : ∀ {n : Nat} {a : Addr}, W.m[n]? = some a → a ≠ P := fun e z => t.nm (z ▸ List.mem_of_getElem? e)
  have nF : ∀ {a : Addr} {o : HO}, W.F a = some o → a ≠ P := fun {a o} e z => by
    rw [z, t.nF] at e
    cases e
  refine ⟨⟨fun a o e => ?_, fun n a o e1 e2 => (k.sep n a o e1 e2).at rfl (upd_ne (nm e1)), k.nd, k.len, fun n a o e1 e2 => ?_, fun y hy P' hP' => ?_⟩, Le.refl W, fun a o e tt na => ?_, fun a e => ?_, fun a o e n => ?_, fun a h1 h2 => absurd h1 h2⟩
  · rw [upd_ne (nF e)]
    exact k.frz a o e
  · rw [upd_ne (nm e1)]
    exact k.obj n a o e1 e2
  · by_cases z : P' = P
    · subst z
      rw [hu y hy hP']
      exact ⟨⟨tb, upd_same, ok, known⟩, t.nm, t.nF⟩
    · have t' := k.tab y hy P' hP'
      exact t'.keep (fun _ _ e => e) (upd_ne z) t'.nm t'.nF
  · obtain ⟨tb0, e0, _⟩ := t.at_
    have z : a ≠ P := fun z => by
      rw [z, e0] at e
      cases e
      exact tt _ rfl
    rw [upd_ne z]
    exact e
  · by_cases z : a = P
    · rw [z, upd_same] at e
      cases e
    · rw [upd_ne z] at e
      exact e
  · rw [n] at e
    cases e
theorem Ok.lam (k : Ok K mg W A H) {x : Str} {P c' : Addr} (hx : x ∈ lamDefs) (hP : tabA K mg x = some P) (hu : ∀ y ∈ lamDefs, tabA K mg y = some P → y = x) {tb : Array Value} (hH : H P = some (.tbl tb)) (st : LamStep H H1 P tb (lamQ x) c') :
    ∃ W1, Ok K mg W1 A H1 ∧ Ext W H W1 H1 := by
  rcases st with ⟨rfl, _⟩ | ⟨nC, ne, more, rfl, ok, kn⟩
  · exact ⟨W, k, Ext.refl _ _⟩
  · obtain ⟨k1, e1⟩ := k.frozen nC (LamX.CodeO c' (lamQ x))
    obtain ⟨⟨tb0, t1, t2, t3⟩, _, _⟩ := k.tab x hx P hP
    rw [hH] at t1
    cases t1
    obtain ⟨k2, e2⟩ := k1.table hx hP hu ok fun p cv h => by
      rcases kn p cv h with h | h
      · obtain ⟨c, h1, h2⟩ := t3 p cv h
        exact ⟨c, h1, e1.le.f _ _ h2⟩
      · exact ⟨c', h, upd_same⟩
    rw [upd_swap (Ne.symm ne)]
    exact ⟨_, k2, e1.trans e2⟩
end
/-! ### _law_word -/
section
variable {X : Cx} {W : WX}
theorem takes_len (tk : Takes X W) : Takes X (fun c d σ H => σ.length = X.N.length → W c d σ H) := fun u s' ⟨a, B, sI, pins, σ, H, cls, d, e, I, nb, up, sky, na, os, ag, w⟩ =>
  tk u s' ⟨a, B, sI, pins, σ, H, cls, d, e, I, nb, up, sky, na, os, ag, w I.len⟩
end
/-- what _law_word makes of a lambda's reading -/
def TTw (K : PySem.W.Frag) (mg : Str → Option Value) (T : Addr) (tl : XK → Hp → VK → Prop) (H : Hp) (Q : VK) : Prop :=
  tl (fun cls d H' => ∀ σ' : L2.St, σ'.length = 4 → wAs K (.ref T) 1 (fun a cls d => tHand K mg cls d a) (fun _ _ _ _ => False) { nx := tRet (tC .non) { nx := fun _ H' => Q .non H', rt := Q }, rt := Q } cls d σ' H') H fun _ H' => Q .non H'
/-- the def _law_word, called with a lambda -/
def WordFn (P : Program) (w : World) (K : PySem.W.Frag) (mg : Str → Option Value) (base : Heap) (st : Stmt) (T : Addr) : Prop :=
  ∃ (g : Addr) (oc : Value) (od an : Option Addr) (osl : Array (Option Value)) (kV doc pm cdv ct : Value) (Ng : List Str), mg "_law_word" = some (.ref g) ∧ PySem.W.keepIn K (.ref g) = true ∧
    K.lookup g = some ⟨oc, od, .func (PySem.W.fnOf "_law_word" "_law_word" (defArgs st) (defBody st) (defScope st) .none kV doc pm an cdv ct), osl⟩ ∧ PySem.W.codeIn K cdv "_law_word" = true ∧
    Binds K (PySem.W.fnOf "_law_word" "_law_word" (defArgs st) (defBody st) (defScope st) .none kV doc pm an cdv ct) ["_law_work"] [] ∧ FnScope Ng ["_law_work"] (defScope st) ∧ Ng[0]? = some ("_law_work" : Str) ∧ Vis (defScope st) "_law_work" ∧
    ∀ (X : Cx) (q : Str), X.prog = P → X.w = w → X.K = K → X.mg = mg → X.base = base → LamX.GivesTo X Ng "_law_word" (defScope st) g cdv (defBody st) "_law_work" q (TTw K mg T)
def tLamW (K : PySem.W.Frag) (mg : Str → Option Value) (T P : Addr) (q : Str) (t : XK → TE) : TE := fun σ H Q => ∃ tb : Array Value, H P = some (.tbl tb) ∧ TriplesOk tb.toList ∧ (∀ p cv, codeAmong p tb.toList = some cv → ∃ c, cv = .ref c ∧ H c = some (LamX.CodeO c q)) ∧
  ∀ H1 c', LamStep H H1 P tb q c' → TTw K mg T (fun E H' Q' => t E σ H' Q') H1 Q
def mLamW (m : ME) : ME := fun s A => wordR (m s A)
section
variable {X : Cx}
theorem pe_lamW {st : Stmt} {T c P : Addr} {k : Nat} {params : Arguments} {body : Expr} {scope : Scope} {t : XK → TE} {p lpos pos : Pos} (G : WordFn X.prog X.w X.K X.mg X.base st T) (hg : Gl X "_law_word") (B : LamX.TabB X.base X.mg c P) (hco : X.env.code = .ref c)
    (hr : Room (k + 2) X.A) (L : LamX.LamS X.env.scope scope) (nodef : defaultsOf params X.env = ([], []))
    (hbind : ∀ (q : Str) (cl : List (Str × Addr)) (pm cv ctv : Value), bindArgs (PySem.W.kla_fn "<lambda>" q params body scope cl pm cv ctv) ⟨[], []⟩ = pure [])
    (hbody : ∀ (A : Around) (outer : List Env) (s : Shared) (H : Hp) (E : XK) (f c' : Addr), Room k (A.deeper (LamX.lamEnv X scope s.heap.objs.size f c')) → PE (LamX.lamCx X A outer s H E scope f c') body (t E)) :
    PE X (.Call (.Name "_law_word" p) [.Lambda params body scope lpos] [] pos) (tLamW X.K X.mg T P (X.env.qual ++ "<lambda>") t) := by
  obtain ⟨g, oc, od, an, osl, kV, doc, pm, cdv, ct, Ng, hm, hk, lk, hcg, hb, Sg, hNg, hva, hG⟩ := G
  refine ⟨fun pins s σ H Q I ⟨tb, hP, ok, kn, h⟩ => ?_⟩
  refine wpAny_Call_Name_kw (ld_glob I hg hm ?_ (by decide))
  refine PySem.W.callWith_K (h₀ := X.base) I.ok.mod.kin hk ?_ (by rfl) (by rfl)
  show wpAny _ _ (spliced ((false, eval (.Lambda params body scope lpos) X.env) :: backTo pos (starEach [] X.env))) _ _ s
  refine Calls.spliced_cons (lam_new I B hco hP ok kn nodef (L.has I.ok) fun f c' pm' ctv H1 s' I1 stp hf hfn hfr hc' => ?_)
  refine Calls.spliced_nil ⟨I1.kIn, ?_⟩
  have rc : codeAny (model X.prog X.w) X.A (.call (.ref g) ⟨[.ref f], []⟩) (CR C8.CX0 X.stack X.prog X.w H1 s' Q C8.E0) s' := by
    refine LamX.run_ofS (N := Ng) (ps := ["_law_work"]) (us := [.ref f]) (vs := [.ref f]) lk hcg Sg hr I1.env0 (hb s' [.ref f] I1.kIn rfl) (.cons rfl .nil) rfl fun hr' => ?_
    obtain ⟨t', z1, z2⟩ := hG X (X.env.qual ++ "<lambda>") rfl rfl rfl rfl rfl f c' s' H1 Q (fun E H' Q' => t E σ H' Q')
      (fun W pn xe E p1 p2 tk hW => LamX.pe_act (i := 0) I1 L hf hfn hfr (hbind _ _ _ _ _) tk hW hr' (fun A outer s H hr2 => hbody A outer s H E f c' hr2) hNg hva (by decide) (by decide)) hc' (h H1 c' stp)
    exact ⟨t', z1.nox, z2⟩
  refine wpAny_call (codeAny_mono rc fun r s2 hq => ?_)
  cases r with
  | error e => exact (show False from hq).elim
  | ok fl =>
    cases fl with
    | ret u => exact I1.after hq
    | next => exact False.elim hq
    | brk => exact False.elim hq
    | cont => exact False.elim hq
end
theorem word_cls {x : XV} {dr : D} (hx : wordX x = some dr) : x.c ∈ wCls := by
  unfold wordX at hx
  simp only [List.mem_cons, List.not_mem_nil, or_false]
  split at hx
  · exact .inl ‹_›
  split at hx
  · exact .inr (.inl ‹_›)
  split at hx
  · exact .inr (.inr (.inr (.inr (.inr (.inr ‹_›)))))
  split at hx
  · exact .inr (.inr (.inl ‹_›))
  split at hx
  · exact .inr (.inr (.inr (.inl ‹_›)))
  split at hx
  · exact .inr (.inr (.inr (.inr (.inl ‹_›))))
  split at hx
  · exact .inr (.inr (.inr (.inr (.inr (.inl ‹_›)))))
  · cases hx
theorem sim_lamW {K : PySem.W.Frag} {mg : Str → Option Value} {Wx : WX} {T P : Addr} {x : Str} {t : XK → TE} {m : ME} (Wc : WordC K mg) (hT : mg "TagError" = some (.ref T)) (hx : x ∈ lamDefs) (hP : tabA K mg x = some P) (hu : ∀ y ∈ lamDefs, tabA K mg y = some P → y = x)
    (h : ∀ E : XK, SimE K mg (fun c d _ H => E c d H) (t E) m) : SimE K mg Wx (tLamW K mg T P (lamQ x) t) (mLamW m) := fun W σ s A H Q k sr z => by
  obtain ⟨⟨tb, t1, t2, t3⟩, _, _⟩ := k.tab x hx P hP
  refine ⟨tb, t1, t2, fun p cv q => ?_, fun H1 c' stp => ?_⟩
  · obtain ⟨c, e1, e2⟩ := t3 p cv q
    exact ⟨c, e1, k.frz _ _ e2⟩
  · obtain ⟨W1, k1, e1⟩ := k.lam hx hP hu t1 stp
    refine h _ W1 σ s A H1 _ k1 (sr.le e1.le) ?_
    unfold mLamW at z
    generalize m s A = r at z
    cases r with
    | bad => exact z.elim
    | ok v A' => exact fun W' H' b e k' _ => z W' H' .non (e1.trans e) k' rfl
    | exc y A' =>
      unfold wordR at z
      dsimp only at z
      cases hw : wordX y with
      | none =>
        rw [hw] at z
        exact z.elim
      | some dr =>
        rw [hw] at z
        intro W' H' cls d e k' xr σ' hl
        obtain ⟨T', hT', hall⟩ := Wc.cls
        rw [hT] at hT'
        cases hT'
        obtain ⟨C, hC, _, hex, _⟩ := hall y.c (word_cls hw)
        refine ⟨true, ?_, fun _ a _ => ?_, fun q => nomatch q⟩
        · rw [show cls = _ from xr.1, clA_of hC]
          exact hex
        · exact hand_ok Wc k' xr hw (List.getElem?_set_self (by rw [hl]; decide)) (by rw [List.length_set]; exact hl) fun W2 H2 v e2 k2 r2 => z W2 H2 v ((e1.trans e).trans e2) k2 r2
section
variable {X : Cx} {Wx : WX}
theorem slamW {st : Stmt} {x : Str} {T c P : Addr} {k j : Nat} {params : Arguments} {body : Expr} {scope : Scope} {t : XK → TE} {m : ME} {p lpos pos : Pos} (G : WordFn X.prog X.w X.K X.mg X.base st T) (Wc : WordC X.K X.mg) (hT : X.mg "TagError" = some (.ref T))
    (hx : x ∈ lamDefs) (hP : tabA X.K X.mg x = some P) (hu : ∀ y ∈ lamDefs, tabA X.K X.mg y = some P → y = x) (B : LamX.TabB X.base X.mg c P) (hco : X.env.code = .ref c) (hr : Room j X.A) (hk : k + 2 ≤ j) (L : LamX.LamS X.env.scope scope)
    (hbody : ∀ (A : Around) (outer : List Env) (s : Shared) (H : Hp) (E : XK) (f c' : Addr), Room k (A.deeper (LamX.lamEnv X scope s.heap.objs.size f c')) → SE (LamX.lamCx X A outer s H E scope f c') (fun c d _ H => E c d H) body (t E) m)
    (hq : X.env.qual ++ "<lambda>" = lamQ x := by rfl) (hg : Gl X "_law_word" := by rfl) (nodef : defaultsOf params X.env = ([], []) := by rfl)
    (hbind : ∀ (q : Str) (cl : List (Str × Addr)) (pm cv ctv : Value), bindArgs (PySem.W.kla_fn "<lambda>" q params body scope cl pm cv ctv) ⟨[], []⟩ = pure [] := by intros; rfl) :
    SE X Wx (.Call (.Name "_law_word" p) [.Lambda params body scope lpos] [] pos) (tLamW X.K X.mg T P (X.env.qual ++ "<lambda>") t) (mLamW m) := by
  refine ⟨pe_lamW G hg B hco (hr.mono hk) L nodef hbind fun A outer s H E f c' h => (hbody A outer s H E f c' h).pe, ?_⟩
  rw [hq]
  refine sim_lamW Wc hT hx hP hu fun E => ?_
  exact (SE.sim (X := LamX.lamCx X X.A [] X.s_0 X.H_0 E scope 0 0) (hbody X.A [] X.s_0 X.H_0 E 0 0 ((hr.mono (show k + 1 ≤ j by omega)).deeper _)))
end
/-! ### the def _law_word itself -/
section
variable {K : PySem.W.Frag} {mg : Str → Option Value}
theorem WordC.at (Wc : WordC K mg) {c : Str} (hc : c ∈ wCls) : mg c = some (.ref (clA mg c)) := by
  obtain ⟨T, _, h⟩ := Wc.cls
  obtain ⟨C, hC, _⟩ := h c hc
  rw [clA_of hC]
  exact hC
theorem WordC.xf (Wc : WordC K mg) {c : Str} (hc : c ∈ wCls) : XfC K (clA mg c) ∧ PySem.W.findIn K (.ref (clA mg c)) "row" = some none ∧ PySem.W.findIn K (.ref (clA mg c)) "place" = some none ∧ PySem.W.findIn K (.ref (clA mg c)) "line" = some none := by
  obtain ⟨T, _, h⟩ := Wc.cls
  obtain ⟨C, hC, x, _, _, _, r⟩ := h c hc
  rw [clA_of hC]
  exact ⟨⟨x.hg, x.hk, x.hs, x.hd⟩, r⟩
theorem tagged (Wc : WordC K mg) : ∃ T, mg "TagError" = some (.ref T) := by
  obtain ⟨T, h, _⟩ := Wc.cls
  exact ⟨T, h⟩
abbrev WCx (X : Cx) (Ng : List Str) (sg : Scope) (g : Addr) (cdv : Value) (s : Shared) (H : Hp) : Cx := (cxOf C8.CX0 X.prog X.w X.K X.mg X.base Ng "_law_word" sg g cdv X.A X.stack s H C8.E0).nox
theorem gives_of {X : Cx} {Ng : List Str} {sg : Scope} {g T : Addr} {cdv : Value} {q : Str} {b0 : Stmt} {suite : List Stmt} {p1 p2 p3 p4 p5 p6 p7 p8 : Pos} {j : Nat} (hT : X.mg "TagError" = some (.ref T)) (hN : Ng.Nodup) (hi : Ng[1]? = some ("e" : Str)) (hlen : Ng.length = 4)
    (hln : sg.names.lookup ("e" : Str) = some .local) (hge : sg.names.lookup ("TagError" : Str) = some .globalImplicit) (h0 : ∀ f : Addr, (L2.start Ng [V.ref f])[0]? = some (some (V.ref f)))
    (hsu : ∀ (s : Shared) (H : Hp) (a : Addr) (oe : Obj) (cls : Value) (d : Option Addr) (pn : List (Addr × Obj)), Zc cls d oe → (∃ vs, oe.data = .fields vs) → PSs ((WCx X Ng sg g cdv s H).suite a ((a, oe) :: pn)) (b0 :: suite) (tHand X.K X.mg cls d a)) :
    LamX.GivesTo X Ng "_law_word" sg g cdv [.Try [.Expr (.Call (.Name "_law_work" p1) [] [] p2) p3] [.ExceptHandler (some (.Name "TagError" p4)) (some "e") (b0 :: suite) p5] [] [] p6, .Return (some (.Constant .none j p7)) p8] "_law_work" q (TTw X.K X.mg T) := by
  intro f c' s H Q tl act hc h
  have hgl : Gl (WCx X Ng sg g cdv s H) "TagError" := hge
  refine ⟨_, pss_cons (ps_try_as (X := WCx X Ng sg g cdv s H) (c := .ref T) (i := 1) (ts := fun a cls d => tHand X.K X.mg cls d a) (Wout := fun _ _ _ _ => False)
      (tb := fun W D σ H => σ[0]? = some (some (.ref f)) ∧ H c' = some (LamX.CodeO c' q) ∧ tl (fun cls d H' => ∀ σ' : L2.St, σ'.length = 4 → W cls d σ' H') H fun _ H' => D.nx σ H')
      rfl rfl hN hi hln ⟨hgl, by decide, .inl hT⟩ LamX.takes0 (fun W pn xe tk _ => ?_) (fun a oe cls d pn hz hf => hsu s H a oe cls d pn hz hf)) (pss_one (ps_ret pe_non)), ?_⟩
  · refine ⟨fun pins s' σ H' D I h' => ?_⟩
    obtain ⟨h1, h2, h3⟩ := h'
    have tk2 : Takes ((WCx X Ng sg g cdv s H).tr pn xe) (fun c d σ H => σ.length = 4 → W c d σ H) := (takes_len tk).imp fun c d σ H z q => z (q.trans hlen)
    have hp := act _ pn xe (fun cls d H' => ∀ σ' : L2.St, σ'.length = 4 → W cls d σ' H') p1 p2 tk2 fun cls d σ' H' z => z σ'
    exact (pss_one (ps_expr (pos := p3) hp)).run pins s' σ H' D I ⟨h1, h2, h3⟩
  · exact ⟨h0 f, hc, h⟩
end
theorem tkL {X : Cx} {A : Around} {outer : List Env} {s : Shared} {H : Hp} {E : XK} {scope : Scope} {f c' : Addr} : Takes (LamX.lamCx X A outer s H E scope f c') (fun c d _ H => E c d H) := takes_of rfl rfl rfl rfl
/-- a def that makes lambdas -/
theorem dfnC_of {P : Program} {w : World} {K : PySem.W.Frag} {mg : Str → Option Value} {base : Heap} {x : Str} {st : Stmt} {N ps : List Str} {k : Nat} {m : MS} (T : TF K mg x x st ps) (S : FnScope N ps (defScope st)) (h : BodyC P w K mg base N x st k m) : Dfn P w K mg base x (k + 1) (mFun ps.length N.length m) := by
  obtain ⟨f, fd, F, hm, hb⟩ := T
  exact ⟨f, fd, ps, fnokC_of F hm S h, hm, F.kp, hb⟩
/-- what a def's text wants where it makes lambdas -/
def LamT (K : PySem.W.Frag) (mg : Str → Option Value) (x : Str) : Prop := x ∈ lamDefs ∧ ∃ c P, codeA K mg x = some c ∧ tabA K mg x = some P ∧ ∀ y ∈ lamDefs, tabA K mg y = some P → y = x
end Tg

set_option Elab.async false
set_option linter.all false
set_option maxRecDepth 100000
set_option maxHeartbeats 2000000
/-! TgUpd: d.update(a dict). -/
namespace Tg
open PySem PySem.Spec PyProof.Rows L2
def rUpdD : V → List V → Hp → VK → Prop := fun x xs H Q => ∃ (d a : Addr) (acc more : List (Key × V)), x = .ref d ∧ xs = [.ref a] ∧ d ≠ a ∧ H d = some (.dK acc) ∧ H a = some (.dK more) ∧ acc.length + more.length ≤ 16777216 ∧ Q .non (upd H d (.dK (mergeK acc more)))
theorem mt_updD {X : Cx} : MtR X "dict.update" rUpdD := by
  intro pins s σ H x xs v us Q I rx r ⟨d, a, acc, more, e1, e2, ne, hd, ha, hsz, q⟩
  subst e1 e2
  obtain ⟨u, rfl, ru⟩ := vals1 r
  cases rx
  cases ru
  obtain ⟨z1, lo1, vs, rel1, D1⟩ := dk_of I.hok hd
  obtain ⟨z2, lo2, ws, rel2, D2⟩ := dk_of I.hok ha
  refine call_meetsIn PySem.F.slot_dict_update D1.typeIs PySem.F.entry_dict_update (PySem.F.args_dict_update_2 _ _) (meets_dict_update (mixKind X.prog X.w) d a ne lo2)
    ⟨vs, ws, D1, D2, by rw [← rel1.length, ← rel2.length, sizeLine_eq]; exact hsz, fun h' hm _ hs => ?_⟩
  have hlen : (mergeK acc more).length ≤ sizeLine := Nat.le_trans (length_mergeK more acc) (by rw [sizeLine_eq]; exact hsz)
  obtain ⟨o', _, _, ho', _⟩ := id hm
  exact ⟨.non, _, I.write (x := d) (e := d) (t' := s.toks) (by rw [hd]; exact True.intro) (.inl rfl) (fun b w hb z => (hs.2 b hb).trans z) ⟨o', ho'⟩ (dk_new hlen lo1 (KV.merge rel2 rel1) hm), rfl, q⟩
def updDD : D → List D → AH → R D := fun x ds A => match x, ds with
  | .ref n, [.dct ks es] => match A[n]? with
    | some (.dct acc) => if acc.length + (ks.zip es).length ≤ 16777216 then .ok .non (A.set n (.dct (mergeD acc (ks.zip es)))) else .bad
    | _ => .bad
  | _, _ => .bad
theorem oUpdDS {K : PySem.W.Frag} {mg : Str → Option Value} : MtS K mg rUpdD updDD := fun W A H E Q d x ds xs k rx r h => by
  unfold updDD at h
  split at h
  · rename_i n ks es
    obtain ⟨a, rfl, ha⟩ := rx
    obtain ⟨v, rfl, h1⟩ := reps1 r
    split at h
    · rename_i acc q1
      split at h
      · rename_i z
        obtain ⟨vs, hx, hk, rr⟩ := k.obj n a _ ha q1
        have kr : KVR K W acc vs := ⟨hk, rr⟩
        obtain ⟨b, ws, rfl, h3, h4, h5⟩ := h1
        have kr2 : KVR K W (ks.zip es) ws := KVR.zip h4 h5
        have ne : a ≠ b := fun e => by
          have := (k.sep n a _ ha q1).no rfl
          rw [e, h3] at this
          cases this
        refine ⟨a, b, vs, ws, rfl, rfl, ne, hx, k.frz _ _ h3, by rw [kr.len, kr2.len]; exact z, post_write (d := .non) k ha (obd (KVR.merge kr2 kr)) rfl h⟩
      · exact h.elim
    · exact h.elim
  · exact h.elim
end Tg

set_option Elab.async false
set_option linter.all false
set_option maxRecDepth 100000
set_option maxHeartbeats 4000000
/-! TgHeadT: the small head where lambdas are made: the tables of their codes are told, too. -/
namespace Tg
open PySem PySem.Spec PyProof.Rows L2
def gaM (K : PySem.W.Frag) : Str → Option Value := fun y => some (.ref (He.ga K y))
def isTb : Option Obj → Bool
  | some ⟨.none, none, .fields vs, sl⟩ => vs.isEmpty && sl.isEmpty
  | _ => false
theorem isTb_ok {o : Option Obj} (h : isTb o = true) : o = some { cls := .none, data := .fields #[] } := by
  unfold isTb at h
  split at h
  · rename_i vs sl
    obtain ⟨h1, h2⟩ := Bool.and_eq_true_iff.mp h
    rw [Array.isEmpty_iff.mp h1, Array.isEmpty_iff.mp h2]
  · cases h
def asT (g : Addr → Option Obj) : List Addr := (asX g).filter fun a => !isTb (g a)
def isI : Value → Bool
  | .int _ _ => true
  | _ => false
def isS : Value → Bool
  | .str _ _ => true
  | _ => false
def isB : Value → Bool
  | .bool _ => true
  | _ => false
def codeHB (K : PySem.W.Frag) (c P : Addr) : Bool := match K.lookup c with
  | some ⟨.type t, _, .fields vs, _⟩ => decide (t = "code") && (decide (vs[11]? = some (.ref P)) && (decide (vs.getD 11 .none = .ref P) && (isS (vs.getD 18 .none) && (isI (vs.getD 7 .none) && (isB (vs.getD 9 .none) && (isI (vs.getD 10 .none) && !decide (c = P)))))))
  | _ => false
theorem codeHB_ok {K : PySem.W.Frag} {h : Heap} {c P : Addr} (X : K.In h) (q : codeHB K c P = true) : PySem.W.CodeHd h c P := by
  unfold codeHB at q
  split at q
  · rename_i t od vs sl lo
    obtain ⟨q1, q⟩ := Bool.and_eq_true_iff.mp q
    obtain ⟨q2, q⟩ := Bool.and_eq_true_iff.mp q
    obtain ⟨q3, q⟩ := Bool.and_eq_true_iff.mp q
    obtain ⟨q4, q⟩ := Bool.and_eq_true_iff.mp q
    obtain ⟨q5, q⟩ := Bool.and_eq_true_iff.mp q
    obtain ⟨q6, q⟩ := Bool.and_eq_true_iff.mp q
    obtain ⟨q7, q8⟩ := Bool.and_eq_true_iff.mp q
    have iS : ∀ v : Value, isS v = true → ∃ a b, v = .str a b := fun v h => by
      cases v <;> first | exact ⟨_, _, rfl⟩ | cases h
    have iI : ∀ v : Value, isI v = true → ∃ a b, v = .int a b := fun v h => by
      cases v <;> first | exact ⟨_, _, rfl⟩ | cases h
    have iB : ∀ v : Value, isB v = true → ∃ a, v = .bool a := fun v h => by
      cases v <;> first | exact ⟨_, rfl⟩ | cases h
    obtain ⟨f1, f2, e4⟩ := iS _ q4
    obtain ⟨g1, g2, e5⟩ := iI _ q5
    obtain ⟨b1, e6⟩ := iB _ q6
    obtain ⟨h1, h2, e7⟩ := iI _ q7
    exact ⟨_, vs, f1, f2, g1, g2, b1, h1, h2, X _ _ lo, by rw [of_decide_eq_true q1], rfl, of_decide_eq_true q2, of_decide_eq_true q3, e4, e5, e6, e7, by simpa using q8⟩
  · cases q
/-- the tables of the defs named xs -/
def tabE (g : Addr → Option Obj) (K : PySem.W.Frag) (x : Str) : Bool := match codeA K (gaM K) x, tabA K (gaM K) x with
  | some c, some P => isTb (g P) && ((K.lookup P).isNone && codeHB K c P)
  | _, _ => false
abbrev AlT : Type := AlX × Bool
def obsTG (fc : List Fc) (fn : List He.FnD) (ts : List (Str × List Str)) (xs : List Str) (g : Addr → Option Obj) : AlT := (obsX fc fn ts (He.frG g (asT g)), xs.all fun x => tabE g (He.frG g (asT g)) x)
def TabIn (xs : List Str) (K : PySem.W.Frag) (hp : Heap) : Prop := ∀ x ∈ xs, ∃ c P, codeA K (gaM K) x = some c ∧ tabA K (gaM K) x = some P ∧ hp.get? P = some { cls := .none, data := .fields #[] } ∧ K.lookup P = none ∧ codeHB K c P = true
theorem tabIn_of {xs : List Str} {K : PySem.W.Frag} {hp : Heap} (h : (xs.all fun x => tabE hp.get? K x) = true) : TabIn xs K hp := fun x hx => by
  have q := List.all_eq_true.mp h x hx
  unfold tabE at q
  split at q
  · rename_i c P e1 e2
    obtain ⟨q1, q2⟩ := Bool.and_eq_true_iff.mp q
    obtain ⟨q3, q4⟩ := Bool.and_eq_true_iff.mp q2
    exact ⟨c, P, e1, e2, isTb_ok q1, Option.isNone_iff_eq_none.mp q3, q4⟩
  · cases q
def hookT (fc : List Fc) (fn : List He.FnD) (ts : List (Str × List Str)) (xs : List Str) : PySem.W.Hook where
  α := AlT
  obs := fun t => obsTG fc fn ts xs t.heap.get?
  val := fun v => (valX fn ts v, true)
  says := fun v hp => ∃ F : PySem.W.Frag, F.In hp ∧ SaysX fc fn ts v F ∧ TabIn xs F hp
  of := fun _ _ q => ⟨_, He.frG_in, congrArg Prod.fst q, tabIn_of (congrArg Prod.snd q)⟩
  keeps := fun _ _ _ ⟨F, hF, q, t⟩ z => ⟨F, PySem.W.Frag.In.keeps hF z, q, fun x hx => by
    obtain ⟨c, P, e1, e2, e3, e4⟩ := t x hx
    exact ⟨c, P, e1, e2, z _ _ e3, e4⟩⟩
theorem obsT_eq {fc : List Fc} {fn : List He.FnD} {ts : List (Str × List Str)} {xs : List Str} (s : PySem.W.SharedT) : obsTG fc fn ts xs (HandSHeadRun.getT s) = (hookT fc fn ts xs).obs s.abs := by
  have q : HandSHeadRun.getT s = s.abs.heap.get? := funext fun a => HandSHeadRun.getT_eq s a
  show _ = obsTG fc fn ts xs s.abs.heap.get?
  rw [q]
def tabU (xs : List Str) : Fc := fun K => xs.all fun x => xs.all fun y => decide (x = y) || !decide (tabA K (gaM K) x = tabA K (gaM K) y)
/-- the tables' code objects and tables -/
def csOf (xs : List Str) (K : PySem.W.Frag) : List (Addr × Addr) := xs.filterMap fun x => match codeA K (gaM K) x, tabA K (gaM K) x with
  | some c, some P => some (c, P)
  | _, _ => none
theorem csOf_mem {xs : List Str} {K : PySem.W.Frag} {p : Addr × Addr} (h : p ∈ csOf xs K) : ∃ x ∈ xs, codeA K (gaM K) x = some p.1 ∧ tabA K (gaM K) x = some p.2 := by
  obtain ⟨x, hx, e⟩ := List.mem_filterMap.mp h
  split at e
  · rename_i c P e1 e2
    cases e
    exact ⟨x, hx, e1, e2⟩
  · cases e
section
variable {K : PySem.W.Frag} {h : Heap} {mg : Str → Option Value}
theorem codeA_ga {x : Str} (hm : mg x = some (.ref (He.ga K x))) : codeA K mg x = codeA K (gaM K) x := by
  unfold codeA
  rw [hm]
  rfl
theorem tabA_ga {x : Str} (hm : mg x = some (.ref (He.ga K x))) : tabA K mg x = tabA K (gaM K) x := by
  unfold tabA
  rw [codeA_ga hm]
theorem tabA_none {x : Str} (hm : mg x = none) : tabA K mg x = none := by
  unfold tabA codeA
  rw [hm]
theorem lamT_of {xs : List Str} {x : Str} (X : K.In h) (T : TabIn xs K h) (u : tabU xs K = true) (hx : x ∈ xs) (hl : x ∈ lamDefs) (hg : ∀ y ∈ xs, mg y = some (.ref (He.ga K y))) (hn : ∀ y ∈ lamDefs, y ∉ xs → mg y = none) : LamT K mg x := by
  obtain ⟨c, P, e1, e2, _⟩ := T x hx
  refine ⟨hl, c, P, by rw [codeA_ga (hg x hx), e1], by rw [tabA_ga (hg x hx), e2], fun y hy e => ?_⟩
  by_cases q : y ∈ xs
  · rw [tabA_ga (hg y q)] at e
    have z := List.all_eq_true.mp (List.all_eq_true.mp u x hx) y q
    rw [e2, e] at z
    simp at z
    exact z.symm
  · rw [tabA_none (hn y hy q)] at e
    cases e
theorem csOf_has {xs : List Str} (T : TabIn xs K h) (hg : ∀ y ∈ xs, mg y = some (.ref (He.ga K y))) (hn : ∀ y ∈ lamDefs, y ∉ xs → mg y = none) : ∀ x ∈ lamDefs, ∀ P, tabA K mg x = some P → ∃ c, codeA K mg x = some c ∧ (c, P) ∈ csOf xs K := fun x hx P e => by
  by_cases q : x ∈ xs
  · obtain ⟨c, P', e1, e2, _⟩ := T x q
    rw [tabA_ga (hg x q), e2] at e
    cases e
    refine ⟨c, by rw [codeA_ga (hg x q), e1], List.mem_filterMap.mpr ⟨x, q, ?_⟩⟩
    rw [e1, e2]
  · rw [tabA_none (hn x hx q)] at e
    cases e
end
/-- the law, over such a head -/
theorem walkT {l : PySem.W.OpenLaw} {k : Nat} {q : Program} {loose : List Str} {XP : (Str → Option Value) → Heap → Prop} {YP : World → Heap → Prop} {d : DefRec} {p : Str} (hn : l.most = some 63) (hdf : d.params.defaults = []) (hr : Room k callerA)
    (F : ∀ (v : World) (mg : Str → Option Value) (fa : Addr) (hp : Heap), YP v hp → hp.Ns mainGlobals mg → mg d.name = some (.ref fa) →
      ∃ (K : PySem.W.Frag) (xs : List Str) (fd : FuncData), K.In hp ∧ TabIn xs K hp ∧ (∀ (s : Shared) (u : Value), BindsTo s fd ⟨[u], []⟩ [(p, u)]) ∧
        ∀ base : Heap, K.In base → base.Ns mainGlobals mg → (∀ z ∈ csOf xs K, LamX.TabB base mg z.1 z.2) → FnOk l.prog v K mg base (L2.CX l.prog v) k fa fd [p] (spLawT K (csOf xs K))) :
    PySem.W.WalkO q loose XP YP l.row.toRowW d [] (fun f vs => PySem.call f vs) := by
  refine LamX.walk_ofTsE (CX := fun w => L2.CX l.prog w) (x := p) (n := 63) hn (by decide) hdf hr (fun v mg fa hp Y G hm => ?_) fun w H s e s' z => cx_none z
  obtain ⟨K, xs, fd, KX, T, hb, hF⟩ := F v mg fa hp Y G hm
  have get : ∀ z ∈ csOf xs K, hp.get? z.2 = some { cls := .none, data := .fields #[] } ∧ K.lookup z.2 = none ∧ PySem.W.CodeHd hp z.1 z.2 := fun z hz => by
    obtain ⟨x, hx, e1, e2⟩ := csOf_mem hz
    obtain ⟨c, P, f1, f2, f3, f4, f5⟩ := T x hx
    rw [e1] at f1
    rw [e2] at f2
    cases f1
    cases f2
    exact ⟨f3, f4, codeHB_ok KX f5⟩
  exact ⟨K, KX, fd, csOf xs K, spLawT K (csOf xs K), fun z hz => (get z hz).1, fun z hz => (get z hz).2.1, fun z hz => (get z hz).2.2, hb, fun H a ns hl _ ht hS => ⟨a, ns, rfl, hS, hl, ht, fun _ => rfl⟩, hF⟩
/-! ### _law_word's classes -/
def wordF : Fc := fun K => wCls.all fun c => He.eqO (PySem.W.findIn K (.ref (He.ga K c)) "__getattribute__") (some (some (.builtin "BaseException.__getattribute__"))) && (He.eqO (PySem.W.findIn K (.ref (He.ga K c)) "__getattr__") (some none) &&
  (decide (PySem.W.subIn K (.ref (He.ga K c)) (.type "BaseException") = some true) && (PySem.W.hasDictIn K (He.ga K c) && (He.eqO (PySem.W.findIn K (.ref (He.ga K c)) "__class__") (some (some (.builtin "object.__class__"))) &&
  (decide (PySem.W.mroIn K (He.ga K c) (.type "object") = some true) && (decide (PySem.W.exmOne K (.ref (He.ga K c)) (.ref (He.ga K "TagError")) = some true) &&
  ((wCls.all fun c' => decide (PySem.W.kitOne K (.ref (He.ga K c)) (.ref (He.ga K c')) = some (decide (c = c')))) && (decide (PySem.W.kitOne K (.ref (He.ga K c)) (.type "ValueError") = some true) &&
  (He.eqO (PySem.W.findIn K (.ref (He.ga K c)) "row") (some none) && (He.eqO (PySem.W.findIn K (.ref (He.ga K c)) "place") (some none) && He.eqO (PySem.W.findIn K (.ref (He.ga K c)) "line") (some none)))))))))))
def wordF2 : Fc := fun K => He.eqO (PySem.W.specialIn K (.builtin "object.__class__") "__get__") (some (some (.builtin "getset_descriptor.__get__"))) && decide (PySem.W.takesIn K (.builtin "object.__class__") = some true)
theorem wordC_of {K : PySem.W.Frag} {h : Heap} {mg : Str → Option Value} (X : K.In h) (G : h.Ns mainGlobals mg) (a : ∀ c ∈ ("TagError" : Str) :: wCls, fa (.glo c) K = true) (f : wordF K = true) (f2 : wordF2 K = true) : WordC K mg := by
  have g : ∀ c ∈ ("TagError" : Str) :: wCls, mg c = some (.ref (He.ga K c)) := fun c hc => He.glo_ok X G (a c hc)
  obtain ⟨y1, y2⟩ := Bool.and_eq_true_iff.mp (show (_ && _) = true from f2)
  refine { cls := ⟨_, g _ List.mem_cons_self, fun c hc => ⟨_, g _ (List.mem_cons_of_mem _ hc), ?_⟩⟩ }
  have z := List.all_eq_true.mp f c hc
  obtain ⟨z1, z⟩ := Bool.and_eq_true_iff.mp z
  obtain ⟨z2, z⟩ := Bool.and_eq_true_iff.mp z
  obtain ⟨z3, z⟩ := Bool.and_eq_true_iff.mp z
  obtain ⟨z4, z⟩ := Bool.and_eq_true_iff.mp z
  obtain ⟨z5, z⟩ := Bool.and_eq_true_iff.mp z
  obtain ⟨z6, z⟩ := Bool.and_eq_true_iff.mp z
  obtain ⟨z7, z⟩ := Bool.and_eq_true_iff.mp z
  obtain ⟨z8, z⟩ := Bool.and_eq_true_iff.mp z
  obtain ⟨z9, z⟩ := Bool.and_eq_true_iff.mp z
  obtain ⟨z10, z⟩ := Bool.and_eq_true_iff.mp z
  obtain ⟨z11, z12⟩ := Bool.and_eq_true_iff.mp z
  refine ⟨⟨He.eqO_ok z1, He.eqO_ok z2, of_decide_eq_true z3, z4, He.eqO_ok z5, He.eqO_ok y1, of_decide_eq_true y2, of_decide_eq_true z6⟩, of_decide_eq_true z7, fun c' hc' => ?_, of_decide_eq_true z9, He.eqO_ok z10, He.eqO_ok z11, He.eqO_ok z12⟩
  rw [clA_of (g _ (List.mem_cons_of_mem _ hc'))]
  exact of_decide_eq_true (List.all_eq_true.mp z8 c' hc')
def wordG : Fc := fun K => (("TagError" : Str) :: wCls).all fun c => fa (.glo c) K
def lamG (xs : List Str) : Fc := fun K => xs.all fun x => fa (.glo x) K
def lamN (xs : List Str) : Fc := fun K => lamDefs.all fun y => decide (y ∈ xs) || fa (.free y) K
section
variable {K : PySem.W.Frag} {h : Heap} {mg : Str → Option Value} {xs : List Str}
theorem lamG_ok (X : K.In h) (G : h.Ns mainGlobals mg) (f : lamG xs K = true) : ∀ y ∈ xs, mg y = some (.ref (He.ga K y)) := fun y hy => He.glo_ok X G (List.all_eq_true.mp f y hy)
theorem lamN_ok (X : K.In h) (G : h.Ns mainGlobals mg) (f : lamN xs K = true) : ∀ y ∈ lamDefs, y ∉ xs → mg y = none := fun y hy hn => by
  have z := List.all_eq_true.mp f y hy
  rcases Bool.or_eq_true_iff.mp z with z | z
  · exact absurd (of_decide_eq_true z) hn
  · exact He.free_ok X G z
end
end Tg

set_option Elab.async false
set_option linter.all false
set_option maxRecDepth 100000
set_option maxHeartbeats 4000000
namespace K19
open PySem Tg
def fuelN : Nat := 1000000
def g_BOXES : D := (.int (8))
def g_FIGURES : D := (.str "0123456789")
def tb_FORMS : List (Str × Str) := [("put", "bn"), ("move", "bb"), ("add", "bbb"), ("take", "bbb"), ("less", "bbb"), ("same", "bbb"), ("is", "bb"), ("get", "bbo"), ("set", "bob"), ("narrow", "bbb"), ("fewer", "bbt"), ("gate", "bbg"), ("enter", "b"), ("room", "b"), ("shut", "b"), ("say", "b"), ("go", "r"), ("if", "br"), ("end", "")]
def g_HALF : D := (.int (10000))
def g_MOST_FIGURES : D := (.int (5))
def g_MOST_ROWS : D := (.int (60))
def g_NONE : D := (.str "-")
def g_OFFSET : D := (.int (64))
def g_RIGHTS : D := (.str "ghls")
/- are_rights: 0:part 1:sign -/
def b_are_rights : MS :=
  (mRet (mAndV (mUn (isiD "str") (mv 0)) (mBin eqD (mv 0) (mMt "str" joinD (mc (.str "")) (mCons (mLc (miAny (mc g_RIGHTS)) (gmN 1) (mTb (mBin inD (mv 1) (mv 0))) (mv 1) [1] finF) mNil)))))
def m_are_rights : List D → AH → R D := mFun 1 2 b_are_rights
/- is_number: 0:word -/
def b_is_number : MS :=
  (mRet (mAndV (mUn (isiD "int") (mv 0)) (mNotV (mUn (isiD "bool") (mv 0)))))
def m_is_number : List D → AH → R D := mFun 1 1 b_is_number
/- is_within: 0:number 1:low 2:high -/
def b_is_within : MS :=
  (mRet (mAndV (mCall m_is_number (mCons (mv 0) mNil)) (mChain leD ltD (mv 1) (mv 0) (mv 2))))
def m_is_within : List D → AH → R D := mFun 3 3 b_is_within
/- is_part: 0:part 1:sort 2:rows 3:bounds -/
def b_is_part : MS :=
  (mSeq (mIfS (mTb (mBin eqD (mv 1) (mc (.str "t")))) (mRet (mCall m_are_rights (mCons (mv 0) mNil))) mNx)
  (mSeq (mAsg (mDct (mPCons (mc (.str "b")) (mTup (mCons (mc (.int (0))) (mCons (mc g_BOXES) mNil))) (mPCons (mc (.str "n")) (mTup (mCons (mBin subD (mc (.int (0))) (mc g_HALF)) (mCons (mc g_HALF) mNil))) (mPCons (mc (.str "o")) (mTup (mCons (mBin subD (mc (.int (1))) (mc g_OFFSET)) (mCons (mc g_OFFSET) mNil))) (mPCons (mc (.str "g")) (mTup (mCons (mc (.int (0))) (mCons (mBin addD (mv 2) (mc (.int (1)))) mNil))) (mPCons (mc (.str "r")) (mTup (mCons (mc (.int (0))) (mCons (mv 2) mNil))) mPNil)))))) (gmN 3))
  (mRet (mCall m_is_within (mCons (mv 0) (mCons (mBin ixD (mBin ixD (mv 3) (mv 1)) (mc (.int (0)))) (mCons (mBin ixD (mBin ixD (mv 3) (mv 1)) (mc (.int (1)))) mNil)))))))
def m_is_part : List D → AH → R D := mFun 3 4 b_is_part
/- is_row: 0:row 1:rows 2:form 3:k -/
def b_is_row : MS :=
  (mSeq (mIfS (mOr (mNot (mTb (mUn (isiD "tuple") (mv 0)))) (mOr (mTb (mBin eqD (mv 0) (mTup mNil))) (mOr (mNot (mTb (mUn (isiD "str") (mBin ixD (mv 0) (mc (.int (0))))))) (mTb (mUn (kninD tb_FORMS) (mBin ixD (mv 0) (mc (.int (0))))))))) (mRet (mc (.bl false))) mNx)
  (mSeq (mAsg (mUn (kixD tb_FORMS) (mBin ixD (mv 0) (mc (.int (0))))) (gmN 2))
  (mSeq (mIfS (mTb (mBin neD (mCall lenD (mCons (mv 0) mNil)) (mBin addD (mCall lenD (mCons (mv 2) mNil)) (mc (.int (1)))))) (mRet (mc (.bl false))) mNx)
  (mRet (mBin eqD (mLc (mRng1 (mCons (mCall lenD (mCons (mv 2) mNil)) mNil)) (gmN 3) (mNot (mTb (mCall m_is_part (mCons (mBin ixD (mv 0) (mBin addD (mv 3) (mc (.int (1))))) (mCons (mBin ixD (mv 2) (mv 3)) (mCons (mv 1) mNil)))))) (mv 3) [3] finF) (mLst mNil))))))
def m_is_row : List D → AH → R D := mFun 2 4 b_is_row
/- need_program: 0:program 1:number -/
def b_need_program : MS :=
  (mSeq (mIfS (mOr (mNot (mTb (mUn (isiD "tuple") (mv 0)))) (mTb (mBin eqD (mv 0) (mTup mNil)))) mNever mNx)
  (mFor (mRng1 (mCons (mCall lenD (mCons (mv 0) mNil)) mNil)) (gmN 1) (mIfS (mOr (mTb (mBin geD (mv 1) (mc g_MOST_ROWS))) (mNot (mTb (mCall m_is_row (mCons (mBin ixD (mv 0) (mv 1)) (mCons (mCall lenD (mCons (mv 0) mNil)) mNil)))))) mNever mNx)))
def m_need_program : List D → AH → R D := mFun 1 2 b_need_program
/- word_of: 0:part -/
def b_word_of : MS :=
  (mRet (mIf (mTb (mBin eqD (mv 0) (mc (.str "")))) (mc g_NONE) (mCall strD (mCons (mv 0) mNil))))
def m_word_of : List D → AH → R D := mFun 1 1 b_word_of
/- written: 0:program 1:row 2:part -/
def b_written : MS :=
  (mSeq (mDrop (mCall m_need_program (mCons (mv 0) mNil)))
  (mRet (mMt "str" joinD (mc (.str "\n")) (mCons (mLc (miAny (mv 0)) (gmN 1) mYes (mMt "str" joinD (mc (.str " ")) (mCons (mLc (miAny (mv 1)) (gmN 2) mYes (mCall m_word_of (mCons (mv 2) mNil)) [2] finF) mNil)) [1] finF) mNil))))
def m_written : List D → AH → R D := mFun 1 3 b_written
/- _law_taken: 0:_law_row_here 1:_law_many 2:_law_found 3:_law_cell -/
def b__law_taken : MS :=
  (mSeq (mIfS (mTb (mBin gtD (mBin ixD (mv 0) (mc (.int (3)))) (mc (.int (0))))) (mSeq (mAsg (mBin modD (mBin ixD (mv 0) (mc (.int (3)))) (mv 1)) (gmN 2))
  (mSeq (mSubS (mv 0) (mc (.int (3))) (mBin fdivD (mBin ixD (mv 0) (mc (.int (3)))) (mv 1)))
  (mRet (mv 2)))) mNx)
  (mSeq (mSubS (mv 0) (mc (.int (1))) (mBin addD (mBin ixD (mv 0) (mc (.int (1)))) (mc (.int (1)))))
  (mSeq (mIfS (mTb (mBin gtD (mBin ixD (mv 0) (mc (.int (1)))) (mCall lenD (mCons (mBin ixD (mv 0) (mc (.int (0)))) mNil)))) (mSeq (mSubS (mv 0) (mc (.int (2))) (mBin modD (mBin addD (mBin mulD (mBin ixD (mv 0) (mc (.int (2)))) (mc (.int (48271)))) (mc (.int (11)))) (mc (.int (2147483647)))))
  (mRet (mBin modD (mBin fdivD (mBin ixD (mv 0) (mc (.int (2)))) (mc (.int (7)))) (mv 1)))) mNx)
  (mSeq (mAsg (mBin ixD (mBin ixD (mv 0) (mc (.int (0)))) (mBin subD (mBin ixD (mv 0) (mc (.int (1)))) (mc (.int (1))))) (gmN 3))
  (mSeq (mSubS (mv 0) (mc (.int (2))) (mBin modD (mBin addD (mBin addD (mBin mulD (mBin ixD (mv 0) (mc (.int (2)))) (mc (.int (48271)))) (mv 3)) (mc (.int (11)))) (mc (.int (2147483647)))))
  (mSeq (mIfS (mTb (mBin geD (mv 3) (mBin powD (mc (.int (10))) (mc (.int (18)))))) (mSubS (mv 0) (mc (.int (3))) (mBin fdivD (mv 3) (mv 1))) mNx)
  (mRet (mBin modD (mv 3) (mv 1)))))))))
def m__law_taken : List D → AH → R D := mFun 2 4 b__law_taken
/- _law_number: 0:_law_row_here 1:_law_way -/
def b__law_number : MS :=
  (mSeq (mAsg (mCall m__law_taken (mCons (mv 0) (mCons (mc (.int (6))) mNil))) (gmN 1))
  (mSeq (mIfS (mTb (mBin ltD (mv 1) (mc (.int (4))))) (mRet (mBin ixD (mLst (mCons (mCall m__law_taken (mCons (mv 0) (mCons (mc (.int (5))) mNil))) (mCons (mCall m__law_taken (mCons (mv 0) (mCons (mc (.int (70))) mNil))) (mCons (mBin subD (mCall m__law_taken (mCons (mv 0) (mCons (mc (.int (40))) mNil))) (mc (.int (20)))) (mCons (mc (.int (1))) mNil))))) (mv 1))) mNx)
  (mRet (mBin ixD (mLst (mCons (mBin subD (mCall m__law_taken (mCons (mv 0) (mCons (mc (.int (20000))) mNil))) (mc (.int (10000)))) (mCons (mBin ixD (mLst (mCons (mc (.int (9999))) (mCons (mBin subD (mc (.int (0))) (mc (.int (10000)))) mNil))) (mCall m__law_taken (mCons (mv 0) (mCons (mc (.int (2))) mNil)))) mNil))) (mBin subD (mv 1) (mc (.int (4))))))))
def m__law_number : List D → AH → R D := mFun 1 2 b__law_number
/- _law_rights: 0:_law_row_here 1:_law_often 2:_law_sign -/
def b__law_rights : MS :=
  (mSeq (mAsg (mBin ixD (mLst (mCons (mc (.int (4))) (mCons (mc (.int (9))) (mCons (mc (.int (2))) mNil)))) (mCall m__law_taken (mCons (mv 0) (mCons (mc (.int (3))) mNil)))) (gmN 1))
  (mRet (mMt "str" joinD (mc (.str "")) (mCons (mLc (miAny (mc (.str "ghls"))) (gmN 2) (mTb (mBin gtD (mCall m__law_taken (mCons (mv 0) (mCons (mv 1) mNil))) (mc (.int (0))))) (mv 2) [2] finF) mNil))))
def m__law_rights : List D → AH → R D := mFun 1 3 b__law_rights
/- _law_row: 0:_law_row_here 1:_law_at 2:_law_rows 3:_law_words 4:_law_word_here 5:_law_r 6:_law_s 7:_law_t 8:_law_goal 9:_law_far 10:_law_some -/
def b__law_row : MS :=
  (mSeq (mAsg (mLst (mCons (mc (.str "put")) (mCons (mc (.str "move")) (mCons (mc (.str "add")) (mCons (mc (.str "take")) (mCons (mc (.str "less")) (mCons (mc (.str "same")) (mCons (mc (.str "is")) (mCons (mc (.str "get")) (mCons (mc (.str "get")) (mCons (mc (.str "set")) (mCons (mc (.str "set")) (mCons (mc (.str "narrow")) (mCons (mc (.str "fewer")) (mCons (mc (.str "gate")) mNil))))))))))))))) (gmN 3))
  (mSeq (mAsg (mBin addD (mv 3) (mLst (mCons (mc (.str "enter")) (mCons (mc (.str "room")) (mCons (mc (.str "room")) (mCons (mc (.str "shut")) (mCons (mc (.str "say")) (mCons (mc (.str "say")) (mCons (mc (.str "go")) (mCons (mc (.str "if")) (mCons (mc (.str "if")) (mCons (mc (.str "end")) mNil)))))))))))) (gmN 3))
  (mSeq (mAsg (mBin ixD (mv 3) (mCall m__law_taken (mCons (mv 0) (mCons (mc (.int (24))) mNil)))) (gmN 4))
  (mSeq (mPar [5, 6, 7] (mCons (mCall m__law_taken (mCons (mv 0) (mCons (mc (.int (8))) mNil))) (mCons (mCall m__law_taken (mCons (mv 0) (mCons (mc (.int (8))) mNil))) (mCons (mCall m__law_taken (mCons (mv 0) (mCons (mc (.int (8))) mNil))) mNil))))
  (mSeq (mAsg (mBin addD (mv 1) (mCall m__law_taken (mCons (mv 0) (mCons (mBin subD (mv 2) (mv 1)) mNil)))) (gmN 8))
  (mSeq (mIfS (mTb (mBin eqD (mCall m__law_taken (mCons (mv 0) (mCons (mc (.int (5))) mNil))) (mc (.int (4))))) (mAsg (mCall m__law_taken (mCons (mv 0) (mCons (mv 2) mNil))) (gmN 8)) mNx)
  (mSeq (mIfS (mTb (mBin inD (mv 4) (mTup (mCons (mc (.str "add")) (mCons (mc (.str "take")) (mCons (mc (.str "less")) (mCons (mc (.str "same")) (mCons (mc (.str "narrow")) mNil)))))))) (mRet (mTup (mCons (mv 4) (mCons (mv 5) (mCons (mv 6) (mCons (mv 7) mNil)))))) mNx)
  (mSeq (mIfS (mTb (mBin inD (mv 4) (mTup (mCons (mc (.str "get")) (mCons (mc (.str "set")) mNil))))) (mSeq (mAsg (mBin ixD (mLst (mCons (mc (.int (0))) (mCons (mc (.int (0))) (mCons (mBin subD (mCall m__law_taken (mCons (mv 0) (mCons (mc (.int (5))) mNil))) (mc (.int (2)))) (mCons (mBin subD (mCall m__law_taken (mCons (mv 0) (mCons (mc (.int (127))) mNil))) (mc (.int (63)))) mNil))))) (mCall m__law_taken (mCons (mv 0) (mCons (mc (.int (4))) mNil)))) (gmN 9))
  (mRet (mIf (mTb (mBin eqD (mv 4) (mc (.str "get")))) (mTup (mCons (mv 4) (mCons (mv 5) (mCons (mv 6) (mCons (mv 9) mNil))))) (mTup (mCons (mv 4) (mCons (mv 6) (mCons (mv 9) (mCons (mv 7) mNil)))))))) mNx)
  (mSeq (mAsg (mDctN (mPCons (mc (.str "put")) (mTup (mCons (mv 5) (mCons (mCall m__law_number (mCons (mv 0) mNil)) mNil))) (mPCons (mc (.str "fewer")) (mTup (mCons (mv 5) (mCons (mv 6) (mCons (mCall m__law_rights (mCons (mv 0) mNil)) mNil)))) (mPCons (mc (.str "go")) (mTup (mCons (mv 8) mNil)) (mPCons (mc (.str "if")) (mTup (mCons (mv 6) (mCons (mv 8) mNil))) (mPCons (mc (.str "end")) (mTup mNil) mPNil)))))) (gmN 10))
  (mSeq (mDrop (mMt "dict" updD (mv 10) (mCons (mLst (mCons (mTup (mCons (mc (.str "gate")) (mCons (mTup (mCons (mv 5) (mCons (mv 6) (mCons (mCall m__law_taken (mCons (mv 0) (mCons (mBin addD (mv 2) (mc (.int (1)))) mNil))) mNil)))) mNil))) (mCons (mTup (mCons (mc (.str "move")) (mCons (mTup (mCons (mv 5) (mCons (mv 6) mNil))) mNil))) (mCons (mTup (mCons (mc (.str "is")) (mCons (mTup (mCons (mv 5) (mCons (mv 6) mNil))) mNil))) mNil)))) mNil)))
  (mRet (mBin addD (mTup (mCons (mv 4) mNil)) (mGet2 (mv 10) (mv 4) (mTup (mCons (mv 6) mNil)))))))))))))))
def m__law_row : List D → AH → R D := mFun 3 11 b__law_row
/- _law_program: 0:_law_row_here 1:_law_most 2:_law_rows 3:_law_found 4:_law_at 5:_law_one -/
def b__law_program : MS :=
  (mSeq (mAsg (mBin addD (mc (.int (1))) (mCall m__law_taken (mCons (mv 0) (mCons (mv 1) mNil)))) (gmN 2))
  (mSeq (mAsg (mLc (mRng1 (mCons (mv 2) mNil)) (gmN 4) mYes (mCall m__law_row (mCons (mv 0) (mCons (mv 4) (mCons (mv 2) mNil)))) [4] finF) (gmN 3))
  (mRet (mCall tupD (mCons (mLc (miAny (mv 3)) (gmN 5) mYes (mIf (mAnd (mTb (mBin eqD (mv 5) (mTup (mCons (mc (.str "end")) mNil)))) (mTb (mBin gtD (mCall m__law_taken (mCons (mv 0) (mCons (mc (.int (4))) mNil))) (mc (.int (0)))))) (mTup (mCons (mc (.str "say")) (mCons (mc (.int (1))) mNil))) (mv 5)) [5] finF) mNil)))))
def m__law_program : List D → AH → R D := mFun 2 6 b__law_program
/- _law_spoilt: 0:_law_row_here 1:_law_text 2:_law_way 3:_law_at 4:_law_signs 5:_law_sign 6:_law_lines 7:_law_k 8:_law_words 9:_law_j 10:_law_odd -/
def b__law_spoilt : MS :=
  (mSeq (mAsg (mCall m__law_taken (mCons (mv 0) (mCons (mc (.int (9))) mNil))) (gmN 2))
  (mSeq (mAsg (mCall m__law_taken (mCons (mv 0) (mCons (mBin addD (mCall lenD (mCons (mv 1) mNil)) (mc (.int (1)))) mNil))) (gmN 3))
  (mSeq (mAsg (mc (.str "0123456789 \n-+_.:,;!?#&()*/<=>\x40[]^{|}~$abcdefghijklmnopqrstuvwxyzABCDEFGHIJKLMNOPQRSTUVWXYZ")) (gmN 4))
  (mSeq (mAsg (mBin ixD (mv 4) (mCall m__law_taken (mCons (mv 0) (mCons (mCall lenD (mCons (mv 4) mNil)) mNil)))) (gmN 5))
  (mSeq (mIfS (mTb (mBin ltD (mv 2) (mc (.int (3))))) (mRet (mBin addD (mBin addD (mSl (mv 1) mNoPart (mPart (mv 3))) (mBin ixD (mLst (mCons (mv 5) (mCons (mc (.str "")) (mCons (mv 5) mNil)))) (mv 2))) (mSl (mv 1) (mPart (mBin addD (mv 3) (mCall intD (mCons (mBin gtD (mv 2) (mc (.int (0)))) mNil)))) mNoPart))) mNx)
  (mSeq (mAsg (mMt "str" splitD (mv 1) (mCons (mc (.str "\n")) mNil)) (gmN 6))
  (mSeq (mAsg (mCall m__law_taken (mCons (mv 0) (mCons (mCall lenD (mCons (mv 6) mNil)) mNil))) (gmN 7))
  (mSeq (mIfS (mTb (mBin ltD (mv 2) (mc (.int (6))))) (mRet (mMt "str" joinD (mc (.str "\n")) (mCons (mBin ixD (mLst (mCons (mBin addD (mSl (mv 6) mNoPart (mPart (mv 7))) (mSl (mv 6) (mPart (mBin addD (mv 7) (mc (.int (1))))) mNoPart)) (mCons (mBin addD (mSl (mv 6) mNoPart (mPart (mBin addD (mv 7) (mc (.int (1)))))) (mSl (mv 6) (mPart (mv 7)) mNoPart)) (mCons (mBin addD (mSl (mv 6) (mPart (mv 7)) mNoPart) (mSl (mv 6) mNoPart (mPart (mv 7)))) mNil)))) (mBin subD (mv 2) (mc (.int (3))))) mNil))) mNx)
  (mSeq (mAsg (mMt "str" splitD (mBin ixD (mv 6) (mv 7)) (mCons (mc (.str " ")) mNil)) (gmN 8))
  (mSeq (mAsg (mCall m__law_taken (mCons (mv 0) (mCons (mCall lenD (mCons (mv 8) mNil)) mNil))) (gmN 9))
  (mSeq (mAsg (mLst (mCons (mc (.str "")) (mCons (mc (.str "0")) (mCons (mc (.str "00")) (mCons (mc (.str "07")) (mCons (mc (.str "7")) (mCons (mc (.str "8")) (mCons (mc (.str "-0")) (mCons (mc (.str "-1")) (mCons (mc (.str "63")) (mCons (mc (.str "64")) (mCons (mc (.str "-63")) (mCons (mc (.str "-64")) (mCons (mc (.str "9999")) (mCons (mc (.str "10000")) (mCons (mc (.str "-10000")) (mCons (mc (.str "-10001")) mNil))))))))))))))))) (gmN 10))
  (mSeq (mAsg (mBin addD (mv 10) (mLst (mCons (mc (.str "-")) (mCons (mc (.str "ghls")) (mCons (mc (.str "hg")) (mCons (mc (.str "g")) (mCons (mc (.str "gg")) (mCons (mc (.str "put")) (mCons (mc (.str "get")) (mCons (mc (.str "end")) (mCons (mc (.str "gate")) (mCons (mc (.str "100000")) mNil)))))))))))) (gmN 10))
  (mSeq (mAsg (mBin addD (mBin addD (mSl (mv 8) mNoPart (mPart (mv 9))) (mBin ixD (mLst (mCons (mLst mNil) (mCons (mBin mulD (mLst (mCons (mBin ixD (mv 8) (mv 9)) mNil)) (mc (.int (2)))) (mCons (mLst (mCons (mBin ixD (mv 10) (mCall m__law_taken (mCons (mv 0) (mCons (mc (.int (26))) mNil)))) mNil)) mNil)))) (mBin subD (mv 2) (mc (.int (6)))))) (mSl (mv 8) (mPart (mBin addD (mv 9) (mc (.int (1))))) mNoPart)) (gmN 8))
  (mRet (mMt "str" joinD (mc (.str "\n")) (mCons (mBin addD (mBin addD (mSl (mv 6) mNoPart (mPart (mv 7))) (mLst (mCons (mMt "str" joinD (mc (.str " ")) (mCons (mv 8) mNil)) mNil))) (mSl (mv 6) (mPart (mBin addD (mv 7) (mc (.int (1))))) mNoPart)) mNil))))))))))))))))
def m__law_spoilt : List D → AH → R D := mFun 2 11 b__law_spoilt
/- _law_forms: 0:_law_forms_here 1:_law_word_here -/
def b__law_forms : MS :=
  (mSeq (mAsg (mDctN (mPCons (mc (.str "put")) (mc (.str "bn")) (mPCons (mc (.str "get")) (mc (.str "bbo")) (mPCons (mc (.str "set")) (mc (.str "bob")) (mPCons (mc (.str "fewer")) (mc (.str "bbt")) (mPCons (mc (.str "gate")) (mc (.str "bbg")) (mPCons (mc (.str "go")) (mc (.str "r")) (mPCons (mc (.str "if")) (mc (.str "br")) (mPCons (mc (.str "end")) (mc (.str "")) mPNil))))))))) (gmN 0))
  (mSeq (mDrop (mMt "dict" updDD (mv 0) (mCons (mCall dictPD (mCons (mLc (miAny (mTup (mCons (mc (.str "add")) (mCons (mc (.str "take")) (mCons (mc (.str "less")) (mCons (mc (.str "same")) (mCons (mc (.str "narrow")) mNil))))))) (gmN 1) mYes (mTup (mCons (mv 1) (mCons (mc (.str "bbb")) mNil))) [1] finF) mNil)) mNil)))
  (mSeq (mDrop (mMt "dict" updDD (mv 0) (mCons (mCall dictPD (mCons (mBin addD (mLc (miAny (mTup (mCons (mc (.str "enter")) (mCons (mc (.str "room")) (mCons (mc (.str "shut")) (mCons (mc (.str "say")) mNil)))))) (gmN 1) mYes (mTup (mCons (mv 1) (mCons (mc (.str "b")) mNil))) [1] finF) (mLst (mCons (mTup (mCons (mc (.str "move")) (mCons (mc (.str "bb")) mNil))) (mCons (mTup (mCons (mc (.str "is")) (mCons (mc (.str "bb")) mNil))) mNil)))) mNil)) mNil)))
  (mRet (mv 0)))))
def m__law_forms : List D → AH → R D := mFun 0 2 b__law_forms
/- _law_part: 0:_law_word_here 1:_law_sort 2:_law_rows 3:_law_rights_here 4:_law_size 5:_law_number_here 6:_law_low 7:_law_high 8:_law_sign -/
def b__law_part : MS :=
  (mSeq (mIfS (mTb (mBin eqD (mv 1) (mc (.str "t")))) (mSeq (mAsg (mMt "str" joinD (mc (.str "")) (mCons (mLc (miAny (mc (.str "ghls"))) (gmN 8) (mTb (mBin inD (mv 8) (mv 0))) (mv 8) [8] finF) mNil)) (gmN 3))
  (mRet (mIf (mAnd (mTb (mBin inD (mv 0) (mTup (mCons (mv 3) (mCons (mc (.str "-")) mNil))))) (mTb (mBin neD (mv 0) (mc (.str ""))))) (mv 3) (mc .non)))) mNx)
  (mSeq (mAsg (mSl (mv 0) (mPart (mCall intD (mCons (mBin eqD (mSl (mv 0) mNoPart (mPart (mc (.int (1))))) (mc (.str "-"))) mNil))) mNoPart) (gmN 4))
  (mSeq (mIfS (mOr (mNot (mTb (mChain leD leD (mc (.int (1))) (mCall lenD (mCons (mv 4) mNil)) (mc (.int (5)))))) (mTb (mBin neD (mLc (miAny (mv 4)) (gmN 8) (mTb (mBin ninD (mv 8) (mc (.str "0123456789")))) (mv 8) [8] finF) (mLst mNil)))) (mRet (mc .non)) mNx)
  (mSeq (mAsg (mCall intD (mCons (mv 0) mNil)) (gmN 5))
  (mSeq (mAsg (mBin ixD (mDct (mPCons (mc (.str "b")) (mTup (mCons (mc (.int (0))) (mCons (mc (.int (7))) mNil))) (mPCons (mc (.str "n")) (mTup (mCons (mBin subD (mc (.int (0))) (mc (.int (10000)))) (mCons (mc (.int (9999))) mNil))) (mPCons (mc (.str "o")) (mTup (mCons (mBin subD (mc (.int (0))) (mc (.int (63)))) (mCons (mc (.int (63))) mNil))) (mPCons (mc (.str "g")) (mTup (mCons (mc (.int (0))) (mCons (mv 2) mNil))) (mPCons (mc (.str "r")) (mTup (mCons (mc (.int (0))) (mCons (mBin subD (mv 2) (mc (.int (1)))) mNil))) mPNil)))))) (mv 1)) (gmTup 2 (gmCons (gmN 6) (gmCons (gmN 7) gmNil))))
  (mRet (mIf (mAnd (mTb (mBin eqD (mCall strD (mCons (mv 5) mNil)) (mv 0))) (mTb (mChain leD leD (mv 6) (mv 5) (mv 7)))) (mv 5) (mc .non))))))))
def m__law_part : List D → AH → R D := mFun 3 9 b__law_part
/- _law_line: 0:_law_line_here 1:_law_rows 2:_law_words 3:_law_form 4:_law_found 5:_law_k -/
def b__law_line : MS :=
  (mSeq (mAsg (mMt "str" splitD (mv 0) (mCons (mc (.str " ")) mNil)) (gmN 2))
  (mSeq (mAsg (mGet1 (mCall m__law_forms mNil) (mBin ixD (mv 2) (mc (.int (0))))) (gmN 3))
  (mSeq (mIfS (mOr (mTb (mBin isD (mv 3) (mc .non))) (mTb (mBin neD (mCall lenD (mCons (mv 2) mNil)) (mBin addD (mCall lenD (mCons (mv 3) mNil)) (mc (.int (1))))))) (mRet (mc .non)) mNx)
  (mSeq (mAsg (mBin addD (mTup (mCons (mBin ixD (mv 2) (mc (.int (0)))) mNil)) (mCall tupD (mCons (mLc (mRng1 (mCons (mCall lenD (mCons (mv 3) mNil)) mNil)) (gmN 5) mYes (mCall m__law_part (mCons (mBin ixD (mv 2) (mBin addD (mv 5) (mc (.int (1))))) (mCons (mBin ixD (mv 3) (mv 5)) (mCons (mv 1) mNil)))) [5] finF) mNil))) (gmN 4))
  (mRet (mIf (mTb (mBin inD (mc .non) (mv 4))) (mc .non) (mv 4)))))))
def m__law_line : List D → AH → R D := mFun 2 6 b__law_line
/- number_of: 0:word 1:size 2:sign -/
def b_number_of : MS :=
  (mSeq (mAsg (mIf (mTb (mBin eqD (mSl (mv 0) mNoPart (mPart (mc (.int (1))))) (mc (.str "-")))) (mSl (mv 0) (mPart (mc (.int (1)))) mNoPart) (mv 0)) (gmN 1))
  (mSeq (mIfS (mOr (mNot (mTb (mChain leD leD (mc (.int (1))) (mCall lenD (mCons (mv 1) mNil)) (mc g_MOST_FIGURES)))) (mTb (mBin neD (mLc (miAny (mv 1)) (gmN 2) (mTb (mBin ninD (mv 2) (mc g_FIGURES))) (mv 2) [2] finF) (mLst mNil)))) (mRet (mc .non)) mNx)
  (mRet (mIf (mTb (mBin eqD (mCall strD (mCons (mCall intD (mCons (mv 0) mNil)) mNil)) (mv 0))) (mCall intD (mCons (mv 0) mNil)) (mc .non)))))
def m_number_of : List D → AH → R D := mFun 1 3 b_number_of
/- part_of: 0:word 1:sort -/
def b_part_of : MS :=
  (mSeq (mIfS (mTb (mBin eqD (mv 1) (mc (.str "t")))) (mRet (mIf (mTb (mBin eqD (mv 0) (mc g_NONE))) (mc (.str "")) (mIf (mTb (mBin neD (mv 0) (mc (.str "")))) (mv 0) (mc .non)))) mNx)
  (mRet (mCall m_number_of (mCons (mv 0) mNil))))
def m_part_of : List D → AH → R D := mFun 2 2 b_part_of
/- row_of: 0:line 1:rows 2:words 3:form 4:row 5:word 6:sort -/
def b_row_of : MS :=
  (mSeq (mAsg (mMt "str" splitD (mv 0) (mCons (mc (.str " ")) mNil)) (gmN 2))
  (mSeq (mAsg (mUn (kgetD tb_FORMS) (mBin ixD (mv 2) (mc (.int (0))))) (gmN 3))
  (mSeq (mIfS (mOr (mTb (mBin isD (mv 3) (mc .non))) (mTb (mBin neD (mCall lenD (mCons (mv 2) mNil)) (mBin addD (mCall lenD (mCons (mv 3) mNil)) (mc (.int (1))))))) (mRet (mc .non)) mNx)
  (mSeq (mAsg (mBin addD (mTup (mCons (mBin ixD (mv 2) (mc (.int (0)))) mNil)) (mCall tupD (mCons (mLc (miZs (mCons (mSl (mv 2) (mPart (mc (.int (1)))) mNoPart) (mCons (mv 3) mNil))) (gmTup 2 (gmCons (gmN 5) (gmCons (gmN 6) gmNil))) mYes (mCall m_part_of (mCons (mv 5) (mCons (mv 6) mNil))) [5, 6] finF) mNil))) (gmN 4))
  (mRet (mIf (mTb (mCall m_is_row (mCons (mv 4) (mCons (mv 1) mNil)))) (mv 4) (mc .non)))))))
def m_row_of : List D → AH → R D := mFun 2 7 b_row_of
/- read: 0:text 1:lines 2:found 3:number 4:row -/
def b_read : MS :=
  (mSeq (mAsg (mMt "str" splitD (mv 0) (mCons (mc (.str "\n")) mNil)) (gmN 1))
  (mSeq (mAsg (mLstN mNil) (gmN 2))
  (mSeq (mFor (mRng1 (mCons (mCall lenD (mCons (mv 1) mNil)) mNil)) (gmN 3) (mSeq (mAsg (mCall m_row_of (mCons (mBin ixD (mv 1) (mv 3)) (mCons (mCall lenD (mCons (mv 1) mNil)) mNil))) (gmN 4))
  (mSeq (mIfS (mOr (mTb (mBin isD (mv 4) (mc .non))) (mTb (mBin geD (mv 3) (mc g_MOST_ROWS)))) (mRaise "BadText" "line" (mv 3)) mNx)
  (mDrop (mMt "list" appD (mv 2) (mCons (mv 4) mNil))))))
  (mRet (mCall tupD (mCons (mv 2) mNil))))))
def m_read : List D → AH → R D := mFun 1 5 b_read
/- _law_alike: 0:_law_found 1:_law_due 2:_law_k -/
def b__law_alike (g : List D → AH → R D) : MS :=
  (mSeq (mIfS (mOr (mTb (mUn (isiD "tuple") (mv 1))) (mTb (mUn (isiD "list") (mv 1)))) (mSeq (mIfS (mOr (mTb (mBin neD (mUn (isiD "tuple") (mv 0)) (mUn (isiD "tuple") (mv 1)))) (mNot (mTb (mUn (isiD2 "tuple" "list") (mv 0))))) (mRet (mc (.bl false))) mNx)
  (mSeq (mIfS (mTb (mBin neD (mCall lenD (mCons (mv 0) mNil)) (mCall lenD (mCons (mv 1) mNil)))) (mRet (mc (.bl false))) mNx)
  (mRet (mBin eqD (mLc (mRng1 (mCons (mCall lenD (mCons (mv 1) mNil)) mNil)) (gmN 2) (mNot (mTb (mCall g (mCons (mBin ixD (mv 0) (mv 2)) (mCons (mBin ixD (mv 1) (mv 2)) mNil))))) (mv 2) [2] finF) (mLst mNil))))) mNx)
  (mSeq (mIfS (mOr (mTb (mBin isD (mv 1) (mc .non))) (mTb (mBin isD (mv 0) (mc .non)))) (mRet (mAndV (mBin isD (mv 1) (mc .non)) (mBin isD (mv 0) (mc .non)))) mNx)
  (mSeq (mIfS (mOr (mTb (mUn (isiD "bool") (mv 1))) (mTb (mUn (isiD "bool") (mv 0)))) (mRet (mAndV (mUn (isiD "bool") (mv 1)) (mAndV (mUn (isiD "bool") (mv 0)) (mBin eqD (mv 0) (mv 1))))) mNx)
  (mSeq (mIfS (mTb (mUn (isiD "str") (mv 1))) (mRet (mAndV (mUn (isiD "str") (mv 0)) (mBin eqD (mv 0) (mv 1)))) mNx)
  (mRet (mAndV (mUn (isiD "int") (mv 0)) (mBin eqD (mv 0) (mv 1))))))))
def m__law_alike : Nat → List D → AH → R D
  | 0 => mBad
  | n + 1 => mFun 2 3 (b__law_alike (m__law_alike n))
/- law: 0:_law_script 1:_law_row_here 2:_law_some 3:_law_turn 4:_law_text 5:_law_change 6:_law_one 7:_law_lines 8:_law_found 9:_law_bad 10:_law_line_here 11:_law_k -/
def b_law : MS :=
  (mSeq (mAsg (mLstN (mCons (mv 0) (mCons (mc (.int (0))) (mCons (mc (.int (0))) (mCons (mc (.int (0))) mNil))))) (gmN 1))
  (mSeq (mAsg (mLst (mCons (mc (.str "")) (mCons (mc (.str "\n")) (mCons (mc (.str "end")) (mCons (mc (.str "end\n")) (mCons (mc (.str "go 1")) (mCons (mc (.str "go 0")) (mCons (mc (.str "say 8")) (mCons (mc (.str "put 0 10000")) (mCons (mc (.str "put 0 -10000")) (mCons (mc (.str "put 0 00")) (mCons (mc (.str "end 0")) mNil)))))))))))) (gmN 2))
  (mSeq (mAsg (mBin addD (mv 2) (mLst (mCons (mc (.str "Add 0 0 0")) (mCons (mc (.str "add 0 0")) (mCons (mc (.str " end")) (mCons (mc (.str "end ")) (mCons (mc (.str "if 0 1\nend")) (mCons (mc (.str "gate 0 1 1")) (mCons (mc (.str "gate 0 1 2")) (mCons (mc (.str "fewer 0 1 -")) mNil)))))))))) (gmN 2))
  (mSeq (mAsg (mBin addN (mv 2) (mLst (mCons (mc (.str "fewer 0 1 ")) (mCons (mc (.str "fewer 0 1 -g")) (mCons (mc (.str "get 0 1 -64")) (mCons (mc (.str "set 0 -63 1")) (mCons (mc (.str "put 0 -0")) (mCons (mc (.str "put 0 -")) mNil)))))))) (gmN 2))
  (mSeq (mDrop (mMt "list" appD (mv 2) (mCons (mMt "str" joinD (mc (.str "\n")) (mCons (mBin mulD (mLst (mCons (mc (.str "end")) mNil)) (mc (.int (61)))) mNil)) mNil)))
  (mSeq (mDrop (mMt "list" appD (mv 2) (mCons (mMt "str" joinD (mc (.str "\n")) (mCons (mBin mulD (mLst (mCons (mc (.str "end")) mNil)) (mc (.int (60)))) mNil)) mNil)))
  (mSeq (mDrop (mMt "list" appD (mv 2) (mCons (mMt "str" joinD (mc (.str "\n")) (mCons (mBin mulD (mLst (mCons (mc (.str "go 60")) mNil)) (mc (.int (61)))) mNil)) mNil)))
  (mSeq (mFor (mRng1 (mCons (mc (.int (5))) mNil)) (gmN 3) (mSeq (mAsg (mCall m_written (mCons (mCall m__law_program (mCons (mv 1) (mCons (mBin ixD (mLst (mCons (mc (.int (6))) (mCons (mc (.int (30))) mNil))) (mCall m__law_taken (mCons (mv 1) (mCons (mc (.int (2))) mNil)))) mNil))) mNil)) (gmN 4))
  (mSeq (mFor (mRng1 (mCons (mCall m__law_taken (mCons (mv 1) (mCons (mc (.int (4))) mNil))) mNil)) (gmN 5) (mAsg (mCall m__law_spoilt (mCons (mv 1) (mCons (mv 4) mNil))) (gmN 4)))
  (mFor (miAny (mLst (mCons (mv 4) (mCons (mBin ixD (mv 2) (mCall m__law_taken (mCons (mv 1) (mCons (mc (.int (28))) mNil)))) mNil)))) (gmN 6) (mSeq (mAsg (mMt "str" splitD (mv 6) (mCons (mc (.str "\n")) mNil)) (gmN 7))
  (mSeq (mAsg (mLc (miAny (mv 7)) (gmN 10) mYes (mCall m__law_line (mCons (mv 10) (mCons (mCall lenD (mCons (mv 7) mNil)) mNil))) [10] finF) (gmN 8))
  (mSeq (mAsg (mLc (mRng1 (mCons (mCall lenD (mCons (mv 8) mNil)) mNil)) (gmN 11) (mOr (mTb (mBin isD (mBin ixD (mv 8) (mv 11)) (mc .non))) (mTb (mBin gtD (mv 11) (mc (.int (59)))))) (mv 11) [11] finF) (gmN 9))
  (mIfS (mTb (mBin neD (mv 9) (mLst mNil))) (mIfS (mTb (mBin neD (mLamW (mCall m_read (mCons (mv 6) mNil))) (mTup (mCons (mc (.str "text")) (mCons (mBin ixD (mv 9) (mc (.int (0)))) mNil))))) (mRet (mc (.bl false))) mNx) (mIfS (mNot (mTb (mCall (m__law_alike 4) (mCons (mCall m_read (mCons (mv 6) mNil)) (mCons (mCall tupD (mCons (mv 8) mNil)) mNil))))) (mRet (mc (.bl false))) mNx)))))))))
  (mRet (mc (.bl true)))))))))))
def m_law : List D → AH → R D := mFun 1 12 b_law
end K19

set_option Elab.async false
set_option linter.all false
set_option maxRecDepth 100000
set_option maxHeartbeats 4000000
namespace K19
open PySem L2 Tg
def top (i : Nat) : Stmt := PySem.Challenge.pw_tagmachine_k19_texts_refused.main.body.getD i (.Pass ⟨0, 0, 0, 0⟩)
abbrev s_are_rights : Stmt := top 15
abbrev n_are_rights : List Str := ["part", "sign"]
abbrev p_are_rights : List Str := ["part"]
abbrev s_is_number : Stmt := top 13
abbrev n_is_number : List Str := ["word"]
abbrev p_is_number : List Str := ["word"]
abbrev s_is_within : Stmt := top 14
abbrev n_is_within : List Str := ["number", "low", "high"]
abbrev p_is_within : List Str := ["number", "low", "high"]
abbrev s_is_part : Stmt := top 20
abbrev n_is_part : List Str := ["part", "sort", "rows", "bounds"]
abbrev p_is_part : List Str := ["part", "sort", "rows"]
abbrev s_is_row : Stmt := top 21
abbrev n_is_row : List Str := ["row", "rows", "form", "k"]
abbrev p_is_row : List Str := ["row", "rows"]
abbrev s_need_program : Stmt := top 22
abbrev n_need_program : List Str := ["program", "number"]
abbrev p_need_program : List Str := ["program"]
abbrev s_word_of : Stmt := top 27
abbrev n_word_of : List Str := ["part"]
abbrev p_word_of : List Str := ["part"]
abbrev s_written : Stmt := top 28
abbrev n_written : List Str := ["program", "row", "part"]
abbrev p_written : List Str := ["program"]
abbrev s__law_taken : Stmt := top 34
abbrev n__law_taken : List Str := ["_law_row_here", "_law_many", "_law_found", "_law_cell"]
abbrev p__law_taken : List Str := ["_law_row_here", "_law_many"]
abbrev s__law_number : Stmt := top 37
abbrev n__law_number : List Str := ["_law_row_here", "_law_way"]
abbrev p__law_number : List Str := ["_law_row_here"]
abbrev s__law_rights : Stmt := top 38
abbrev n__law_rights : List Str := ["_law_row_here", "_law_often", "_law_sign"]
abbrev p__law_rights : List Str := ["_law_row_here"]
abbrev s__law_row : Stmt := top 39
abbrev n__law_row : List Str := ["_law_row_here", "_law_at", "_law_rows", "_law_words", "_law_word_here", "_law_r", "_law_s", "_law_t", "_law_goal", "_law_far", "_law_some"]
abbrev p__law_row : List Str := ["_law_row_here", "_law_at", "_law_rows"]
abbrev s__law_program : Stmt := top 40
abbrev n__law_program : List Str := ["_law_row_here", "_law_most", "_law_rows", "_law_found", "_law_at", "_law_one"]
abbrev p__law_program : List Str := ["_law_row_here", "_law_most"]
abbrev s__law_spoilt : Stmt := top 44
abbrev n__law_spoilt : List Str := ["_law_row_here", "_law_text", "_law_way", "_law_at", "_law_signs", "_law_sign", "_law_lines", "_law_k", "_law_words", "_law_j", "_law_odd"]
abbrev p__law_spoilt : List Str := ["_law_row_here", "_law_text"]
abbrev s__law_forms : Stmt := top 41
abbrev n__law_forms : List Str := ["_law_forms_here", "_law_word_here"]
abbrev p__law_forms : List Str := []
abbrev s__law_part : Stmt := top 42
abbrev n__law_part : List Str := ["_law_word_here", "_law_sort", "_law_rows", "_law_rights_here", "_law_size", "_law_number_here", "_law_low", "_law_high", "_law_sign"]
abbrev p__law_part : List Str := ["_law_word_here", "_law_sort", "_law_rows"]
abbrev s__law_line : Stmt := top 43
abbrev n__law_line : List Str := ["_law_line_here", "_law_rows", "_law_words", "_law_form", "_law_found", "_law_k"]
abbrev p__law_line : List Str := ["_law_line_here", "_law_rows"]
abbrev s_number_of : Stmt := top 29
abbrev n_number_of : List Str := ["word", "size", "sign"]
abbrev p_number_of : List Str := ["word"]
abbrev s_part_of : Stmt := top 30
abbrev n_part_of : List Str := ["word", "sort"]
abbrev p_part_of : List Str := ["word", "sort"]
abbrev s_row_of : Stmt := top 31
abbrev n_row_of : List Str := ["line", "rows", "words", "form", "row", "word", "sort"]
abbrev p_row_of : List Str := ["line", "rows"]
abbrev s_BadText___init__ : Stmt := inClass (top 8) 0
abbrev n_BadText___init__ : List Str := ["self", "line"]
abbrev p_BadText___init__ : List Str := ["self", "line"]
abbrev s_read : Stmt := top 32
abbrev n_read : List Str := ["text", "lines", "found", "number", "row"]
abbrev p_read : List Str := ["text"]
abbrev s__law_alike : Stmt := top 35
abbrev n__law_alike : List Str := ["_law_found", "_law_due", "_law_k"]
abbrev p__law_alike : List Str := ["_law_found", "_law_due"]
abbrev s_law : Stmt := top 45
abbrev n_law : List Str := ["_law_script", "_law_row_here", "_law_some", "_law_turn", "_law_text", "_law_change", "_law_one", "_law_lines", "_law_found", "_law_bad", "_law_line_here", "_law_k"]
abbrev p_law : List Str := ["_law_script"]
abbrev s__law_word : Stmt := top 36
abbrev n__law_word : List Str := ["_law_work", "e", "_law_kinds", "_law_word_here"]
abbrev p__law_word : List Str := ["_law_work"]
end K19

set_option Elab.async false
set_option linter.all false
set_option maxRecDepth 100000
set_option maxHeartbeats 4000000
namespace K19
open PySem L2 Tg
def hXs : List PySem.Str := ["law"]
def hFc0 : List Fc := [fa (.glo "are_rights"),
  fa (.keep "are_rights"),
  fa (.glo "is_number"),
  fa (.keep "is_number"),
  fa (.glo "is_within"),
  fa (.keep "is_within"),
  fa (.glo "is_part"),
  fa (.keep "is_part"),
  fa (.glo "is_row"),
  fa (.keep "is_row"),
  fa (.glo "need_program"),
  fa (.keep "need_program"),
  fa (.glo "word_of"),
  fa (.keep "word_of"),
  fa (.glo "written"),
  fa (.keep "written"),
  fa (.glo "_law_taken"),
  fa (.keep "_law_taken"),
  fa (.glo "_law_number"),
  fa (.keep "_law_number"),
  fa (.glo "_law_rights"),
  fa (.keep "_law_rights"),
  fa (.glo "_law_row"),
  fa (.keep "_law_row"),
  fa (.glo "_law_program"),
  fa (.keep "_law_program"),
  fa (.glo "_law_spoilt"),
  fa (.keep "_law_spoilt"),
  fa (.glo "_law_forms"),
  fa (.keep "_law_forms")]
def hFc1 : List Fc := [fa (.glo "_law_part"),
  fa (.keep "_law_part"),
  fa (.glo "_law_line"),
  fa (.keep "_law_line"),
  fa (.glo "number_of"),
  fa (.keep "number_of"),
  fa (.glo "part_of"),
  fa (.keep "part_of"),
  fa (.glo "row_of"),
  fa (.keep "row_of"),
  fa (.glo "BadText"),
  excV "BadText" "ValueError.__new__",
  excY "BadText" "line",
  kpm "BadText" "__init__",
  fa (.glo "TagError"),
  clr "TagError",
  clb "TagError" "__init__" "ValueError.__init__",
  fa (.glo "read"),
  fa (.keep "read"),
  fa (.glo "_law_alike"),
  fa (.keep "_law_alike"),
  fa (.glo "law"),
  fa (.keep "law"),
  fa (.int "BOXES" 8),
  fa (.str "FIGURES" "0123456789"),
  fa (.glo "FORMS"),
  tabF "FORMS" tb_FORMS,
  fa (.int "HALF" 10000),
  fa (.int "MOST_FIGURES" 5),
  fa (.int "MOST_ROWS" 60)]
def hFc2 : List Fc := [fa (.str "NONE" "-"),
  fa (.int "OFFSET" 64),
  fa (.str "RIGHTS" "ghls"),
  fa (.glo "_law_word"),
  fa (.keep "_law_word"),
  wordG,
  wordF,
  wordF2,
  tabU hXs,
  lamG hXs,
  lamN hXs,
  fa (.free "ValueError"),
  fa (.free "bool"),
  fa (.free "dict"),
  fa (.free "int"),
  fa (.free "isinstance"),
  fa (.free "len"),
  fa (.free "list"),
  fa (.free "range"),
  fa (.free "str"),
  fa (.free "tuple"),
  fa (.free "zip")]
def hFc : List Fc := hFc0 ++ (hFc1 ++ (hFc2))
def hFn0 : List He.FnD := [⟨("are_rights", none), "are_rights", "are_rights", defArgs s_are_rights, defBody s_are_rights, defScope s_are_rights⟩,
  ⟨("is_number", none), "is_number", "is_number", defArgs s_is_number, defBody s_is_number, defScope s_is_number⟩,
  ⟨("is_within", none), "is_within", "is_within", defArgs s_is_within, defBody s_is_within, defScope s_is_within⟩,
  ⟨("is_part", none), "is_part", "is_part", defArgs s_is_part, defBody s_is_part, defScope s_is_part⟩,
  ⟨("is_row", none), "is_row", "is_row", defArgs s_is_row, defBody s_is_row, defScope s_is_row⟩,
  ⟨("need_program", none), "need_program", "need_program", defArgs s_need_program, defBody s_need_program, defScope s_need_program⟩,
  ⟨("word_of", none), "word_of", "word_of", defArgs s_word_of, defBody s_word_of, defScope s_word_of⟩,
  ⟨("written", none), "written", "written", defArgs s_written, defBody s_written, defScope s_written⟩,
  ⟨("_law_taken", none), "_law_taken", "_law_taken", defArgs s__law_taken, defBody s__law_taken, defScope s__law_taken⟩,
  ⟨("_law_number", none), "_law_number", "_law_number", defArgs s__law_number, defBody s__law_number, defScope s__law_number⟩,
  ⟨("_law_rights", none), "_law_rights", "_law_rights", defArgs s__law_rights, defBody s__law_rights, defScope s__law_rights⟩,
  ⟨("_law_row", none), "_law_row", "_law_row", defArgs s__law_row, defBody s__law_row, defScope s__law_row⟩,
  ⟨("_law_program", none), "_law_program", "_law_program", defArgs s__law_program, defBody s__law_program, defScope s__law_program⟩,
  ⟨("_law_spoilt", none), "_law_spoilt", "_law_spoilt", defArgs s__law_spoilt, defBody s__law_spoilt, defScope s__law_spoilt⟩,
  ⟨("_law_forms", none), "_law_forms", "_law_forms", defArgs s__law_forms, defBody s__law_forms, defScope s__law_forms⟩,
  ⟨("_law_part", none), "_law_part", "_law_part", defArgs s__law_part, defBody s__law_part, defScope s__law_part⟩,
  ⟨("_law_line", none), "_law_line", "_law_line", defArgs s__law_line, defBody s__law_line, defScope s__law_line⟩,
  ⟨("number_of", none), "number_of", "number_of", defArgs s_number_of, defBody s_number_of, defScope s_number_of⟩,
  ⟨("part_of", none), "part_of", "part_of", defArgs s_part_of, defBody s_part_of, defScope s_part_of⟩,
  ⟨("row_of", none), "row_of", "row_of", defArgs s_row_of, defBody s_row_of, defScope s_row_of⟩,
  ⟨("BadText", some "__init__"), "__init__", "BadText.__init__", defArgs s_BadText___init__, defBody s_BadText___init__, defScope s_BadText___init__⟩,
  ⟨("read", none), "read", "read", defArgs s_read, defBody s_read, defScope s_read⟩,
  ⟨("_law_alike", none), "_law_alike", "_law_alike", defArgs s__law_alike, defBody s__law_alike, defScope s__law_alike⟩,
  ⟨("law", none), "law", "law", defArgs s_law, defBody s_law, defScope s_law⟩,
  ⟨("_law_word", none), "_law_word", "_law_word", defArgs s__law_word, defBody s__law_word, defScope s__law_word⟩]
def hFn : List He.FnD := hFn0
def hTs0 : List (Str × List Str) := [("FORMS", ["put", "move", "add", "take", "less", "same", "is", "get", "set", "narrow", "fewer", "gate", "enter", "room", "shut", "say", "go", "if", "end"])]
def hTs : List (Str × List Str) := hTs0
def hNm0 : List PySem.Str := ["TagError",
  "BadProgram",
  "BadWord",
  "BadRooms",
  "BadFuel",
  "BadCell",
  "Over",
  "BadText",
  "BOXES",
  "HALF",
  "RIGHTS",
  "is_number",
  "is_within",
  "are_rights",
  "MOST_ROWS",
  "OFFSET",
  "FORMS",
  "is_part",
  "is_row",
  "need_program",
  "FIGURES",
  "MOST_FIGURES",
  "NONE",
  "word_of",
  "written",
  "number_of",
  "part_of",
  "row_of",
  "read",
  "_law_taken"]
def hNm1 : List PySem.Str := ["_law_alike",
  "_law_word",
  "_law_number",
  "_law_rights",
  "_law_row",
  "_law_program",
  "_law_forms",
  "_law_part",
  "_law_line",
  "_law_spoilt"]
def hNm : List PySem.Str := hNm0 ++ (hNm1)
abbrev hR : PySem.W.OpenRow := PySem.W.OpenLaw.row PySem.Challenge.rw_tagmachine_k19_texts_refused
abbrev hQ : Program := PySem.W.view hR.prog [45]
abbrev hK : PySem.W.Hook := hookT hFc hFn hTs hXs
set_option maxHeartbeats 0 in
theorem runF (w : World) : HandSHeadRun.RunEq hR hQ hK (fun s => obsTG hFc hFn hTs hXs (HandSHeadRun.getT s)) 20000 hNm (w.withFollow "special-get-raises" false) := by
  intro os
  kernel_rfl
set_option maxHeartbeats 0 in
theorem runT (w : World) : HandSHeadRun.RunEq hR hQ hK (fun s => obsTG hFc hFn hTs hXs (HandSHeadRun.getT s)) 20000 hNm (w.withFollow "special-get-raises" true) := by
  intro os
  kernel_rfl
theorem hRun (w : World) : HandSHeadRun.RunEq hR hQ hK (fun s => obsTG hFc hFn hTs hXs (HandSHeadRun.getT s)) 20000 hNm w := PySem.W.byRow2 "special-get-raises" (P := fun w => HandSHeadRun.RunEq hR hQ hK (fun s => obsTG hFc hFn hTs hXs (HandSHeadRun.getT s)) 20000 hNm w) runF runT w
end K19

set_option Elab.async false
set_option linter.all false
set_option maxRecDepth 100000
set_option maxHeartbeats 4000000
namespace K19
open PySem L2 Tg
structure Txt (K : PySem.W.Frag) (w : World) (mg : Str → Option Value) : Prop where
  t_are_rights : TF K mg "are_rights" "are_rights" s_are_rights p_are_rights
  t_is_number : TF K mg "is_number" "is_number" s_is_number p_is_number
  t_is_within : TF K mg "is_within" "is_within" s_is_within p_is_within
  t_is_part : TF K mg "is_part" "is_part" s_is_part p_is_part
  t_is_row : TF K mg "is_row" "is_row" s_is_row p_is_row
  t_need_program : TF K mg "need_program" "need_program" s_need_program p_need_program
  t_word_of : TF K mg "word_of" "word_of" s_word_of p_word_of
  t_written : TF K mg "written" "written" s_written p_written
  t__law_taken : TF K mg "_law_taken" "_law_taken" s__law_taken p__law_taken
  t__law_number : TF K mg "_law_number" "_law_number" s__law_number p__law_number
  t__law_rights : TF K mg "_law_rights" "_law_rights" s__law_rights p__law_rights
  t__law_row : TF K mg "_law_row" "_law_row" s__law_row p__law_row
  t__law_program : TF K mg "_law_program" "_law_program" s__law_program p__law_program
  t__law_spoilt : TF K mg "_law_spoilt" "_law_spoilt" s__law_spoilt p__law_spoilt
  t__law_forms : TF K mg "_law_forms" "_law_forms" s__law_forms p__law_forms
  t__law_part : TF K mg "_law_part" "_law_part" s__law_part p__law_part
  t__law_line : TF K mg "_law_line" "_law_line" s__law_line p__law_line
  t_number_of : TF K mg "number_of" "number_of" s_number_of p_number_of
  t_part_of : TF K mg "part_of" "part_of" s_part_of p_part_of
  t_row_of : TF K mg "row_of" "row_of" s_row_of p_row_of
  t_BadText___init__ : TX K mg "BadText" "TagError" "line" "BadText.__init__" s_BadText___init__ p_BadText___init__
  t_read : TF K mg "read" "read" s_read p_read
  t__law_alike : TF K mg "_law_alike" "_law_alike" s__law_alike p__law_alike
  t_law : TL K mg "law" s_law "_law_script"
  g_BOXES : GDat K mg "BOXES" g_BOXES
  g_FIGURES : GDat K mg "FIGURES" g_FIGURES
  g_FORMS : GTab K w mg "FORMS" tb_FORMS
  g_HALF : GDat K mg "HALF" g_HALF
  g_MOST_FIGURES : GDat K mg "MOST_FIGURES" g_MOST_FIGURES
  g_MOST_ROWS : GDat K mg "MOST_ROWS" g_MOST_ROWS
  g_NONE : GDat K mg "NONE" g_NONE
  g_OFFSET : GDat K mg "OFFSET" g_OFFSET
  g_RIGHTS : GDat K mg "RIGHTS" g_RIGHTS
  t__law_word : TF K mg "_law_word" "_law_word" s__law_word p__law_word
  wc : WordC K mg
  lt_law : LamT K mg "law"
  z_ValueError : mg "ValueError" = none
  z_bool : mg "bool" = none
  z_dict : mg "dict" = none
  z_int : mg "int" = none
  z_isinstance : mg "isinstance" = none
  z_len : mg "len" = none
  z_list : mg "list" = none
  z_range : mg "range" = none
  z_str : mg "str" = none
  z_tuple : mg "tuple" = none
  z_zip : mg "zip" = none
section
variable {P : Program} {w : World} {K : PySem.W.Frag} {mg : Str → Option Value} {base : Heap}
theorem sc__law_word : FnScope n__law_word p__law_word (defScope s__law_word) := ⟨rfl, rfl, rfl, by decide +kernel, rfl, by decide +kernel, by decide +kernel⟩
theorem word_fn (T : Txt K w mg) {T0 : Addr} (hT : mg "TagError" = some (.ref T0)) : WordFn P w K mg base s__law_word T0 := by
  obtain ⟨g, fd, F, hm, hb⟩ := T.t__law_word
  obtain ⟨oc, od, kV, doc, pm, an, cdv, ct, osl, rfl, lk, hcd⟩ := F.ex
  refine ⟨g, oc, od, an, osl, kV, doc, pm, cdv, ct, n__law_word, hm, F.kp, lk, hcd, hb, sc__law_word, rfl, .inl rfl, fun X q e1 e2 e3 e4 e5 => ?_⟩
  subst e1 e2 e3 e4 e5
  exact gives_of hT sc__law_word.nd rfl rfl rfl rfl (fun _ => rfl) fun s H a oe cls d pn hz hf => pss_cons (ps_set (i := 2) sc__law_word.nd rfl (.inl rfl) (pe_lst (pa_cons (pe_callB (call_isX hz hf) rfl T.z_isinstance (by decide +kernel) (pa_cons (pe_var (i := 1) rfl (.inl rfl)) (pa_cons (pe_glob rfl (T.wc.at (c := "BadProgram") (by decide)) rfl) pa_nil))) (pa_cons (pe_callB (call_isX hz hf) rfl T.z_isinstance (by decide +kernel) (pa_cons (pe_var (i := 1) rfl (.inl rfl)) (pa_cons (pe_glob rfl (T.wc.at (c := "BadWord") (by decide)) rfl) pa_nil))) (pa_cons (pe_callB (call_isX hz hf) rfl T.z_isinstance (by decide +kernel) (pa_cons (pe_var (i := 1) rfl (.inl rfl)) (pa_cons (pe_glob rfl (T.wc.at (c := "BadRooms") (by decide)) rfl) pa_nil))) (pa_cons (pe_callB (call_isX hz hf) rfl T.z_isinstance (by decide +kernel) (pa_cons (pe_var (i := 1) rfl (.inl rfl)) (pa_cons (pe_glob rfl (T.wc.at (c := "BadFuel") (by decide)) rfl) pa_nil))) pa_nil))))))
      (pss_cons (ps_set (i := 2) sc__law_word.nd rfl (.inl rfl) (pe_op op_cat (pe_var (i := 2) rfl (.inl rfl)) (pe_lst (pa_cons (pe_callB (call_isX hz hf) rfl T.z_isinstance (by decide +kernel) (pa_cons (pe_var (i := 1) rfl (.inl rfl)) (pa_cons (pe_glob rfl (T.wc.at (c := "BadCell") (by decide)) rfl) pa_nil))) (pa_cons (pe_callB (call_isX hz hf) rfl T.z_isinstance (by decide +kernel) (pa_cons (pe_var (i := 1) rfl (.inl rfl)) (pa_cons (pe_glob rfl (T.wc.at (c := "Over") (by decide)) rfl) pa_nil))) (pa_cons (pe_callB (call_isX hz hf) rfl T.z_isinstance (by decide +kernel) (pa_cons (pe_var (i := 1) rfl (.inl rfl)) (pa_cons (pe_glob rfl (T.wc.at (c := "BadText") (by decide)) rfl) pa_nil))) pa_nil))))))
      (pss_cons (ps_if (PW.pt (pw_or (pt_cmpR op_ne (pe_bm PySem.F.plainAttrs_list PySem.F.slot_list_count PySem.F.type_list_count mt_count (pe_var (i := 2) rfl (.inl rfl)) (pa_cons pe_bl pa_nil)) pe_int (nomark _)) (pw_or1 (pt_not (pt_val (pe_callB (call_isX hz hf) rfl T.z_isinstance (by decide +kernel) (pa_cons (pe_var (i := 1) rfl (.inl rfl)) (pa_cons (pe_bltn rfl T.z_ValueError (by decide +kernel) rfl) pa_nil)))))))) (pss_one (ps_ret (pe_tup (pa_cons pe_str (pa_cons pe_int pa_nil))))) pss_nil)
      (pss_cons (ps_set (i := 3) sc__law_word.nd rfl (.inl rfl) (pe_ix ix_list (pe_lst (pa_cons pe_str (pa_cons pe_str (pa_cons pe_str (pa_cons pe_str (pa_cons pe_str (pa_cons pe_str (pa_cons pe_str pa_nil)))))))) (pe_bm PySem.F.plainAttrs_list PySem.F.slot_list_index PySem.F.type_list_index mt_index (pe_var (i := 2) rfl (.inl rfl)) (pa_cons pe_bl pa_nil)) (by intro _ _; rfl)))
      (pss_cons (ps_if (pt_cmpR op_eq (pe_var (i := 3) rfl (.inl rfl)) pe_str (nomark _)) (pss_one (ps_ret (pe_tup (pa_cons (pe_var (i := 3) rfl (.inl rfl)) (pa_cons (pe_xf (T.wc.xf (c := "BadWord") (by decide)).1 (T.wc.xf (c := "BadWord") (by decide)).2.2.1 hz hf (pe_var (i := 1) rfl (.inl rfl))) pa_nil))))) pss_nil)
      (pss_cons (ps_if (pt_cmpR op_eq (pe_var (i := 3) rfl (.inl rfl)) pe_str (nomark _)) (pss_one (ps_ret (pe_tup (pa_cons (pe_var (i := 3) rfl (.inl rfl)) (pa_cons (pe_xf (T.wc.xf (c := "BadProgram") (by decide)).1 (T.wc.xf (c := "BadProgram") (by decide)).2.1 hz hf (pe_var (i := 1) rfl (.inl rfl))) pa_nil))))) pss_nil)
      (pss_one (ps_ret (pe_tup (pa_cons (pe_var (i := 3) rfl (.inl rfl)) (pa_cons (pe_ifExp (pt_cmpR op_eq (pe_var (i := 3) rfl (.inl rfl)) pe_str (nomark _)) (pe_xf (T.wc.xf (c := "BadText") (by decide)).1 (T.wc.xf (c := "BadText") (by decide)).2.2.2 hz hf (pe_var (i := 1) rfl (.inl rfl))) pe_int) pa_nil))))))))))
theorem sc_are_rights : FnScope n_are_rights p_are_rights (defScope s_are_rights) := ⟨rfl, rfl, rfl, by decide +kernel, rfl, by decide +kernel, by decide +kernel⟩
theorem d_are_rights (T : Txt K w mg) : Dfn P w K mg base "are_rights" 1 m_are_rights := dfn_of T.t_are_rights sc_are_rights fun f cd A outer s H E hr => ⟨_, by
  unfold b_are_rights
  exact
  (ssone
  (sret (sand (sisi (T := "str") (by decide) T.z_isinstance T.z_str (sv 0)) (sone (scmp (oEq hr) oEqS (sv 0) (smt PySem.F.plainAttrs_str PySem.F.slot_str_join PySem.F.type_str_join mt_join oJoinS sstr (acons (by (refine' slc (own := [("sign", 1)]) fin_f rfl (sc_are_rights).nd ?hi0 ?ok0 ?hg0 ?ht0 ?he0 ?hw0); (case hi0 => exact (iany (sglob T.g_RIGHTS))); (case ok0 => exact blkOk_by (own := [("sign", 1)]) (N := n_are_rights) (sc := (defScope s_are_rights)) (by decide +kernel)); (case hg0 => exact fun _ _ _ _ _ => sg_fix (gname (i := 1) (sc_are_rights).nd) (by first | exact rfl | (dsimp only [Cx.blk] <;> exact rfl))); (case ht0 => exact fun _ _ _ _ _ => sts_fix (stsone (tcmp (oIn (by exact hr)) oInS (sv 1) (sv 0) (by with_unfolding_all rfl))) (by first | exact rfl | (dsimp only [Cx.blk] <;> exact rfl))); (case he0 => exact fun _ _ _ _ _ => se_fix (sv 1) (by first | exact rfl | (dsimp only [Cx.blk] <;> exact rfl))); (case hw0 => decide)) anil)) (nomark _))))))⟩
theorem sc_is_number : FnScope n_is_number p_is_number (defScope s_is_number) := ⟨rfl, rfl, rfl, by decide +kernel, rfl, by decide +kernel, by decide +kernel⟩
theorem d_is_number (T : Txt K w mg) : Dfn P w K mg base "is_number" 1 m_is_number := dfn_of T.t_is_number sc_is_number fun f cd A outer s H E hr => ⟨_, by
  unfold b_is_number
  exact
  (ssone
  (sret (sand (sisi (T := "int") (by decide) T.z_isinstance T.z_int (sv 0)) (sone (snot (sisi (T := "bool") (by decide) T.z_isinstance T.z_bool (sv 0)))))))⟩
theorem sc_is_within : FnScope n_is_within p_is_within (defScope s_is_within) := ⟨rfl, rfl, rfl, by decide +kernel, rfl, by decide +kernel, by decide +kernel⟩
theorem d_is_within (T : Txt K w mg) : Dfn P w K mg base "is_within" 2 m_is_within := dfn_of T.t_is_within sc_is_within fun f cd A outer s H E hr => ⟨_, by
  unfold b_is_within
  exact
  (ssone
  (sret (sand (scall (d_is_number T) hr (by decide) tkF (acons (sv 0) anil)) (sone (schain op_le op_lt oLeS oLtS (sv 1) (sv 0) (sv 2))))))⟩
theorem sc_is_part : FnScope n_is_part p_is_part (defScope s_is_part) := ⟨rfl, rfl, rfl, by decide +kernel, rfl, by decide +kernel, by decide +kernel⟩
theorem d_is_part (T : Txt K w mg) : Dfn P w K mg base "is_part" 3 m_is_part := dfn_of T.t_is_part sc_is_part fun f cd A outer s H E hr => ⟨_, by
  unfold b_is_part
  exact
  (sscons
  (sifS (tcmp (oEq hr) oEqS (sv 1) sstr (nomark _)) (ssone
  (sret (scall (d_are_rights T) hr (by decide) tkF (acons (sv 0) anil)))) ssnil)
  (sscons
  (sset 3 (sc_is_part).nd (sdct (spcons sstr (stup (acons sint (acons (sglob T.g_BOXES) anil))) (spcons sstr (stup (acons (sop op_sub oSubS sint (sglob T.g_HALF)) (acons (sglob T.g_HALF) anil))) (spcons sstr (stup (acons (sop op_sub oSubS sint (sglob T.g_OFFSET)) (acons (sglob T.g_OFFSET) anil))) (spcons sstr (stup (acons sint (acons (sop oAdd oAddS (sv 2) sint) anil))) (spcons sstr (stup (acons sint (acons (sv 2) anil))) spnil)))))))
  (ssone
  (sret (scall (d_is_within T) hr (by decide) tkF (acons (sv 0) (acons (six hr (six hr (sv 3) (sv 1)) sint) (acons (six hr (six hr (sv 3) (sv 1)) sint) anil))))))))⟩
theorem sc_is_row : FnScope n_is_row p_is_row (defScope s_is_row) := ⟨rfl, rfl, rfl, by decide +kernel, rfl, by decide +kernel, by decide +kernel⟩
theorem d_is_row (T : Txt K w mg) : Dfn P w K mg base "is_row" 4 m_is_row := dfn_of T.t_is_row sc_is_row fun f cd A outer s H E hr => ⟨_, by
  unfold b_is_row
  exact
  (sscons
  (sifS (twd (wor (tnot (tval (sisi (T := "tuple") (by decide) T.z_isinstance T.z_tuple (sv 0)))) (wor (tcmp (oEq hr) oEqS (sv 0) (stup anil) (nomark _)) (wor (tnot (tval (sisi (T := "str") (by decide) T.z_isinstance T.z_str (six hr (sv 0) sint)))) (wor1 (tknin T.g_FORMS (six hr (sv 0) sint))))))) (ssone
  (sret sbl)) ssnil)
  (sscons
  (sset 2 (sc_is_row).nd (skix T.g_FORMS (six hr (sv 0) sint)))
  (sscons
  (sifS (tcmp (oNe hr) oNeS (sbuilt oLen oLenS T.z_len (acons (sv 0) anil)) (sop oAdd oAddS (sbuilt oLen oLenS T.z_len (acons (sv 2) anil)) sint) (nomark _)) (ssone
  (sret sbl)) ssnil)
  (ssone
  (sret (scmp (oEq hr) oEqS (by (refine' slc (own := [("k", 3)]) fin_f rfl (sc_is_row).nd ?hi0 ?ok0 ?hg0 ?ht0 ?he0 ?hw0); (case hi0 => exact (irng1 T.z_range (acons (sbuilt oLen oLenS T.z_len (acons (sv 2) anil)) anil))); (case ok0 => exact blkOk_by (own := [("k", 3)]) (N := n_is_row) (sc := (defScope s_is_row)) (by decide +kernel)); (case hg0 => exact fun _ _ _ _ _ => sg_fix (gname (i := 3) (sc_is_row).nd) (by first | exact rfl | (dsimp only [Cx.blk] <;> exact rfl))); (case ht0 => exact fun _ _ _ _ _ => sts_fix (stsone (tnot (tval (scall (d_is_part T) (by exact hr) (by decide) takes0 (acons (six (by exact hr) (sv 0) (sop oAdd oAddS (sv 3) sint)) (acons (six (by exact hr) (sv 2) (sv 3)) (acons (sv 1) anil))))))) (by first | exact rfl | (dsimp only [Cx.blk] <;> exact rfl))); (case he0 => exact fun _ _ _ _ _ => se_fix (sv 3) (by first | exact rfl | (dsimp only [Cx.blk] <;> exact rfl))); (case hw0 => decide)) (slst anil) (nomark _)))))))⟩
theorem sc_need_program : FnScope n_need_program p_need_program (defScope s_need_program) := ⟨rfl, rfl, rfl, by decide +kernel, rfl, by decide +kernel, by decide +kernel⟩
theorem d_need_program (T : Txt K w mg) : Dfn P w K mg base "need_program" 5 m_need_program := dfn_of T.t_need_program sc_need_program fun f cd A outer s H E hr => ⟨_, by
  unfold b_need_program
  exact
  (sscons
  (sifS (twd (wor (tnot (tval (sisi (T := "tuple") (by decide) T.z_isinstance T.z_tuple (sv 0)))) (wor1 (tcmp (oEq hr) oEqS (sv 0) (stup anil) (nomark _))))) (ssone
  snever) ssnil)
  (ssone
  (sfor psF rfl (irng1 T.z_range (acons (sbuilt oLen oLenS T.z_len (acons (sv 0) anil)) anil)) (gname (i := 1) (sc_need_program).nd) (ssone
  (sifS (twd (wor (tcmp op_ge oGeS (sv 1) (sglob T.g_MOST_ROWS) (nomark _)) (wor1 (tnot (tval (scall (d_is_row T) hr (by decide) tkF (acons (six hr (sv 0) (sv 1)) (acons (sbuilt oLen oLenS T.z_len (acons (sv 0) anil)) anil)))))))) (ssone
  snever) ssnil)))))⟩
theorem sc_word_of : FnScope n_word_of p_word_of (defScope s_word_of) := ⟨rfl, rfl, rfl, by decide +kernel, rfl, by decide +kernel, by decide +kernel⟩
theorem d_word_of (T : Txt K w mg) : Dfn P w K mg base "word_of" 1 m_word_of := dfn_of T.t_word_of sc_word_of fun f cd A outer s H E hr => ⟨_, by
  unfold b_word_of
  exact
  (ssone
  (sret (sif (tcmp (oEq hr) oEqS (sv 0) sstr (nomark _)) (sglob T.g_NONE) (styp oStr oStrS T.z_str (acons (sv 0) anil)))))⟩
theorem sc_written : FnScope n_written p_written (defScope s_written) := ⟨rfl, rfl, rfl, by decide +kernel, rfl, by decide +kernel, by decide +kernel⟩
theorem d_written (T : Txt K w mg) : Dfn P w K mg base "written" 6 m_written := dfn_of T.t_written sc_written fun f cd A outer s H E hr => ⟨_, by
  unfold b_written
  exact
  (sscons
  (sexpr (scall (d_need_program T) hr (by decide) tkF (acons (sv 0) anil)))
  (ssone
  (sret (smt PySem.F.plainAttrs_str PySem.F.slot_str_join PySem.F.type_str_join mt_join oJoinS sstr (acons (by (refine' slc (own := [("row", 1)]) fin_f rfl (sc_written).nd ?hi0 ?ok0 ?hg0 ?ht0 ?he0 ?hw0); (case hi0 => exact (iany (sv 0))); (case ok0 => exact blkOk_by (own := [("row", 1)]) (N := n_written) (sc := (defScope s_written)) (by decide +kernel)); (case hg0 => exact fun _ _ _ _ _ => sg_fix (gname (i := 1) (sc_written).nd) (by first | exact rfl | (dsimp only [Cx.blk] <;> exact rfl))); (case ht0 => exact fun _ _ _ _ _ => sts_fix stsnil (by first | exact rfl | (dsimp only [Cx.blk] <;> exact rfl))); (case he0 => exact fun _ _ _ _ _ => se_fix (smt PySem.F.plainAttrs_str PySem.F.slot_str_join PySem.F.type_str_join mt_join oJoinS sstr (acons (by (refine' slc (own := [("part", 2)]) fin_f rfl (sc_written).nd ?hi1 ?ok1 ?hg1 ?ht1 ?he1 ?hw1); (case hi1 => exact (iany (sv 1))); (case ok1 => exact blkOk_by (own := [("part", 2)]) (N := n_written) (sc := (relS _ (defScope s_written))) (by decide +kernel)); (case hg1 => exact fun _ _ _ _ _ => sg_fix (gname (i := 2) (sc_written).nd) (by first | exact rfl | (dsimp only [Cx.blk] <;> exact rfl))); (case ht1 => exact fun _ _ _ _ _ => sts_fix stsnil (by first | exact rfl | (dsimp only [Cx.blk] <;> exact rfl))); (case he1 => exact fun _ _ _ _ _ => se_fix (scall (d_word_of T) (by exact hr) (by decide) takes0 (acons (sv 2) anil)) (by first | exact rfl | (dsimp only [Cx.blk] <;> exact rfl))); (case hw1 => decide)) anil)) (by first | exact rfl | (dsimp only [Cx.blk] <;> exact rfl))); (case hw0 => decide)) anil)))))⟩
theorem sc__law_taken : FnScope n__law_taken p__law_taken (defScope s__law_taken) := ⟨rfl, rfl, rfl, by decide +kernel, rfl, by decide +kernel, by decide +kernel⟩
theorem d__law_taken (T : Txt K w mg) : Dfn P w K mg base "_law_taken" 1 m__law_taken := dfn_of T.t__law_taken sc__law_taken fun f cd A outer s H E hr => ⟨_, by
  unfold b__law_taken
  exact
  (sscons
  (sifS (tcmp op_gt oGtS (six hr (sv 0) sint) sint (nomark _)) (sscons
  (sset 2 (sc__law_taken).nd (sop op_mod oModS (six hr (sv 0) sint) (sv 1)))
  (sscons
  (ssub hr (sv 0) sint (sop op_fdiv oFdivS (six hr (sv 0) sint) (sv 1)))
  (ssone
  (sret (sv 2))))) ssnil)
  (sscons
  (ssub hr (sv 0) sint (sop oAdd oAddS (six hr (sv 0) sint) sint))
  (sscons
  (sifS (tcmp op_gt oGtS (six hr (sv 0) sint) (sbuilt oLen oLenS T.z_len (acons (six hr (sv 0) sint) anil)) (nomark _)) (sscons
  (ssub hr (sv 0) sint (sop op_mod oModS (sop oAdd oAddS (sop oMul oMulS (six hr (sv 0) sint) sint) sint) sint))
  (ssone
  (sret (sop op_mod oModS (sop op_fdiv oFdivS (six hr (sv 0) sint) sint) (sv 1))))) ssnil)
  (sscons
  (sset 3 (sc__law_taken).nd (six hr (six hr (sv 0) sint) (sop op_sub oSubS (six hr (sv 0) sint) sint)))
  (sscons
  (ssub hr (sv 0) sint (sop op_mod oModS (sop oAdd oAddS (sop oAdd oAddS (sop oMul oMulS (six hr (sv 0) sint) sint) (sv 3)) sint) sint))
  (sscons
  (sifS (tcmp op_ge oGeS (sv 3) (sop op_pow oPowS sint sint) (nomark _)) (ssone
  (ssub hr (sv 0) sint (sop op_fdiv oFdivS (sv 3) (sv 1)))) ssnil)
  (ssone
  (sret (sop op_mod oModS (sv 3) (sv 1))))))))))⟩
theorem sc__law_number : FnScope n__law_number p__law_number (defScope s__law_number) := ⟨rfl, rfl, rfl, by decide +kernel, rfl, by decide +kernel, by decide +kernel⟩
theorem d__law_number (T : Txt K w mg) : Dfn P w K mg base "_law_number" 2 m__law_number := dfn_of T.t__law_number sc__law_number fun f cd A outer s H E hr => ⟨_, by
  unfold b__law_number
  exact
  (sscons
  (sset 1 (sc__law_number).nd (scall (d__law_taken T) hr (by decide) tkF (acons (sv 0) (acons sint anil))))
  (sscons
  (sifS (tcmp op_lt oLtS (sv 1) sint (nomark _)) (ssone
  (sret (six hr (slst (acons (scall (d__law_taken T) hr (by decide) tkF (acons (sv 0) (acons sint anil))) (acons (scall (d__law_taken T) hr (by decide) tkF (acons (sv 0) (acons sint anil))) (acons (sop op_sub oSubS (scall (d__law_taken T) hr (by decide) tkF (acons (sv 0) (acons sint anil))) sint) (acons sint anil))))) (sv 1)))) ssnil)
  (ssone
  (sret (six hr (slst (acons (sop op_sub oSubS (scall (d__law_taken T) hr (by decide) tkF (acons (sv 0) (acons sint anil))) sint) (acons (six hr (slst (acons sint (acons (sop op_sub oSubS sint sint) anil))) (scall (d__law_taken T) hr (by decide) tkF (acons (sv 0) (acons sint anil)))) anil))) (sop op_sub oSubS (sv 1) sint))))))⟩
theorem sc__law_rights : FnScope n__law_rights p__law_rights (defScope s__law_rights) := ⟨rfl, rfl, rfl, by decide +kernel, rfl, by decide +kernel, by decide +kernel⟩
theorem d__law_rights (T : Txt K w mg) : Dfn P w K mg base "_law_rights" 2 m__law_rights := dfn_of T.t__law_rights sc__law_rights fun f cd A outer s H E hr => ⟨_, by
  unfold b__law_rights
  exact
  (sscons
  (sset 1 (sc__law_rights).nd (six hr (slst (acons sint (acons sint (acons sint anil)))) (scall (d__law_taken T) hr (by decide) tkF (acons (sv 0) (acons sint anil)))))
  (ssone
  (sret (smt PySem.F.plainAttrs_str PySem.F.slot_str_join PySem.F.type_str_join mt_join oJoinS sstr (acons (by (refine' slc (own := [("_law_sign", 2)]) fin_f rfl (sc__law_rights).nd ?hi0 ?ok0 ?hg0 ?ht0 ?he0 ?hw0); (case hi0 => exact (iany sstr)); (case ok0 => exact blkOk_by (own := [("_law_sign", 2)]) (N := n__law_rights) (sc := (defScope s__law_rights)) (by decide +kernel)); (case hg0 => exact fun _ _ _ _ _ => sg_fix (gname (i := 2) (sc__law_rights).nd) (by first | exact rfl | (dsimp only [Cx.blk] <;> exact rfl))); (case ht0 => exact fun _ _ _ _ _ => sts_fix (stsone (tcmp op_gt oGtS (scall (d__law_taken T) (by exact hr) (by decide) takes0 (acons (sv 0) (acons (sv 1) anil))) sint (nomark _))) (by first | exact rfl | (dsimp only [Cx.blk] <;> exact rfl))); (case he0 => exact fun _ _ _ _ _ => se_fix (sv 2) (by first | exact rfl | (dsimp only [Cx.blk] <;> exact rfl))); (case hw0 => decide)) anil)))))⟩
theorem sc__law_row : FnScope n__law_row p__law_row (defScope s__law_row) := ⟨rfl, rfl, rfl, by decide +kernel, rfl, by decide +kernel, by decide +kernel⟩
theorem d__law_row (T : Txt K w mg) : Dfn P w K mg base "_law_row" 3 m__law_row := dfn_of T.t__law_row sc__law_row fun f cd A outer s H E hr => ⟨_, by
  unfold b__law_row
  exact
  (sscons
  (sset 3 (sc__law_row).nd (slst (acons sstr (acons sstr (acons sstr (acons sstr (acons sstr (acons sstr (acons sstr (acons sstr (acons sstr (acons sstr (acons sstr (acons sstr (acons sstr (acons sstr anil))))))))))))))))
  (sscons
  (sset 3 (sc__law_row).nd (sop oAdd oAddS (sv 3) (slst (acons sstr (acons sstr (acons sstr (acons sstr (acons sstr (acons sstr (acons sstr (acons sstr (acons sstr (acons sstr anil)))))))))))))
  (sscons
  (sset 4 (sc__law_row).nd (six hr (sv 3) (scall (d__law_taken T) hr (by decide) tkF (acons (sv 0) (acons sint anil)))))
  (sscons
  (sparT (i := 5) (j := 6) (l := 7) rfl (sc__law_row).nd (acons (scall (d__law_taken T) hr (by decide) tkF (acons (sv 0) (acons sint anil))) (acons (scall (d__law_taken T) hr (by decide) tkF (acons (sv 0) (acons sint anil))) (acons (scall (d__law_taken T) hr (by decide) tkF (acons (sv 0) (acons sint anil))) anil))))
  (sscons
  (sset 8 (sc__law_row).nd (sop oAdd oAddS (sv 1) (scall (d__law_taken T) hr (by decide) tkF (acons (sv 0) (acons (sop op_sub oSubS (sv 2) (sv 1)) anil)))))
  (sscons
  (sifS (tcmp (oEq hr) oEqS (scall (d__law_taken T) hr (by decide) tkF (acons (sv 0) (acons sint anil))) sint (nomark _)) (ssone
  (sset 8 (sc__law_row).nd (scall (d__law_taken T) hr (by decide) tkF (acons (sv 0) (acons (sv 2) anil))))) ssnil)
  (sscons
  (sifS (tcmp (oIn hr) oInS (sv 4) (stup (acons sstr (acons sstr (acons sstr (acons sstr (acons sstr anil)))))) (by with_unfolding_all rfl)) (ssone
  (sret (stup (acons (sv 4) (acons (sv 5) (acons (sv 6) (acons (sv 7) anil))))))) ssnil)
  (sscons
  (sifS (tcmp (oIn hr) oInS (sv 4) (stup (acons sstr (acons sstr anil))) (by with_unfolding_all rfl)) (sscons
  (sset 9 (sc__law_row).nd (six hr (slst (acons sint (acons sint (acons (sop op_sub oSubS (scall (d__law_taken T) hr (by decide) tkF (acons (sv 0) (acons sint anil))) sint) (acons (sop op_sub oSubS (scall (d__law_taken T) hr (by decide) tkF (acons (sv 0) (acons sint anil))) sint) anil))))) (scall (d__law_taken T) hr (by decide) tkF (acons (sv 0) (acons sint anil)))))
  (ssone
  (sret (sif (tcmp (oEq hr) oEqS (sv 4) sstr (nomark _)) (stup (acons (sv 4) (acons (sv 5) (acons (sv 6) (acons (sv 9) anil))))) (stup (acons (sv 4) (acons (sv 6) (acons (sv 9) (acons (sv 7) anil))))))))) ssnil)
  (sscons
  (sset 10 (sc__law_row).nd (sdctN (spcons sstr (stup (acons (sv 5) (acons (scall (d__law_number T) hr (by decide) tkF (acons (sv 0) anil)) anil))) (spcons sstr (stup (acons (sv 5) (acons (sv 6) (acons (scall (d__law_rights T) hr (by decide) tkF (acons (sv 0) anil)) anil)))) (spcons sstr (stup (acons (sv 8) anil)) (spcons sstr (stup (acons (sv 6) (acons (sv 8) anil))) (spcons sstr (stup anil) spnil)))))))
  (sscons
  (sexpr (smt PySem.F.plainAttrs_dict PySem.F.slot_dict_update PySem.F.type_dict_update (mt_upd rfl) oUpdS (sv 10) (acons (slst (acons (stup (acons sstr (acons (stup (acons (sv 5) (acons (sv 6) (acons (scall (d__law_taken T) hr (by decide) tkF (acons (sv 0) (acons (sop oAdd oAddS (sv 2) sint) anil))) anil)))) anil))) (acons (stup (acons sstr (acons (stup (acons (sv 5) (acons (sv 6) anil))) anil))) (acons (stup (acons sstr (acons (stup (acons (sv 5) (acons (sv 6) anil))) anil))) anil)))) anil)))
  (ssone
  (sret (sop oAdd oAddS (stup (acons (sv 4) anil)) (sget2 hr (sv 10) (sv 4) (stup (acons (sv 6) anil))))))))))))))))⟩
theorem sc__law_program : FnScope n__law_program p__law_program (defScope s__law_program) := ⟨rfl, rfl, rfl, by decide +kernel, rfl, by decide +kernel, by decide +kernel⟩
theorem d__law_program (T : Txt K w mg) : Dfn P w K mg base "_law_program" 4 m__law_program := dfn_of T.t__law_program sc__law_program fun f cd A outer s H E hr => ⟨_, by
  unfold b__law_program
  exact
  (sscons
  (sset 2 (sc__law_program).nd (sop oAdd oAddS sint (scall (d__law_taken T) hr (by decide) tkF (acons (sv 0) (acons (sv 1) anil)))))
  (sscons
  (by (refine' ssetLc 3 (own := [("_law_at", 4)]) fin_f rfl (sc__law_program).nd ?hi0 ?ok0 ?hg0 ?ht0 ?he0 ?hw0); (case hi0 => exact (irng1 T.z_range (acons (sv 2) anil))); (case ok0 => exact blkOk_by (own := [("_law_at", 4)]) (N := n__law_program) (sc := (defScope s__law_program)) (by decide +kernel)); (case hg0 => exact fun _ _ _ _ _ => sg_fix (gname (i := 4) (sc__law_program).nd) (by first | exact rfl | (dsimp only [Cx.blk] <;> exact rfl))); (case ht0 => exact fun _ _ _ _ _ => sts_fix stsnil (by first | exact rfl | (dsimp only [Cx.blk] <;> exact rfl))); (case he0 => exact fun _ _ _ _ _ => se_fix (scall (d__law_row T) (by exact hr) (by decide) takes0 (acons (sv 0) (acons (sv 4) (acons (sv 2) anil)))) (by first | exact rfl | (dsimp only [Cx.blk] <;> exact rfl))); (case hw0 => decide))
  (ssone
  (sret (styp call_tuple_of oTupS T.z_tuple (acons (by (refine' slc (own := [("_law_one", 5)]) fin_f rfl (sc__law_program).nd ?hi0 ?ok0 ?hg0 ?ht0 ?he0 ?hw0); (case hi0 => exact (iany (sv 3))); (case ok0 => exact blkOk_by (own := [("_law_one", 5)]) (N := n__law_program) (sc := (defScope s__law_program)) (by decide +kernel)); (case hg0 => exact fun _ _ _ _ _ => sg_fix (gname (i := 5) (sc__law_program).nd) (by first | exact rfl | (dsimp only [Cx.blk] <;> exact rfl))); (case ht0 => exact fun _ _ _ _ _ => sts_fix stsnil (by first | exact rfl | (dsimp only [Cx.blk] <;> exact rfl))); (case he0 => exact fun _ _ _ _ _ => se_fix (sif (twd (wand (tcmp (oEq (by exact hr)) oEqS (sv 5) (stup (acons sstr anil)) (nomark _)) (wand1 (tcmp op_gt oGtS (scall (d__law_taken T) (by exact hr) (by decide) takes0 (acons (sv 0) (acons sint anil))) sint (nomark _))))) (stup (acons sstr (acons sint anil))) (sv 5)) (by first | exact rfl | (dsimp only [Cx.blk] <;> exact rfl))); (case hw0 => decide)) anil))))))⟩
theorem sc__law_spoilt : FnScope n__law_spoilt p__law_spoilt (defScope s__law_spoilt) := ⟨rfl, rfl, rfl, by decide +kernel, rfl, by decide +kernel, by decide +kernel⟩
theorem d__law_spoilt (T : Txt K w mg) : Dfn P w K mg base "_law_spoilt" 2 m__law_spoilt := dfn_of T.t__law_spoilt sc__law_spoilt fun f cd A outer s H E hr => ⟨_, by
  unfold b__law_spoilt
  exact
  (sscons
  (sset 2 (sc__law_spoilt).nd (scall (d__law_taken T) hr (by decide) tkF (acons (sv 0) (acons sint anil))))
  (sscons
  (sset 3 (sc__law_spoilt).nd (scall (d__law_taken T) hr (by decide) tkF (acons (sv 0) (acons (sop oAdd oAddS (sbuilt oLen oLenS T.z_len (acons (sv 1) anil)) sint) anil))))
  (sscons
  (sset 4 (sc__law_spoilt).nd sstr)
  (sscons
  (sset 5 (sc__law_spoilt).nd (six hr (sv 4) (scall (d__law_taken T) hr (by decide) tkF (acons (sv 0) (acons (sbuilt oLen oLenS T.z_len (acons (sv 4) anil)) anil)))))
  (sscons
  (sifS (tcmp op_lt oLtS (sv 2) sint (nomark _)) (ssone
  (sret (sop oAdd oAddS (sop oAdd oAddS (ssl (sv 1) onone (osome (sv 3))) (six hr (slst (acons (sv 5) (acons sstr (acons (sv 5) anil)))) (sv 2))) (ssl (sv 1) (osome (sop oAdd oAddS (sv 3) (styp oInt oIntS T.z_int (acons (scmp op_gt oGtS (sv 2) sint (nomark _)) anil)))) onone)))) ssnil)
  (sscons
  (sset 6 (sc__law_spoilt).nd (smt PySem.F.plainAttrs_str PySem.F.slot_str_split PySem.F.type_str_split mt_split oSplitS (sv 1) (acons sstr anil)))
  (sscons
  (sset 7 (sc__law_spoilt).nd (scall (d__law_taken T) hr (by decide) tkF (acons (sv 0) (acons (sbuilt oLen oLenS T.z_len (acons (sv 6) anil)) anil))))
  (sscons
  (sifS (tcmp op_lt oLtS (sv 2) sint (nomark _)) (ssone
  (sret (smt PySem.F.plainAttrs_str PySem.F.slot_str_join PySem.F.type_str_join mt_join oJoinS sstr (acons (six hr (slst (acons (sop oAdd oAddS (ssl (sv 6) onone (osome (sv 7))) (ssl (sv 6) (osome (sop oAdd oAddS (sv 7) sint)) onone)) (acons (sop oAdd oAddS (ssl (sv 6) onone (osome (sop oAdd oAddS (sv 7) sint))) (ssl (sv 6) (osome (sv 7)) onone)) (acons (sop oAdd oAddS (ssl (sv 6) (osome (sv 7)) onone) (ssl (sv 6) onone (osome (sv 7)))) anil)))) (sop op_sub oSubS (sv 2) sint)) anil)))) ssnil)
  (sscons
  (sset 8 (sc__law_spoilt).nd (smt PySem.F.plainAttrs_str PySem.F.slot_str_split PySem.F.type_str_split mt_split oSplitS (six hr (sv 6) (sv 7)) (acons sstr anil)))
  (sscons
  (sset 9 (sc__law_spoilt).nd (scall (d__law_taken T) hr (by decide) tkF (acons (sv 0) (acons (sbuilt oLen oLenS T.z_len (acons (sv 8) anil)) anil))))
  (sscons
  (sset 10 (sc__law_spoilt).nd (slst (acons sstr (acons sstr (acons sstr (acons sstr (acons sstr (acons sstr (acons sstr (acons sstr (acons sstr (acons sstr (acons sstr (acons sstr (acons sstr (acons sstr (acons sstr (acons sstr anil))))))))))))))))))
  (sscons
  (sset 10 (sc__law_spoilt).nd (sop oAdd oAddS (sv 10) (slst (acons sstr (acons sstr (acons sstr (acons sstr (acons sstr (acons sstr (acons sstr (acons sstr (acons sstr (acons sstr anil)))))))))))))
  (sscons
  (sset 8 (sc__law_spoilt).nd (sop oAdd oAddS (sop oAdd oAddS (ssl (sv 8) onone (osome (sv 9))) (six hr (slst (acons (slst anil) (acons (sop oMul oMulS (slst (acons (six hr (sv 8) (sv 9)) anil)) sint) (acons (slst (acons (six hr (sv 10) (scall (d__law_taken T) hr (by decide) tkF (acons (sv 0) (acons sint anil)))) anil)) anil)))) (sop op_sub oSubS (sv 2) sint))) (ssl (sv 8) (osome (sop oAdd oAddS (sv 9) sint)) onone)))
  (ssone
  (sret (smt PySem.F.plainAttrs_str PySem.F.slot_str_join PySem.F.type_str_join mt_join oJoinS sstr (acons (sop oAdd oAddS (sop oAdd oAddS (ssl (sv 6) onone (osome (sv 7))) (slst (acons (smt PySem.F.plainAttrs_str PySem.F.slot_str_join PySem.F.type_str_join mt_join oJoinS sstr (acons (sv 8) anil)) anil))) (ssl (sv 6) (osome (sop oAdd oAddS (sv 7) sint)) onone)) anil)))))))))))))))))⟩
theorem sc__law_forms : FnScope n__law_forms p__law_forms (defScope s__law_forms) := ⟨rfl, rfl, rfl, by decide +kernel, rfl, by decide +kernel, by decide +kernel⟩
theorem d__law_forms (T : Txt K w mg) : Dfn P w K mg base "_law_forms" 1 m__law_forms := dfn_of T.t__law_forms sc__law_forms fun f cd A outer s H E hr => ⟨_, by
  unfold b__law_forms
  exact
  (sscons
  (sset 0 (sc__law_forms).nd (sdctN (spcons sstr sstr (spcons sstr sstr (spcons sstr sstr (spcons sstr sstr (spcons sstr sstr (spcons sstr sstr (spcons sstr sstr (spcons sstr sstr spnil))))))))))
  (sscons
  (sexpr (smt PySem.F.plainAttrs_dict PySem.F.slot_dict_update PySem.F.type_dict_update mt_updD oUpdDS (sv 0) (acons (styp (oDictP rfl) oDictPS T.z_dict (acons (by (refine' slc (own := [("_law_word_here", 1)]) fin_f rfl (sc__law_forms).nd ?hi0 ?ok0 ?hg0 ?ht0 ?he0 ?hw0); (case hi0 => exact (iany (stup (acons sstr (acons sstr (acons sstr (acons sstr (acons sstr anil)))))))); (case ok0 => exact blkOk_by (own := [("_law_word_here", 1)]) (N := n__law_forms) (sc := (defScope s__law_forms)) (by decide +kernel)); (case hg0 => exact fun _ _ _ _ _ => sg_fix (gname (i := 1) (sc__law_forms).nd) (by first | exact rfl | (dsimp only [Cx.blk] <;> exact rfl))); (case ht0 => exact fun _ _ _ _ _ => sts_fix stsnil (by first | exact rfl | (dsimp only [Cx.blk] <;> exact rfl))); (case he0 => exact fun _ _ _ _ _ => se_fix (stup (acons (sv 1) (acons sstr anil))) (by first | exact rfl | (dsimp only [Cx.blk] <;> exact rfl))); (case hw0 => decide)) anil)) anil)))
  (sscons
  (sexpr (smt PySem.F.plainAttrs_dict PySem.F.slot_dict_update PySem.F.type_dict_update mt_updD oUpdDS (sv 0) (acons (styp (oDictP rfl) oDictPS T.z_dict (acons (sop oAdd oAddS (by (refine' slc (own := [("_law_word_here", 1)]) fin_f rfl (sc__law_forms).nd ?hi0 ?ok0 ?hg0 ?ht0 ?he0 ?hw0); (case hi0 => exact (iany (stup (acons sstr (acons sstr (acons sstr (acons sstr anil))))))); (case ok0 => exact blkOk_by (own := [("_law_word_here", 1)]) (N := n__law_forms) (sc := (defScope s__law_forms)) (by decide +kernel)); (case hg0 => exact fun _ _ _ _ _ => sg_fix (gname (i := 1) (sc__law_forms).nd) (by first | exact rfl | (dsimp only [Cx.blk] <;> exact rfl))); (case ht0 => exact fun _ _ _ _ _ => sts_fix stsnil (by first | exact rfl | (dsimp only [Cx.blk] <;> exact rfl))); (case he0 => exact fun _ _ _ _ _ => se_fix (stup (acons (sv 1) (acons sstr anil))) (by first | exact rfl | (dsimp only [Cx.blk] <;> exact rfl))); (case hw0 => decide)) (slst (acons (stup (acons sstr (acons sstr anil))) (acons (stup (acons sstr (acons sstr anil))) anil)))) anil)) anil)))
  (ssone
  (sret (sv 0))))))⟩
theorem sc__law_part : FnScope n__law_part p__law_part (defScope s__law_part) := ⟨rfl, rfl, rfl, by decide +kernel, rfl, by decide +kernel, by decide +kernel⟩
theorem d__law_part (T : Txt K w mg) : Dfn P w K mg base "_law_part" 1 m__law_part := dfn_of T.t__law_part sc__law_part fun f cd A outer s H E hr => ⟨_, by
  unfold b__law_part
  exact
  (sscons
  (sifS (tcmp (oEq hr) oEqS (sv 1) sstr (nomark _)) (sscons
  (sset 3 (sc__law_part).nd (smt PySem.F.plainAttrs_str PySem.F.slot_str_join PySem.F.type_str_join mt_join oJoinS sstr (acons (by (refine' slc (own := [("_law_sign", 8)]) fin_f rfl (sc__law_part).nd ?hi0 ?ok0 ?hg0 ?ht0 ?he0 ?hw0); (case hi0 => exact (iany sstr)); (case ok0 => exact blkOk_by (own := [("_law_sign", 8)]) (N := n__law_part) (sc := (defScope s__law_part)) (by decide +kernel)); (case hg0 => exact fun _ _ _ _ _ => sg_fix (gname (i := 8) (sc__law_part).nd) (by first | exact rfl | (dsimp only [Cx.blk] <;> exact rfl))); (case ht0 => exact fun _ _ _ _ _ => sts_fix (stsone (tcmp (oIn (by exact hr)) oInS (sv 8) (sv 0) (by with_unfolding_all rfl))) (by first | exact rfl | (dsimp only [Cx.blk] <;> exact rfl))); (case he0 => exact fun _ _ _ _ _ => se_fix (sv 8) (by first | exact rfl | (dsimp only [Cx.blk] <;> exact rfl))); (case hw0 => decide)) anil)))
  (ssone
  (sret (sif (twd (wand (tcmp (oIn hr) oInS (sv 0) (stup (acons (sv 3) (acons sstr anil))) (by with_unfolding_all rfl)) (wand1 (tcmp (oNe hr) oNeS (sv 0) sstr (nomark _))))) (sv 3) snon)))) ssnil)
  (sscons
  (sset 4 (sc__law_part).nd (ssl (sv 0) (osome (styp oInt oIntS T.z_int (acons (scmp (oEq hr) oEqS (ssl (sv 0) onone (osome sint)) sstr (nomark _)) anil))) onone))
  (sscons
  (sifS (twd (wor (tnot (tchain op_le op_le oLeS oLeS sint (sbuilt oLen oLenS T.z_len (acons (sv 4) anil)) sint)) (wor1 (tcmp (oNe hr) oNeS (by (refine' slc (own := [("_law_sign", 8)]) fin_f rfl (sc__law_part).nd ?hi0 ?ok0 ?hg0 ?ht0 ?he0 ?hw0); (case hi0 => exact (iany (sv 4))); (case ok0 => exact blkOk_by (own := [("_law_sign", 8)]) (N := n__law_part) (sc := (defScope s__law_part)) (by decide +kernel)); (case hg0 => exact fun _ _ _ _ _ => sg_fix (gname (i := 8) (sc__law_part).nd) (by first | exact rfl | (dsimp only [Cx.blk] <;> exact rfl))); (case ht0 => exact fun _ _ _ _ _ => sts_fix (stsone (tcmp (oNIn (by exact hr)) oNInS (sv 8) sstr (by with_unfolding_all rfl))) (by first | exact rfl | (dsimp only [Cx.blk] <;> exact rfl))); (case he0 => exact fun _ _ _ _ _ => se_fix (sv 8) (by first | exact rfl | (dsimp only [Cx.blk] <;> exact rfl))); (case hw0 => decide)) (slst anil) (nomark _))))) (ssone
  (sret snon)) ssnil)
  (sscons
  (sset 5 (sc__law_part).nd (styp oInt oIntS T.z_int (acons (sv 0) anil)))
  (sscons
  (sasg (six hr (sdct (spcons sstr (stup (acons sint (acons sint anil))) (spcons sstr (stup (acons (sop op_sub oSubS sint sint) (acons sint anil))) (spcons sstr (stup (acons (sop op_sub oSubS sint sint) (acons sint anil))) (spcons sstr (stup (acons sint (acons (sv 2) anil))) (spcons sstr (stup (acons sint (acons (sop op_sub oSubS (sv 2) sint) anil))) spnil)))))) (sv 1)) (gtup rfl (gcons (gname (i := 6) (sc__law_part).nd) (gcons (gname (i := 7) (sc__law_part).nd) gnil))))
  (ssone
  (sret (sif (twd (wand (tcmp (oEq hr) oEqS (styp oStr oStrS T.z_str (acons (sv 5) anil)) (sv 0) (nomark _)) (wand1 (tchain op_le op_le oLeS oLeS (sv 6) (sv 5) (sv 7))))) (sv 5) snon))))))))⟩
theorem sc__law_line : FnScope n__law_line p__law_line (defScope s__law_line) := ⟨rfl, rfl, rfl, by decide +kernel, rfl, by decide +kernel, by decide +kernel⟩
theorem d__law_line (T : Txt K w mg) : Dfn P w K mg base "_law_line" 2 m__law_line := dfn_of T.t__law_line sc__law_line fun f cd A outer s H E hr => ⟨_, by
  unfold b__law_line
  exact
  (sscons
  (sset 2 (sc__law_line).nd (smt PySem.F.plainAttrs_str PySem.F.slot_str_split PySem.F.type_str_split mt_split oSplitS (sv 0) (acons sstr anil)))
  (sscons
  (sset 3 (sc__law_line).nd (sget1 hr (scall0 (d__law_forms T) hr (by decide) tkF) (six hr (sv 2) sint)))
  (sscons
  (sifS (twd (wor (tcmp op_isN oIsS (sv 3) snon (nomark _)) (wor1 (tcmp (oNe hr) oNeS (sbuilt oLen oLenS T.z_len (acons (sv 2) anil)) (sop oAdd oAddS (sbuilt oLen oLenS T.z_len (acons (sv 3) anil)) sint) (nomark _))))) (ssone
  (sret snon)) ssnil)
  (sscons
  (sset 4 (sc__law_line).nd (sop oAdd oAddS (stup (acons (six hr (sv 2) sint) anil)) (styp call_tuple_of oTupS T.z_tuple (acons (by (refine' slc (own := [("_law_k", 5)]) fin_f rfl (sc__law_line).nd ?hi0 ?ok0 ?hg0 ?ht0 ?he0 ?hw0); (case hi0 => exact (irng1 T.z_range (acons (sbuilt oLen oLenS T.z_len (acons (sv 3) anil)) anil))); (case ok0 => exact blkOk_by (own := [("_law_k", 5)]) (N := n__law_line) (sc := (defScope s__law_line)) (by decide +kernel)); (case hg0 => exact fun _ _ _ _ _ => sg_fix (gname (i := 5) (sc__law_line).nd) (by first | exact rfl | (dsimp only [Cx.blk] <;> exact rfl))); (case ht0 => exact fun _ _ _ _ _ => sts_fix stsnil (by first | exact rfl | (dsimp only [Cx.blk] <;> exact rfl))); (case he0 => exact fun _ _ _ _ _ => se_fix (scall (d__law_part T) (by exact hr) (by decide) takes0 (acons (six (by exact hr) (sv 2) (sop oAdd oAddS (sv 5) sint)) (acons (six (by exact hr) (sv 3) (sv 5)) (acons (sv 1) anil)))) (by first | exact rfl | (dsimp only [Cx.blk] <;> exact rfl))); (case hw0 => decide)) anil))))
  (ssone
  (sret (sif (tcmp (oIn hr) oInS snon (sv 4) (by with_unfolding_all rfl)) snon (sv 4))))))))⟩
theorem sc_number_of : FnScope n_number_of p_number_of (defScope s_number_of) := ⟨rfl, rfl, rfl, by decide +kernel, rfl, by decide +kernel, by decide +kernel⟩
theorem d_number_of (T : Txt K w mg) : Dfn P w K mg base "number_of" 1 m_number_of := dfn_of T.t_number_of sc_number_of fun f cd A outer s H E hr => ⟨_, by
  unfold b_number_of
  exact
  (sscons
  (sset 1 (sc_number_of).nd (sif (tcmp (oEq hr) oEqS (ssl (sv 0) onone (osome sint)) sstr (nomark _)) (ssl (sv 0) (osome sint) onone) (sv 0)))
  (sscons
  (sifS (twd (wor (tnot (tchain op_le op_le oLeS oLeS sint (sbuilt oLen oLenS T.z_len (acons (sv 1) anil)) (sglob T.g_MOST_FIGURES))) (wor1 (tcmp (oNe hr) oNeS (by (refine' slc (own := [("sign", 2)]) fin_f rfl (sc_number_of).nd ?hi0 ?ok0 ?hg0 ?ht0 ?he0 ?hw0); (case hi0 => exact (iany (sv 1))); (case ok0 => exact blkOk_by (own := [("sign", 2)]) (N := n_number_of) (sc := (defScope s_number_of)) (by decide +kernel)); (case hg0 => exact fun _ _ _ _ _ => sg_fix (gname (i := 2) (sc_number_of).nd) (by first | exact rfl | (dsimp only [Cx.blk] <;> exact rfl))); (case ht0 => exact fun _ _ _ _ _ => sts_fix (stsone (tcmp (oNIn (by exact hr)) oNInS (sv 2) (sglob T.g_FIGURES) (by with_unfolding_all rfl))) (by first | exact rfl | (dsimp only [Cx.blk] <;> exact rfl))); (case he0 => exact fun _ _ _ _ _ => se_fix (sv 2) (by first | exact rfl | (dsimp only [Cx.blk] <;> exact rfl))); (case hw0 => decide)) (slst anil) (nomark _))))) (ssone
  (sret snon)) ssnil)
  (ssone
  (sret (sif (tcmp (oEq hr) oEqS (styp oStr oStrS T.z_str (acons (styp oInt oIntS T.z_int (acons (sv 0) anil)) anil)) (sv 0) (nomark _)) (styp oInt oIntS T.z_int (acons (sv 0) anil)) snon)))))⟩
theorem sc_part_of : FnScope n_part_of p_part_of (defScope s_part_of) := ⟨rfl, rfl, rfl, by decide +kernel, rfl, by decide +kernel, by decide +kernel⟩
theorem d_part_of (T : Txt K w mg) : Dfn P w K mg base "part_of" 2 m_part_of := dfn_of T.t_part_of sc_part_of fun f cd A outer s H E hr => ⟨_, by
  unfold b_part_of
  exact
  (sscons
  (sifS (tcmp (oEq hr) oEqS (sv 1) sstr (nomark _)) (ssone
  (sret (sif (tcmp (oEq hr) oEqS (sv 0) (sglob T.g_NONE) (nomark _)) sstr (sif (tcmp (oNe hr) oNeS (sv 0) sstr (nomark _)) (sv 0) snon)))) ssnil)
  (ssone
  (sret (scall (d_number_of T) hr (by decide) tkF (acons (sv 0) anil)))))⟩
theorem sc_row_of : FnScope n_row_of p_row_of (defScope s_row_of) := ⟨rfl, rfl, rfl, by decide +kernel, rfl, by decide +kernel, by decide +kernel⟩
theorem d_row_of (T : Txt K w mg) : Dfn P w K mg base "row_of" 5 m_row_of := dfn_of T.t_row_of sc_row_of fun f cd A outer s H E hr => ⟨_, by
  unfold b_row_of
  exact
  (sscons
  (sset 2 (sc_row_of).nd (smt PySem.F.plainAttrs_str PySem.F.slot_str_split PySem.F.type_str_split mt_split oSplitS (sv 0) (acons sstr anil)))
  (sscons
  (sset 3 (sc_row_of).nd (skget T.g_FORMS (six hr (sv 2) sint)))
  (sscons
  (sifS (twd (wor (tcmp op_isN oIsS (sv 3) snon (nomark _)) (wor1 (tcmp (oNe hr) oNeS (sbuilt oLen oLenS T.z_len (acons (sv 2) anil)) (sop oAdd oAddS (sbuilt oLen oLenS T.z_len (acons (sv 3) anil)) sint) (nomark _))))) (ssone
  (sret snon)) ssnil)
  (sscons
  (sset 4 (sc_row_of).nd (sop oAdd oAddS (stup (acons (six hr (sv 2) sint) anil)) (styp call_tuple_of oTupS T.z_tuple (acons (by (refine' slc (own := [("word", 5), ("sort", 6)]) fin_f rfl (sc_row_of).nd ?hi0 ?ok0 ?hg0 ?ht0 ?he0 ?hw0); (case hi0 => exact (izs T.z_zip (acons (ssl (sv 2) (osome sint) onone) (acons (sv 3) anil)))); (case ok0 => exact blkOk_by (own := [("word", 5), ("sort", 6)]) (N := n_row_of) (sc := (defScope s_row_of)) (by decide +kernel)); (case hg0 => exact fun _ _ _ _ _ => sg_fix (gtup rfl (gcons (gname (i := 5) (sc_row_of).nd) (gcons (gname (i := 6) (sc_row_of).nd) gnil))) (by first | exact rfl | (dsimp only [Cx.blk] <;> exact rfl))); (case ht0 => exact fun _ _ _ _ _ => sts_fix stsnil (by first | exact rfl | (dsimp only [Cx.blk] <;> exact rfl))); (case he0 => exact fun _ _ _ _ _ => se_fix (scall (d_part_of T) (by exact hr) (by decide) takes0 (acons (sv 5) (acons (sv 6) anil))) (by first | exact rfl | (dsimp only [Cx.blk] <;> exact rfl))); (case hw0 => decide)) anil))))
  (ssone
  (sret (sif (tval (scall (d_is_row T) hr (by decide) tkF (acons (sv 4) (acons (sv 1) anil)))) (sv 4) snon)))))))⟩
theorem sc_BadText___init__ : FnScope n_BadText___init__ p_BadText___init__ (defScope s_BadText___init__) := ⟨rfl, rfl, rfl, by decide +kernel, rfl, by decide +kernel, by decide +kernel⟩
theorem d_BadText___init__ (T : Txt K w mg) : Xmk P w K mg base "BadText" "line" 1 := xmk_of T.t_BadText___init__ sc_BadText___init__ fun C B newId initId bmB fI cdv A outer s H E xc hb no => pss_cons (ps_expr (pe_xin hb xc rfl (pa_cons (sv (Wx := fun _ _ _ _ => False) 0).pe (pa_cons (sv (Wx := fun _ _ _ _ => False) 1).pe pa_nil)))) (pss_one (ps_xst xc no (sv (Wx := fun _ _ _ _ => False) 0).pe (sv (Wx := fun _ _ _ _ => False) 1).pe))
theorem sc_read : FnScope n_read p_read (defScope s_read) := ⟨rfl, rfl, rfl, by decide +kernel, rfl, by decide +kernel, by decide +kernel⟩
theorem d_read (T : Txt K w mg) : Dfn P w K mg base "read" 6 m_read := dfn_of T.t_read sc_read fun f cd A outer s H E hr => ⟨_, by
  unfold b_read
  exact
  (sscons
  (sset 1 (sc_read).nd (smt PySem.F.plainAttrs_str PySem.F.slot_str_split PySem.F.type_str_split mt_split oSplitS (sv 0) (acons sstr anil)))
  (sscons
  (sset 2 (sc_read).nd (slstN anil))
  (sscons
  (sfor psF rfl (irng1 T.z_range (acons (sbuilt oLen oLenS T.z_len (acons (sv 1) anil)) anil)) (gname (i := 3) (sc_read).nd) (sscons
  (sset 4 (sc_read).nd (scall (d_row_of T) hr (by decide) tkF (acons (six hr (sv 1) (sv 3)) (acons (sbuilt oLen oLenS T.z_len (acons (sv 1) anil)) anil))))
  (sscons
  (sifS (twd (wor (tcmp op_isN oIsS (sv 4) snon (nomark _)) (wor1 (tcmp op_ge oGeS (sv 3) (sglob T.g_MOST_ROWS) (nomark _))))) (ssone
  (sraise rfl (d_BadText___init__ T) hr (by decide) tkF (sv 3))) ssnil)
  (ssone
  (sexpr (smt PySem.F.plainAttrs_list PySem.F.slot_list_append PySem.F.type_list_append mt_append oAppS (sv 2) (acons (sv 4) anil)))))))
  (ssone
  (sret (styp call_tuple_of oTupS T.z_tuple (acons (sv 2) anil)))))))⟩
theorem sc__law_alike : FnScope n__law_alike p__law_alike (defScope s__law_alike) := ⟨rfl, rfl, rfl, by decide +kernel, rfl, by decide +kernel, by decide +kernel⟩
theorem d__law_alike (T : Txt K w mg) : ∀ n : Nat, Dfn P w K mg base "_law_alike" (0 + n) (m__law_alike n)
  | 0 => dfn_bad T.t__law_alike
  | n + 1 => by
    have dg := d__law_alike T n
    exact dfn_of T.t__law_alike sc__law_alike (fun f cd A outer s H E hr => ⟨_, by
  unfold b__law_alike
  exact
  (sscons
  (sifS (twd (wor (tval (sisi (T := "tuple") (by decide) T.z_isinstance T.z_tuple (sv 1))) (wor1 (tval (sisi (T := "list") (by decide) T.z_isinstance T.z_list (sv 1)))))) (sscons
  (sifS (twd (wor (tcmp (oNe hr) oNeS (sisi (T := "tuple") (by decide) T.z_isinstance T.z_tuple (sv 0)) (sisi (T := "tuple") (by decide) T.z_isinstance T.z_tuple (sv 1)) (nomark _)) (wor1 (tnot (tval (sisi2 (T := "tuple") (U := "list") (by decide) (by decide) T.z_isinstance T.z_tuple T.z_list (sv 0))))))) (ssone
  (sret sbl)) ssnil)
  (sscons
  (sifS (tcmp (oNe hr) oNeS (sbuilt oLen oLenS T.z_len (acons (sv 0) anil)) (sbuilt oLen oLenS T.z_len (acons (sv 1) anil)) (nomark _)) (ssone
  (sret sbl)) ssnil)
  (ssone
  (sret (scmp (oEq hr) oEqS (by (refine' slc (own := [("_law_k", 2)]) fin_f rfl (sc__law_alike).nd ?hi0 ?ok0 ?hg0 ?ht0 ?he0 ?hw0); (case hi0 => exact (irng1 T.z_range (acons (sbuilt oLen oLenS T.z_len (acons (sv 1) anil)) anil))); (case ok0 => exact blkOk_by (own := [("_law_k", 2)]) (N := n__law_alike) (sc := (defScope s__law_alike)) (by decide +kernel)); (case hg0 => exact fun _ _ _ _ _ => sg_fix (gname (i := 2) (sc__law_alike).nd) (by first | exact rfl | (dsimp only [Cx.blk] <;> exact rfl))); (case ht0 => exact fun _ _ _ _ _ => sts_fix (stsone (tnot (tval (scall dg (by exact hr) (Nat.le_refl _) takes0 (acons (six (by exact hr) (sv 0) (sv 2)) (acons (six (by exact hr) (sv 1) (sv 2)) anil)))))) (by first | exact rfl | (dsimp only [Cx.blk] <;> exact rfl))); (case he0 => exact fun _ _ _ _ _ => se_fix (sv 2) (by first | exact rfl | (dsimp only [Cx.blk] <;> exact rfl))); (case hw0 => decide)) (slst anil) (nomark _)))))) ssnil)
  (sscons
  (sifS (twd (wor (tcmp op_isN oIsS (sv 1) snon (nomark _)) (wor1 (tcmp op_isN oIsS (sv 0) snon (nomark _))))) (ssone
  (sret (sand (scmp op_isN oIsS (sv 1) snon (nomark _)) (sone (scmp op_isN oIsS (sv 0) snon (nomark _)))))) ssnil)
  (sscons
  (sifS (twd (wor (tval (sisi (T := "bool") (by decide) T.z_isinstance T.z_bool (sv 1))) (wor1 (tval (sisi (T := "bool") (by decide) T.z_isinstance T.z_bool (sv 0)))))) (ssone
  (sret (sand (sisi (T := "bool") (by decide) T.z_isinstance T.z_bool (sv 1)) (sand (sisi (T := "bool") (by decide) T.z_isinstance T.z_bool (sv 0)) (sone (scmp (oEq hr) oEqS (sv 0) (sv 1) (nomark _))))))) ssnil)
  (sscons
  (sifS (tval (sisi (T := "str") (by decide) T.z_isinstance T.z_str (sv 1))) (ssone
  (sret (sand (sisi (T := "str") (by decide) T.z_isinstance T.z_str (sv 0)) (sone (scmp (oEq hr) oEqS (sv 0) (sv 1) (nomark _)))))) ssnil)
  (ssone
  (sret (sand (sisi (T := "int") (by decide) T.z_isinstance T.z_int (sv 0)) (sone (scmp (oEq hr) oEqS (sv 0) (sv 1) (nomark _))))))))))⟩)
theorem sc_law : FnScope n_law p_law (defScope s_law) := ⟨rfl, rfl, rfl, by decide +kernel, rfl, by decide +kernel, by decide +kernel⟩
theorem y_law (T : Txt K w mg) (LB : ∀ x ∈ lamDefs, LamB K mg base x) : BodyC P w K mg base n_law "law" s_law 9 b_law := fun f cd A outer s H E hcd hr => by
  obtain ⟨hxL, c0, P0, h1L, hPL, huL⟩ := T.lt_law
  have hcoL := hcd c0 h1L
  have BL := LB "law" hxL c0 P0 h1L hPL
  obtain ⟨T0, hT⟩ := tagged T.wc
  exact ⟨_, by
  unfold b_law
  exact
  (sscons
  (sset 1 (sc_law).nd (slstN (acons (sv 0) (acons sint (acons sint (acons sint anil))))))
  (sscons
  (sset 2 (sc_law).nd (slst (acons sstr (acons sstr (acons sstr (acons sstr (acons sstr (acons sstr (acons sstr (acons sstr (acons sstr (acons sstr (acons sstr anil)))))))))))))
  (sscons
  (sset 2 (sc_law).nd (sop oAdd oAddS (sv 2) (slst (acons sstr (acons sstr (acons sstr (acons sstr (acons sstr (acons sstr (acons sstr (acons sstr anil)))))))))))
  (sscons
  (sset 2 (sc_law).nd (sop oAdd oAddNS (sv 2) (slst (acons sstr (acons sstr (acons sstr (acons sstr (acons sstr (acons sstr anil)))))))))
  (sscons
  (sexpr (smt PySem.F.plainAttrs_list PySem.F.slot_list_append PySem.F.type_list_append mt_append oAppS (sv 2) (acons (smt PySem.F.plainAttrs_str PySem.F.slot_str_join PySem.F.type_str_join mt_join oJoinS sstr (acons (sop oMul oMulS (slst (acons sstr anil)) sint) anil)) anil)))
  (sscons
  (sexpr (smt PySem.F.plainAttrs_list PySem.F.slot_list_append PySem.F.type_list_append mt_append oAppS (sv 2) (acons (smt PySem.F.plainAttrs_str PySem.F.slot_str_join PySem.F.type_str_join mt_join oJoinS sstr (acons (sop oMul oMulS (slst (acons sstr anil)) sint) anil)) anil)))
  (sscons
  (sexpr (smt PySem.F.plainAttrs_list PySem.F.slot_list_append PySem.F.type_list_append mt_append oAppS (sv 2) (acons (smt PySem.F.plainAttrs_str PySem.F.slot_str_join PySem.F.type_str_join mt_join oJoinS sstr (acons (sop oMul oMulS (slst (acons sstr anil)) sint) anil)) anil)))
  (sscons
  (sfor psF rfl (irng1 T.z_range (acons sint anil)) (gname (i := 3) (sc_law).nd) (sscons
  (sset 4 (sc_law).nd (scall (d_written T) hr (by decide) tkF (acons (scall (d__law_program T) hr (by decide) tkF (acons (sv 1) (acons (six hr (slst (acons sint (acons sint anil))) (scall (d__law_taken T) hr (by decide) tkF (acons (sv 1) (acons sint anil)))) anil))) anil)))
  (sscons
  (sfor psF rfl (irng1 T.z_range (acons (scall (d__law_taken T) hr (by decide) tkF (acons (sv 1) (acons sint anil))) anil)) (gname (i := 5) (sc_law).nd) (ssone
  (sset 4 (sc_law).nd (scall (d__law_spoilt T) hr (by decide) tkF (acons (sv 1) (acons (sv 4) anil))))))
  (ssone
  (sfor psF rfl (iany (slst (acons (sv 4) (acons (six hr (sv 2) (scall (d__law_taken T) hr (by decide) tkF (acons (sv 1) (acons sint anil)))) anil)))) (gname (i := 6) (sc_law).nd) (sscons
  (sset 7 (sc_law).nd (smt PySem.F.plainAttrs_str PySem.F.slot_str_split PySem.F.type_str_split mt_split oSplitS (sv 6) (acons sstr anil)))
  (sscons
  (sset 8 (sc_law).nd (by (refine' slc (own := [("_law_line_here", 10)]) fin_f rfl (sc_law).nd ?hi0 ?ok0 ?hg0 ?ht0 ?he0 ?hw0); (case hi0 => exact (iany (sv 7))); (case ok0 => exact blkOk_by (own := [("_law_line_here", 10)]) (N := n_law) (sc := (defScope s_law)) (by decide +kernel)); (case hg0 => exact fun _ _ _ _ _ => sg_fix (gname (i := 10) (sc_law).nd) (by first | exact rfl | (dsimp only [Cx.blk] <;> exact rfl))); (case ht0 => exact fun _ _ _ _ _ => sts_fix stsnil (by first | exact rfl | (dsimp only [Cx.blk] <;> exact rfl))); (case he0 => exact fun _ _ _ _ _ => se_fix (scall (d__law_line T) (by exact hr) (by decide) takes0 (acons (sv 10) (acons (sbuilt oLen oLenS T.z_len (acons (sv 7) anil)) anil))) (by first | exact rfl | (dsimp only [Cx.blk] <;> exact rfl))); (case hw0 => decide)))
  (sscons
  (by (refine' ssetLc 9 (own := [("_law_k", 11)]) fin_f rfl (sc_law).nd ?hi0 ?ok0 ?hg0 ?ht0 ?he0 ?hw0); (case hi0 => exact (irng1 T.z_range (acons (sbuilt oLen oLenS T.z_len (acons (sv 8) anil)) anil))); (case ok0 => exact blkOk_by (own := [("_law_k", 11)]) (N := n_law) (sc := (defScope s_law)) (by decide +kernel)); (case hg0 => exact fun _ _ _ _ _ => sg_fix (gname (i := 11) (sc_law).nd) (by first | exact rfl | (dsimp only [Cx.blk] <;> exact rfl))); (case ht0 => exact fun _ _ _ _ _ => sts_fix (stsone (twd (wor (tcmp op_isN oIsS (six (by exact hr) (sv 8) (sv 11)) snon (nomark _)) (wor1 (tcmp op_gt oGtS (sv 11) sint (nomark _)))))) (by first | exact rfl | (dsimp only [Cx.blk] <;> exact rfl))); (case he0 => exact fun _ _ _ _ _ => se_fix (sv 11) (by first | exact rfl | (dsimp only [Cx.blk] <;> exact rfl))); (case hw0 => decide))
  (ssone
  (sifS (tcmp (oNe hr) oNeS (sv 9) (slst anil) (nomark _)) (ssone
  (sifS (tcmp (oNe hr) oNeS (by (refine' slamW (k := 7) (word_fn T hT) T.wc hT hxL hPL huL BL hcoL hr (by decide) (LamX.lamS_by (by show LamX.lamSB (defScope s_law) _ = true; decide +kernel)) ?hbL); (case hbL => exact fun Az oz sz Hz Ez fz cz hr => se_fix (scall (d_read T) (by exact hr) (by decide) tkL (acons (sv 6) anil)) (by first | exact rfl | (dsimp only [LamX.lamCx] <;> exact rfl)))) (stup (acons sstr (acons (six hr (sv 9) sint) anil))) (nomark _)) (ssone
  (sret sbl)) ssnil)) (ssone
  (sifS (tnot (tval (scall (d__law_alike T 4) hr (by decide) tkF (acons (scall (d_read T) hr (by decide) tkF (acons (sv 6) anil)) (acons (styp call_tuple_of oTupS T.z_tuple (acons (sv 8) anil)) anil))))) (ssone
  (sret sbl)) ssnil))))))))))))
  (ssone
  (sret sbl))))))))))⟩
end
end K19

set_option Elab.async false
set_option linter.all false
set_option maxRecDepth 100000
set_option maxHeartbeats 4000000
/-! K19P: rows of programs, written and read. -/
namespace K19
open PySem Tg L2
open SX (S)
/-- a part of a row: a number, rights -/
inductive PT where
  | n (i : Int) | t (l : List Nat)
def PT.d : PT → D
  | .n i => .int i
  | .t l => .str (S l)
def PT.s : PT → List Nat
  | .n i => numC i
  | .t [] => [45]
  | .t (c :: l) => c :: l
def R16 : List (List Nat) := [[], [115], [108], [108, 115], [104], [104, 115], [104, 108], [104, 108, 115], [103], [103, 115], [103, 108], [103, 108, 115], [103, 104], [103, 104, 115], [103, 104, 108], [103, 104, 108, 115]]
inductive PT.Ok (rows : Nat) : Nat → PT → Prop
  | b {i : Int} : 0 ≤ i → i < 8 → PT.Ok rows 98 (.n i)
  | n {i : Int} : -10000 ≤ i → i < 10000 → PT.Ok rows 110 (.n i)
  | o {i : Int} : -63 ≤ i → i < 64 → PT.Ok rows 111 (.n i)
  | g {i : Int} : 0 ≤ i → i < rows + 1 → PT.Ok rows 103 (.n i)
  | r {i : Int} : 0 ≤ i → i < rows → PT.Ok rows 114 (.n i)
  | t {l : List Nat} : l ∈ R16 → PT.Ok rows 116 (.t l)
structure RW where
  w : List Nat
  ps : List PT
def RW.d (r : RW) : D := .tup (.str (S r.w) :: r.ps.map PT.d)
def RW.parts (r : RW) : List (List Nat) := r.w :: r.ps.map PT.s
def RW.s (r : RW) : List Nat := TL.joinL [32] r.parts
def txt (prog : List RW) : List Nat := TL.joinL [10] (prog.map RW.s)
def forms : List (List Nat × List Nat) := [([112, 117, 116], [98, 110]), ([109, 111, 118, 101], [98, 98]), ([97, 100, 100], [98, 98, 98]), ([116, 97, 107, 101], [98, 98, 98]), ([108, 101, 115, 115], [98, 98, 98]), ([115, 97, 109, 101], [98, 98, 98]), ([105, 115], [98, 98]), ([103, 101, 116], [98, 98, 111]), ([115, 101, 116], [98, 111, 98]), ([110, 97, 114, 114, 111, 119], [98, 98, 98]), ([102, 101, 119, 101, 114], [98, 98, 116]), ([103, 97, 116, 101], [98, 98, 103]), ([101, 110, 116, 101, 114], [98]), ([114, 111, 111, 109], [98]), ([115, 104, 117, 116], [98]), ([115, 97, 121], [98]), ([103, 111], [114]), ([105, 102], [98, 114]), ([101, 110, 100], [])]
def RW.Ok (rows : Nat) (r : RW) : Prop := ∃ f, (r.w, f) ∈ forms ∧ All2 (PT.Ok rows) f r.ps
theorem fm_look : ∀ e ∈ forms, tb_FORMS.lookup (S e.1) = some (S e.2) := by decide +kernel
theorem fm_word : ∀ e ∈ forms, e.1 ≠ [] ∧ e.1.length ≤ 6 ∧ 32 ∉ e.1 ∧ 10 ∉ e.1 ∧ e.2.length ≤ 3 ∧ PyData.strOk (S e.1) = true := by decide +kernel
theorem r_word : ∀ l ∈ R16, l.length ≤ 4 ∧ 32 ∉ l ∧ 10 ∉ l ∧ 45 ∉ l ∧ PyData.strOk (S l) = true := by decide +kernel
theorem PT.Ok.rng {rows c : Nat} {i : Int} (h : PT.Ok rows c (.n i)) (hr : rows ≤ 60) : -100000 < i ∧ i < 100000 := by
  cases h <;> omega
theorem PT.Ok.facts {rows c : Nat} {p : PT} (h : PT.Ok rows c p) (hr : rows ≤ 60) : p.s ≠ [] ∧ p.s.length ≤ 6 ∧ 32 ∉ p.s ∧ 10 ∉ p.s := by
  cases p with
  | n i =>
    obtain ⟨h0, h1⟩ := h.rng hr
    exact ⟨numC_ne i, numC_len h0 h1, numC_free (by decide) (by decide), numC_free (by decide) (by decide)⟩
  | t l =>
    cases h with
    | t hl =>
      obtain ⟨a, b, c, _, _⟩ := r_word l hl
      cases l with
      | nil => exact ⟨by simp [PT.s], by simp [PT.s], by simp [PT.s], by simp [PT.s]⟩
      | cons x l => exact ⟨by simp [PT.s], Nat.le_trans a (by decide), b, c⟩
/-! ### parts -/
theorem kIt_str {z : Str} {A : AH} : kIt (.ok (.str z) A) = .ok (.data (signs z)) A := rfl
theorem joinL_one : ∀ l : List Nat, TL.joinL [] (l.map fun c => [c]) = l
  | [] => rfl
  | [c] => rfl
  | c :: d :: l => by
    show [c] ++ ([] ++ TL.joinL [] ((d :: l).map fun c => [c])) = _
    rw [joinL_one (d :: l)]
    rfl
theorem e_emp : Str.ofString "" = S [] := by decide
theorem e_rts : Str.ofString "ghls" = S [103, 104, 108, 115] := by decide
theorem sg_rts : signs (S [103, 104, 108, 115]) = [.str ⟨#[103]⟩, .str ⟨#[104]⟩, .str ⟨#[108]⟩, .str ⟨#[115]⟩] := rfl
def raL : ME := mLc (miAny (mc g_RIGHTS)) (gmN 1) (mTb (mBin inD (mv 1) (mv 0))) (mv 1) [1] finF
theorem raL_ok {l : List Nat} (h : l ∈ R16) {A : AH} : raL [some (.str (S l)), none] A = .ok (.lst (l.map fun c => .str (S [c]))) A := by
  have h' := h
  simp only [R16, List.mem_cons, List.not_mem_nil, or_false] at h'
  rcases h' with rfl | rfl | rfl | rfl | rfl | rfl | rfl | rfl | rfl | rfl | rfl | rfl | rfl | rfl | rfl | rfl
  all_goals simp [raL, g_RIGHTS, kIt_str, e_rts, sg_rts, in_S]
theorem are_ok {l : List Nat} (h : l ∈ R16) {A : AH} : m_are_rights [.str (S l)] A = .ok (.bl true) A := by
  have e0 : m_are_rights [.str (S l)] A = finS (mRet (mAndV (mUn (isiD "str") (mv 0)) (mBin eqD (mv 0) (mMt "str" joinD (mc (.str "")) (mCons raL mNil)))) [some (.str (S l)), none] A) := rfl
  have e1 : joinD (.str (S [])) [.lst (l.map fun c => .str (S [c]))] A = .ok (.str (S l)) A := by
    have := join_S (A := A) (s := []) (k := 1) (ls := l.map fun c => [c]) (fun x hx => by
      obtain ⟨c, _, rfl⟩ := List.mem_map.mp hx
      exact Nat.le_refl 1) (by rw [List.length_map]; have := (r_word l h).1; omega)
    rw [joinL_one, List.map_map] at this
    exact this
  rw [e0]
  simp [subTy, raL_ok h, e_emp, e1, tyMD]
theorem within_ok {i lo hi : Int} {A : AH} (h1 : lo ≤ i) (h2 : i < hi) : m_is_within [.int i, .int lo, .int hi] A = .ok (.bl true) A := by
  have e0 : m_is_within [.int i, .int lo, .int hi] A = finS (b_is_within [some (.int i), some (.int lo), some (.int hi)] A) := rfl
  have e1 : ∀ x B, m_is_number [x] B = finS (b_is_number [some x] B) := fun _ _ => rfl
  rw [e0]
  simp [b_is_within, e1, b_is_number, subTy, h1, h2]
theorem k_b : (⟨#[98]⟩ : Str) = Str.ofString "b" := by decide
theorem k_n : (⟨#[110]⟩ : Str) = Str.ofString "n" := by decide
theorem k_o : (⟨#[111]⟩ : Str) = Str.ofString "o" := by decide
theorem k_g : (⟨#[103]⟩ : Str) = Str.ofString "g" := by decide
theorem k_r : (⟨#[114]⟩ : Str) = Str.ofString "r" := by decide
theorem k_t : (⟨#[116]⟩ : Str) = Str.ofString "t" := by decide
theorem part_is {rows c : Nat} {p : PT} (h : PT.Ok rows c p) {A : AH} : m_is_part [p.d, .str ⟨#[c]⟩, .int rows] A = .ok (.bl true) A := by
  have e0 : m_is_part [p.d, .str ⟨#[c]⟩, .int rows] A = finS (b_is_part [some p.d, some (.str ⟨#[c]⟩), some (.int rows), none] A) := rfl
  rw [e0]
  cases h with
  | b h1 h2 =>
    rw [k_b]
    simp [b_is_part, PT.d, g_BOXES, g_HALF, g_OFFSET, keysD, keyD, mergeD, ptK, lkK, ixD, dctD, itemsD, within_ok h1 h2]
  | n h1 h2 =>
    rw [k_n]
    simp [b_is_part, PT.d, g_BOXES, g_HALF, g_OFFSET, keysD, keyD, mergeD, ptK, lkK, ixD, dctD, itemsD, within_ok h1 h2]
  | o h1 h2 =>
    rw [k_o]
    simp [b_is_part, PT.d, g_BOXES, g_HALF, g_OFFSET, keysD, keyD, mergeD, ptK, lkK, ixD, dctD, itemsD, within_ok h1 h2]
  | g h1 h2 =>
    rw [k_g]
    simp [b_is_part, PT.d, g_BOXES, g_HALF, g_OFFSET, keysD, keyD, mergeD, ptK, lkK, ixD, dctD, itemsD, within_ok h1 h2]
  | r h1 h2 =>
    rw [k_r]
    simp [b_is_part, PT.d, g_BOXES, g_HALF, g_OFFSET, keysD, keyD, mergeD, ptK, lkK, ixD, dctD, itemsD, within_ok h1 h2]
  | t h1 =>
    rw [k_t]
    simp [b_is_part, PT.d, are_ok h1]
theorem PT.Ok.okF {rows c : Nat} {p : PT} (h : PT.Ok rows c p) : Tg.okF p.d = true := by
  cases h <;> first
    | rfl
    | (rename_i hl; exact (r_word _ hl).2.2.2.2)
def q1 : MS := (mIfS (mOr (mNot (mTb (mUn (isiD "tuple") (mv 0)))) (mOr (mTb (mBin eqD (mv 0) (mTup mNil))) (mOr (mNot (mTb (mUn (isiD "str") (mBin ixD (mv 0) (mc (.int (0))))))) (mTb (mUn (kninD tb_FORMS) (mBin ixD (mv 0) (mc (.int (0))))))))) (mRet (mc (.bl false))) mNx)
def q2 : MS := (mAsg (mUn (kixD tb_FORMS) (mBin ixD (mv 0) (mc (.int (0))))) (gmN 2))
def q3 : MS := (mIfS (mTb (mBin neD (mCall lenD (mCons (mv 0) mNil)) (mBin addD (mCall lenD (mCons (mv 2) mNil)) (mc (.int (1)))))) (mRet (mc (.bl false))) mNx)
def qL : ME := (mLc (mRng1 (mCons (mCall lenD (mCons (mv 2) mNil)) mNil)) (gmN 3) (mNot (mTb (mCall m_is_part (mCons (mBin ixD (mv 0) (mBin addD (mv 3) (mc (.int (1))))) (mCons (mBin ixD (mv 2) (mv 3)) (mCons (mv 1) mNil)))))) (mv 3) [3] finF)
def qT : MT := (mNot (mTb (mCall m_is_part (mCons (mBin ixD (mv 0) (mBin addD (mv 3) (mc (.int (1))))) (mCons (mBin ixD (mv 2) (mv 3)) (mCons (mv 1) mNil))))))
theorem okFs {rows : Nat} {f : List Nat} {ps : List PT} (h : All2 (PT.Ok rows) f ps) : (ps.map PT.d).all Tg.okF = true := by
  induction h with
  | nil => rfl
  | cons h1 _ ih => rw [List.map_cons, List.all_cons, h1.okF, ih]; rfl
theorem eq_nil {d : D} {ds : List D} {A : AH} (h : (d :: ds).all Tg.okF = true) : eqD (.tup (d :: ds)) (.tup []) A = .ok (.bl false) A := by
  rw [eq_tupF (by rw [h]; rfl)]
  rfl
theorem row_is {rows : Nat} {r : RW} (h : r.Ok rows) {A : AH} : m_is_row [r.d, .int rows] A = .ok (.bl true) A := by
  obtain ⟨f, hf, h2⟩ := h
  have e0 : m_is_row [r.d, .int rows] A = finS (mSeq q1 (mSeq q2 (mSeq q3 (mRet (mBin eqD qL (mLst mNil))))) [some r.d, some (.int rows), none, none] A) := rfl
  have hlook := fm_look _ hf
  obtain ⟨w1, w2, w3, w4, w5, w6⟩ := fm_word _ hf
  have hall : (D.str (S r.w) :: r.ps.map PT.d).all Tg.okF = true := by
    rw [List.all_cons, okFs h2, Bool.and_true]
    exact w6
  have hl := h2.len
  dsimp only at hlook w1 w2 w3 w4 w5 w6
  have c1 : q1 [some r.d, some (.int rows), none, none] A = .nx [some r.d, some (.int rows), none, none] A := by
    simp [q1, RW.d, subTy, eq_nil hall, kninD, hlook]
  have c2 : q2 [some r.d, some (.int rows), none, none] A = .nx [some r.d, some (.int rows), some (.str (S f)), none] A := by
    simp [q2, RW.d, kixD, hlook]
  have lz : lenD [.str (S f)] A = .ok (.int f.length) A := len_S (Nat.le_trans w5 (by decide))
  have c3 : q3 [some r.d, some (.int rows), some (.str (S f)), none] A = .nx [some r.d, some (.int rows), some (.str (S f)), none] A := by
    simp [q3, RW.d, lz, hl]
  have c4 : qL [some r.d, some (.int rows), some (.str (S f)), none] A = .ok (.lst []) A := by
    have e : (mCons (mCall lenD (mCons (mv 2) mNil)) mNil) [some r.d, some (.int rows), some (.str (S f)), none] A = .ok [.int (f.length : Int)] A := by simp [lz]
    have hk : f.length < 16777216 := Nat.lt_of_le_of_lt w5 (by decide)
    have := lc_pure (g := gmN 3) (tt := qT) (te := mv 3) (vs := [3]) (fun _ => false) (fun d => d) (rng1 e hk) (by rw [List.length_map, List.length_range]; exact hk) (fun d hd => by
      obtain ⟨i, hi', rfl⟩ := List.mem_map.mp hd
      have hi := List.mem_range.mp hi'
      have hi2 : i < r.ps.length := by omega
      have hp := part_is (A := A) (h2.get i hi hi2)
      have x1 : ixD r.d (.int ((i : Int) + 1)) A = .ok (r.ps[i]).d A := by
        refine ix_tup ?_
        have := atI_ok (xs := D.str (S r.w) :: r.ps.map PT.d) (i := i + 1) (v := (r.ps[i]).d) (by rw [List.getElem?_cons_succ, List.getElem?_map, List.getElem?_eq_getElem hi2]; rfl)
        exact this
      have x2 : ixD (.str (S f)) (.int (i : Int)) A = .ok (.str ⟨#[f[i]]⟩) A := ix_ofS (by rw [SX.S_len]; omega) (atI_ok (List.getElem?_eq_getElem hi))
      exact ⟨_, rfl, by simp [qT, wpD, x1, x2, hp], fun q => nomatch q⟩)
    rw [show ∀ l : List D, l.filter (fun _ => false) = [] from fun l => by simp] at this
    exact this
  have c5 : eqD (.lst []) (.lst []) A = .ok (.bl true) A := eq_lstF rfl
  have c6 : (mRet (mBin eqD qL (mLst mNil))) [some r.d, some (.int rows), some (.str (S f)), none] A = .rt (.bl true) A := by
    rw [e_ret, e_bin, c4, kB1_0, e_lst, e_nil]
    simp [c5]
  rw [e0, e_seq, c1, RS.nxt_nx, e_seq, c2, RS.nxt_nx, e_seq, c3, RS.nxt_nx, c6, finS_rt]
end K19

set_option Elab.async false
set_option linter.all false
set_option maxRecDepth 100000
set_option maxHeartbeats 4000000
/-! K19Q: read, written. -/
namespace K19
open PySem Tg L2
open SX (S)
theorem sl_S {l : List Nat} {lo hi : Option Int} {A : AH} (h : l.length ≤ 16777216) : slD (.str (S l)) lo hi A = .ok (.str (cutS (S l) lo hi)) A := by
  show (if (S l).length ≤ 16777216 then R.ok (D.str (cutS (S l) lo hi)) A else .bad) = _
  rw [SX.S_len, if_pos h]
def digs (i : Int) : List Nat := TL.numL i.natAbs
theorem num_cases (i : Int) : (numC i = digs i ∧ (digs i).take 1 ≠ [45]) ∨ numC i = 45 :: digs i := by
  unfold numC
  by_cases h : 0 ≤ i
  · refine .inl ⟨?_, fun q => ?_⟩
    · rw [if_pos h]
      unfold digs
      rw [show i.natAbs = i.toNat by omega]
    · have : 45 ∈ digs i := List.mem_of_mem_take (i := 1) (by rw [q]; simp)
      exact TL.numL_free (by decide) this
  · refine .inr ?_
    rw [if_neg h]
    unfold digs
    rw [show i.natAbs = (-i).toNat by omega]
theorem e_dash : Str.ofString "-" = S [45] := by decide
theorem e_fig : Str.ofString "0123456789" = S [48, 49, 50, 51, 52, 53, 54, 55, 56, 57] := by decide
theorem e_sp : Str.ofString " " = S [32] := by decide
theorem e_nl : Str.ofString "\n" = S [10] := by decide
theorem signs_S {l : List Nat} : signs (S l) = l.map fun c => .str ⟨#[c]⟩ := rfl
def nA : MS := (mAsg (mIf (mTb (mBin eqD (mSl (mv 0) mNoPart (mPart (mc (.int (1))))) (mc (.str "-")))) (mSl (mv 0) (mPart (mc (.int (1)))) mNoPart) (mv 0)) (gmN 1))
def nB : MS := (mIfS (mOr (mNot (mTb (mChain leD leD (mc (.int (1))) (mCall lenD (mCons (mv 1) mNil)) (mc g_MOST_FIGURES)))) (mTb (mBin neD (mLc (miAny (mv 1)) (gmN 2) (mTb (mBin ninD (mv 2) (mc g_FIGURES))) (mv 2) [2] finF) (mLst mNil)))) (mRet (mc .non)) mNx)
def nC : MS := (mRet (mIf (mTb (mBin eqD (mCall strD (mCons (mCall intD (mCons (mv 0) mNil)) mNil)) (mv 0))) (mCall intD (mCons (mv 0) mNil)) (mc .non)))
def nL : ME := mLc (miAny (mv 1)) (gmN 2) (mTb (mBin ninD (mv 2) (mc g_FIGURES))) (mv 2) [2] finF
theorem nL_ok {w : D} {l : List Nat} {A : AH} (h : ∀ c ∈ l, 48 ≤ c ∧ c ≤ 57) (hl : l.length ≤ 5) : nL [some w, some (.str (S l)), none] A = .ok (.lst []) A := by
  have e : miAny (mv 1) [some w, some (.str (S l)), none] A = .ok (.data (l.map fun c => .str ⟨#[c]⟩)) A := rfl
  have := lc_pure (g := gmN 2) (tt := mTb (mBin ninD (mv 2) (mc g_FIGURES))) (te := mv 2) (vs := [2]) (fun _ => false) (fun d => d) e (by rw [List.length_map]; omega) (fun d hd => by
    obtain ⟨c, hc, rfl⟩ := List.mem_map.mp hd
    obtain ⟨h1, h2⟩ := h c hc
    have hm : c ∈ [48, 49, 50, 51, 52, 53, 54, 55, 56, 57] := by
      simp only [List.mem_cons, List.not_mem_nil, or_false]
      omega
    exact ⟨_, rfl, by simp only [e_tb, e_bin, wpD, wp_cons, wp_nil, List.set_cons_succ, List.set_cons_zero, e_mvS, e_mv0, kB1_0, e_mc, kB2_0, g_FIGURES, e_fig, nin_S, decide_eq_true hm, kT_0]; rfl, fun q => nomatch q⟩)
  rw [show ∀ l : List D, l.filter (fun _ => false) = [] from fun l => by simp] at this
  exact this
theorem number_is {i : Int} (h0 : -100000 < i) (h1 : i < 100000) {A : AH} : m_number_of [.str (S (numC i))] A = .ok (.int i) A := by
  have e0 : m_number_of [.str (S (numC i))] A = finS (mSeq nA (mSeq nB nC) [some (.str (S (numC i))), none, none] A) := rfl
  have hl := numC_len h0 h1
  have hd : (digs i).length ≤ 5 := TL.numL_len (by decide) (by show i.natAbs < 100000; omega)
  have hd0 : 1 ≤ (digs i).length := List.length_pos_iff.mpr (TL.numL_ne _)
  have c1 : nA [some (.str (S (numC i))), none, none] A = .nx [some (.str (S (numC i))), some (.str (S (digs i))), none] A := by
    rcases num_cases i with ⟨e, q⟩ | e
    · have q2 : ((S ((digs i).take 1)) == (S [45])) = false := by
        rw [SX.S_beq_eq]
        exact decide_eq_false q
      rw [e]
      simp [nA, sl_S (show (digs i).length ≤ 16777216 by omega), cut_to1, e_dash, q2]
    · rw [e]
      simp [nA, sl_S (show (45 :: digs i).length ≤ 16777216 by rw [List.length_cons]; omega), cut_to1, cut_from1, e_dash]
  have c2 : nB [some (.str (S (numC i))), some (.str (S (digs i))), none] A = .nx [some (.str (S (numC i))), some (.str (S (digs i))), none] A := by
    show mIfS (mOr (mNot (mTb (mChain leD leD (mc (.int (1))) (mCall lenD (mCons (mv 1) mNil)) (mc g_MOST_FIGURES)))) (mTb (mBin neD nL (mLst mNil)))) (mRet (mc .non)) mNx _ _ = _
    have e : nL [some (.str (S (numC i))), some (.str (S (digs i))), none] A = .ok (.lst []) A := nL_ok (fun c hc => TL.numL_digits _ c hc) hd
    have h1' : (1 : Int) ≤ (digs i).length := by omega
    have h5' : ((digs i).length : Int) ≤ 5 := by omega
    have e2 : neD (.lst []) (.lst []) A = .ok (.bl false) A := ne_lstF rfl
    simp [g_MOST_FIGURES, len_S (show (digs i).length ≤ 16777216 by omega), e, h1', h5', e2]
  have c3 : nC [some (.str (S (numC i))), some (.str (S (digs i))), none] A = .rt (.int i) A := by
    simp [nC, int_S h0 h1, str_int h0 h1]
  rw [e0, e_seq, c1, RS.nxt_nx, e_seq, c2, RS.nxt_nx, c3, finS_rt]
theorem part_back {rows c : Nat} {p : PT} (h : PT.Ok rows c p) (hr : rows ≤ 60) {A : AH} : m_part_of [.str (S p.s), .str ⟨#[c]⟩] A = .ok p.d A := by
  have e0 : m_part_of [.str (S p.s), .str ⟨#[c]⟩] A = finS (b_part_of [some (.str (S p.s)), some (.str ⟨#[c]⟩)] A) := rfl
  rw [e0]
  cases h with
  | t hl =>
    rename_i l
    obtain ⟨_, _, _, h45, _⟩ := r_word _ hl
    rw [k_t]
    cases l with
    | nil => simp [b_part_of, PT.s, PT.d, g_NONE, e_dash, e_emp]
    | cons x l =>
      have q1 : (S (x :: l) == S [45]) = false := by
        rw [SX.S_beq_eq]
        exact decide_eq_false fun q => h45 (by rw [q]; simp)
      have q2 : (S (x :: l) == S []) = false := by
        rw [SX.S_beq_eq]
        exact decide_eq_false (by simp)
      simp [b_part_of, PT.s, PT.d, g_NONE, e_dash, e_emp, q1, q2]
  | @b i h1 h2 =>
    rw [k_b]
    simp [b_part_of, PT.s, PT.d, number_is (i := i) (by omega) (by omega)]
  | @n i h1 h2 =>
    rw [k_n]
    simp [b_part_of, PT.s, PT.d, number_is (i := i) (by omega) (by omega)]
  | @o i h1 h2 =>
    rw [k_o]
    simp [b_part_of, PT.s, PT.d, number_is (i := i) (by omega) (by omega)]
  | @g i h1 h2 =>
    rw [k_g]
    simp [b_part_of, PT.s, PT.d, number_is (i := i) (by omega) (by omega)]
  | @r i h1 h2 =>
    rw [k_r]
    simp [b_part_of, PT.s, PT.d, number_is (i := i) (by omega) (by omega)]
/-! ### rows -/
theorem parts_free {rows : Nat} {r : RW} (h : r.Ok rows) (hr : rows ≤ 60) : ∀ l ∈ r.parts, l ≠ [] ∧ l.length ≤ 6 ∧ 32 ∉ l ∧ 10 ∉ l := by
  obtain ⟨f, hf, h2⟩ := h
  obtain ⟨w1, w2, w3, w4, w5, w6⟩ := fm_word _ hf
  intro l hl
  rcases List.mem_cons.mp hl with rfl | hl
  · exact ⟨w1, w2, w3, w4⟩
  · obtain ⟨p, hp, rfl⟩ := List.mem_map.mp hl
    obtain ⟨i, hi, rfl⟩ := List.mem_iff_getElem.mp hp
    exact (h2.get i (by rw [h2.len]; exact hi) hi).facts hr
theorem parts_len {rows : Nat} {r : RW} (h : r.Ok rows) : r.parts.length ≤ 4 := by
  obtain ⟨f, hf, h2⟩ := h
  obtain ⟨w1, w2, w3, w4, w5, w6⟩ := fm_word _ hf
  have := h2.len
  simp only [RW.parts, List.length_cons, List.length_map]
  dsimp only at w5
  omega
theorem row_len {rows : Nat} {r : RW} (h : r.Ok rows) (hr : rows ≤ 60) : r.s.length ≤ 28 := by
  have h1 := joinL_len (s := [32]) (k := 7) (ls := r.parts) fun l hl => by
    have := (parts_free h hr l hl).2.1
    simp only [List.length_cons, List.length_nil]
    omega
  have h2 := parts_len h
  unfold RW.s
  omega
theorem row_free {rows : Nat} {r : RW} (h : r.Ok rows) (hr : rows ≤ 60) : 10 ∉ r.s := fun q => by
  rcases joinL_mem q with q | ⟨l, hl, q⟩
  · simp at q
  · exact (parts_free h hr l hl).2.2.2 q
theorem row_ne {rows : Nat} {r : RW} (h : r.Ok rows) : r.s ≠ [] := by
  obtain ⟨f, hf, h2⟩ := h
  have w1 := (fm_word _ hf).1
  dsimp only at w1
  unfold RW.s RW.parts
  cases hp : r.ps.map PT.s with
  | nil => exact w1
  | cons q qs =>
    show r.w ++ _ ≠ []
    exact fun z => w1 (List.append_eq_nil_iff.mp z).1
def w1 : MS := (mAsg (mMt "str" splitD (mv 0) (mCons (mc (.str " ")) mNil)) (gmN 2))
def w2 : MS := (mAsg (mUn (kgetD tb_FORMS) (mBin ixD (mv 2) (mc (.int (0))))) (gmN 3))
def w3 : MS := (mIfS (mOr (mTb (mBin isD (mv 3) (mc .non))) (mTb (mBin neD (mCall lenD (mCons (mv 2) mNil)) (mBin addD (mCall lenD (mCons (mv 3) mNil)) (mc (.int (1))))))) (mRet (mc .non)) mNx)
def w4 : MS := mAsg (mBin addD (mTup (mCons (mBin ixD (mv 2) (mc (.int (0)))) mNil)) (mCall tupD (mCons (mLc (miZs (mCons (mSl (mv 2) (mPart (mc (.int (1)))) mNoPart) (mCons (mv 3) mNil))) (gmTup 2 (gmCons (gmN 5) (gmCons (gmN 6) gmNil))) mYes (mCall m_part_of (mCons (mv 5) (mCons (mv 6) mNil))) [5, 6] finF) mNil))) (gmN 4)
def w5 : MS := (mRet (mIf (mTb (mCall m_is_row (mCons (mv 4) (mCons (mv 1) mNil)))) (mv 4) (mc .non)))
def wG : MG := (gmTup 2 (gmCons (gmN 5) (gmCons (gmN 6) gmNil)))
def wT : ME := (mCall m_part_of (mCons (mv 5) (mCons (mv 6) mNil)))
theorem zip_back {rows : Nat} {f : List Nat} {ps : List PT} {w : Sl} {A : AH} (hw : w.length = 7) (h : All2 (PT.Ok rows) f ps) (hr : rows ≤ 60) :
    All2 (fun d q => ∃ s1, wG d w = some s1 ∧ mYes s1 A = .ok true A ∧ wT s1 A = .ok q A) (zipD (ps.map fun p => .str (S p.s)) (S f)) (ps.map PT.d) := by
  have hz : zipD (ps.map fun p => .str (S p.s)) (S f) = ((ps.map fun p => D.str (S p.s)).zip f).map fun p => .tup [p.1, .str ⟨#[p.2]⟩] := rfl
  rw [hz]
  induction h with
  | nil => exact .nil
  | cons h1 h2 ih =>
    refine .cons ⟨(w.set 5 (some _)).set 6 (some _), rfl, rfl, ?_⟩ (ih rfl)
    have := part_back (A := A) h1 hr
    match w, hw with
    | [a0, a1, a2, a3, a4, a5, a6], _ => simp [wT, this]
theorem row_back {rows : Nat} {r : RW} (h : r.Ok rows) (hr : rows ≤ 60) {A : AH} : m_row_of [.str (S r.s), .int rows] A = .ok r.d A := by
  have e0 : m_row_of [.str (S r.s), .int rows] A = finS (mSeq w1 (mSeq w2 (mSeq w3 (mSeq w4 w5))) [some (.str (S r.s)), some (.int rows), none, none, none, none, none] A) := rfl
  have hf := parts_free h hr
  have hlen := row_len h hr
  have hpl := parts_len h
  have hrow := row_is h (A := A)
  obtain ⟨f, hfm, h2⟩ := h
  have hlook := fm_look _ hfm
  have hfl := h2.len
  have hf3 := (fm_word _ hfm).2.2.2.2.1
  dsimp only at hlook hf3
  have e1 : splitD (.str (S r.s)) [.str (S [32])] A = .ok (.lst (r.parts.map fun l => .str (S l))) A := split_S (by simp [RW.parts]) (fun l hl => (hf l hl).2.2.1) (by decide) (by show r.s.length + 2 ≤ _; omega)
  have ew : (r.parts.map fun l => D.str (S l)) = .str (S r.w) :: (r.ps.map fun p => .str (S p.s)) := by simp [RW.parts, Function.comp_def]
  rw [ew] at e1
  have c1 : w1 [some (.str (S r.s)), some (.int rows), none, none, none, none, none] A = .nx [some (.str (S r.s)), some (.int rows), some (.lst (.str (S r.w) :: (r.ps.map fun p => .str (S p.s)))), none, none, none, none] A := by
    simp [w1, e_sp, e1, tyMD]
  have c2 : w2 [some (.str (S r.s)), some (.int rows), some (.lst (.str (S r.w) :: (r.ps.map fun p => .str (S p.s)))), none, none, none, none] A = .nx [some (.str (S r.s)), some (.int rows), some (.lst (.str (S r.w) :: (r.ps.map fun p => .str (S p.s)))), some (.str (S f)), none, none, none] A := by
    simp [w2, kgetD, hlook]
  have lz : lenD [.str (S f)] A = .ok (.int f.length) A := len_S (by omega)
  have c3 : w3 [some (.str (S r.s)), some (.int rows), some (.lst (.str (S r.w) :: (r.ps.map fun p => .str (S p.s)))), some (.str (S f)), none, none, none] A = .nx [some (.str (S r.s)), some (.int rows), some (.lst (.str (S r.w) :: (r.ps.map fun p => .str (S p.s)))), some (.str (S f)), none, none, none] A := by
    simp [w3, lz, hfl, Tg.isNon]
  have c4 : w4 [some (.str (S r.s)), some (.int rows), some (.lst (.str (S r.w) :: (r.ps.map fun p => .str (S p.s)))), some (.str (S f)), none, none, none] A = .nx [some (.str (S r.s)), some (.int rows), some (.lst (.str (S r.w) :: (r.ps.map fun p => .str (S p.s)))), some (.str (S f)), some r.d, none, none] A := by
    have ez : (miZs (mCons (mSl (mv 2) (mPart (mc (.int (1)))) mNoPart) (mCons (mv 3) mNil))) [some (.str (S r.s)), some (.int rows), some (.lst (.str (S r.w) :: (r.ps.map fun p => .str (S p.s)))), some (.str (S f)), none, none, none] A = .ok (.data (zipD (r.ps.map fun p => .str (S p.s)) (S f))) A := by
      have : slD (.lst (.str (S r.w) :: (r.ps.map fun p => .str (S p.s)))) (some 1) none A = .ok (.lst (r.ps.map fun p => .str (S p.s))) A := by
        show R.ok (D.lst (cutD _ _ _)) A = _
        rw [cutD1]
      have e : (mCons (mSl (mv 2) (mPart (mc (.int (1)))) mNoPart) (mCons (mv 3) mNil)) [some (.str (S r.s)), some (.int rows), some (.lst (.str (S r.w) :: (r.ps.map fun p => .str (S p.s)))), some (.str (S f)), none, none, none] A = .ok [.lst (r.ps.map fun p => .str (S p.s)), .str (S f)] A := by
        simp [this]
      unfold miZs
      rw [e]
      rfl
    have hzl : (zipD (r.ps.map fun p => D.str (S p.s)) (S f)).length < 16777216 := by
      simp only [zipD, List.length_map, List.length_zip]
      omega
    have el := lc_all2 (g := wG) (tt := mYes) (te := wT) (vs := [5, 6]) ez hzl (zip_back (by rfl) h2 hr)
    unfold w4
    rw [e_asgN, e_bin]
    have e5 : (mCall tupD (mCons (mLc (miZs (mCons (mSl (mv 2) (mPart (mc (.int (1)))) mNoPart) (mCons (mv 3) mNil))) wG mYes wT [5, 6] finF) mNil)) [some (.str (S r.s)), some (.int rows), some (.lst (.str (S r.w) :: (r.ps.map fun p => .str (S p.s)))), some (.str (S f)), none, none, none] A = .ok (.tup (r.ps.map PT.d)) A := by
      rw [e_call, e_cons, el]
      rfl
    have e6 : kB1 addD (mCall tupD (mCons (mLc (miZs (mCons (mSl (mv 2) (mPart (mc (.int (1)))) mNoPart) (mCons (mv 3) mNil))) wG mYes wT [5, 6] finF) mNil)) [some (.str (S r.s)), some (.int rows), some (.lst (.str (S r.w) :: (r.ps.map fun p => .str (S p.s)))), some (.str (S f)), none, none, none] (.ok (.tup [.str (S r.w)]) A) = .ok r.d A := by
      rw [kB1_0, e5, kB2_0]
      show (if [D.str (S r.w)].length + (r.ps.map PT.d).length ≤ 16777216 then R.ok (D.tup ([D.str (S r.w)] ++ r.ps.map PT.d)) A else .bad) = _
      rw [if_pos (by rw [List.length_map]; show 1 + _ ≤ _; omega)]
      rfl
    have e7 : (mTup (mCons (mBin ixD (mv 2) (mc (.int (0)))) mNil)) [some (.str (S r.s)), some (.int rows), some (.lst (.str (S r.w) :: (r.ps.map fun p => .str (S p.s)))), some (.str (S f)), none, none, none] A = .ok (.tup [.str (S r.w)]) A := by simp
    rw [e7]
    exact congrArg (kAsg 4 _) e6
  have c5 : w5 [some (.str (S r.s)), some (.int rows), some (.lst (.str (S r.w) :: (r.ps.map fun p => .str (S p.s)))), some (.str (S f)), some r.d, none, none] A = .rt r.d A := by
    simp [w5, hrow]
  rw [e0, e_seq, c1, RS.nxt_nx, e_seq, c2, RS.nxt_nx, e_seq, c3, RS.nxt_nx, e_seq, c4, RS.nxt_nx, c5, finS_rt]
end K19

set_option Elab.async false
set_option linter.all false
set_option maxRecDepth 100000
set_option maxHeartbeats 4000000
/-! K19R: read, written. -/
namespace K19
open PySem Tg L2
open SX (S)
theorem txt_take {prog : List RW} {i : Nat} {r : RW} (h : prog[i]? = some r) : txt (prog.take (i + 1)) = if txt (prog.take i) = [] ∧ i = 0 then r.s else txt (prog.take i) ++ ([10] ++ r.s) := by
  have e : prog.take (i + 1) = prog.take i ++ [r] := by
    rw [List.take_add_one, h]
    rfl
  unfold txt
  rw [e, List.map_append]
  cases i with
  | zero => rfl
  | succ i =>
    rw [if_neg (fun q => nomatch q.2)]
    have hi := (List.getElem?_eq_some_iff.mp h).1
    refine joinL_snoc fun q => ?_
    have := congrArg List.length q
    rw [List.length_map, List.length_take, List.length_nil] at this
    omega
theorem txt_len {prog : List RW} {rows : Nat} (h : ∀ r ∈ prog, r.Ok rows) (hr : rows ≤ 60) : (txt prog).length ≤ prog.length * 29 := by
  have := joinL_len (s := [10]) (k := 29) (ls := prog.map RW.s) fun l hl => by
    obtain ⟨r, hm, rfl⟩ := List.mem_map.mp hl
    have := row_len (h r hm) hr
    simp only [List.length_cons, List.length_nil]
    omega
  rwa [List.length_map] at this
theorem txt_ne {prog : List RW} {rows : Nat} (h : ∀ r ∈ prog, r.Ok rows) (h0 : prog ≠ []) : txt prog ≠ [] := by
  cases prog with
  | nil => exact absurd rfl h0
  | cons r rs =>
    have := row_ne (h r List.mem_cons_self)
    cases rs with
    | nil => exact this
    | cons q qs => exact fun z => this (List.append_eq_nil_iff.mp (show r.s ++ _ = [] from z)).1
def v1 : MS := (mAsg (mMt "str" splitD (mv 0) (mCons (mc (.str "\n")) mNil)) (gmN 1))
def v2 : MS := (mAsg (mLstN mNil) (gmN 2))
def v4 : MS := (mRet (mCall tupD (mCons (mv 2) mNil)))
def u1 : MS := (mAsg (mCall m_row_of (mCons (mBin ixD (mv 1) (mv 3)) (mCons (mCall lenD (mCons (mv 1) mNil)) mNil))) (gmN 4))
def u2 : MS := (mIfS (mOr (mTb (mBin isD (mv 4) (mc .non))) (mTb (mBin geD (mv 3) (mc g_MOST_ROWS)))) (mRaise "BadText" "line" (mv 3)) mNx)
def u3 : MS := (mDrop (mMt "list" appD (mv 2) (mCons (mv 4) mNil)))
def uB : MS := mSeq u1 (mSeq u2 u3)
def v3 : MS := mFor (mRng1 (mCons (mCall lenD (mCons (mv 1) mNil)) mNil)) (gmN 3) uB
theorem tup_lines {prog : List RW} : (prog.map RW.s).map (fun l => D.str (S l)) = prog.map fun r => .str (S r.s) := by
  rw [List.map_map]
  rfl
theorem o_eqIS {i : Int} {z : Str} {A : AH} : eqD (.int i) (.str z) A = .ok (.bl false) A := rfl
theorem o_neIS {i : Int} {z : Str} {A : AH} : neD (.int i) (.str z) A = .ok (.bl true) A := rfl
theorem str_str {z : Str} {A : AH} : strD [.str z] A = .ok (.str z) A := rfl
theorem word_s {l : List Nat} (h : l ≠ []) {A : AH} : m_word_of [.str (S l)] A = .ok (.str (S l)) A := by
  have e0 : m_word_of [.str (S l)] A = finS (b_word_of [some (.str (S l))] A) := rfl
  have q : (S l == S []) = false := by
    rw [SX.S_beq_eq]
    exact decide_eq_false h
  rw [e0]
  simp [b_word_of, e_emp, q, str_str]
theorem word_p {rows c : Nat} {p : PT} (h : PT.Ok rows c p) (hr : rows ≤ 60) {A : AH} : m_word_of [p.d] A = .ok (.str (S p.s)) A := by
  cases p with
  | n i =>
    obtain ⟨h0, h1⟩ := h.rng hr
    have e0 : m_word_of [(PT.n i).d] A = finS (b_word_of [some (.int i)] A) := rfl
    rw [e0]
    simp [b_word_of, o_eqIS, str_int h0 h1, PT.s]
  | t l =>
    cases l with
    | nil =>
      have e0 : m_word_of [(PT.t []).d] A = finS (b_word_of [some (.str (S []))] A) := rfl
      rw [e0]
      simp [b_word_of, e_emp, PT.s, g_NONE, e_dash]
    | cons c l => exact word_s (by simp)
def x1 : MS := (mDrop (mCall m_need_program (mCons (mv 0) mNil)))
def xI : ME := mLc (miAny (mv 1)) (gmN 2) mYes (mCall m_word_of (mCons (mv 2) mNil)) [2] finF
def xJ : ME := mMt "str" joinD (mc (.str " ")) (mCons xI mNil)
def xO : ME := mLc (miAny (mv 0)) (gmN 1) mYes xJ [1] finF
def bNP : MS := mIfS (mOr (mTb (mBin geD (mv 1) (mc g_MOST_ROWS))) (mNot (mTb (mCall m_is_row (mCons (mBin ixD (mv 0) (mv 1)) (mCons (mCall lenD (mCons (mv 0) mNil)) mNil)))))) mNever mNx
def bN0 : MS := mIfS (mOr (mNot (mTb (mUn (isiD "tuple") (mv 0)))) (mTb (mBin eqD (mv 0) (mTup mNil)))) mNever mNx
theorem eq_prog {prog : List RW} {rows : Nat} (h : ∀ r ∈ prog, r.Ok rows) (h0 : prog ≠ []) {A : AH} : eqD (.tup (prog.map RW.d)) (.tup []) A = .ok (.bl false) A := by
  have e : prog.map RW.d = (prog.map fun r => (D.str (S r.w) :: r.ps.map PT.d)).map D.tup := by
    rw [List.map_map]
    rfl
  rw [e]
  refine eq_tups_nil (fun ds hd => ?_) (fun q => h0 (List.map_eq_nil_iff.mp q))
  obtain ⟨r, hm, rfl⟩ := List.mem_map.mp hd
  obtain ⟨f, hf, h2⟩ := h r hm
  rw [List.all_cons, okFs h2, Bool.and_true]
  exact (fm_word _ hf).2.2.2.2.2
theorem need_program_ok {prog : List RW} (h : ∀ r ∈ prog, r.Ok prog.length) (h0 : prog ≠ []) (h1 : prog.length ≤ 60) {A : AH} : m_need_program [.tup (prog.map RW.d)] A = .ok .non A := by
  have e0 : m_need_program [.tup (prog.map RW.d)] A = finS (mSeq bN0 (mFor (mRng1 (mCons (mCall lenD (mCons (mv 0) mNil)) mNil)) (gmN 1) bNP) [some (.tup (prog.map RW.d)), none] A) := rfl
  have c1 : bN0 [some (.tup (prog.map RW.d)), none] A = .nx [some (.tup (prog.map RW.d)), none] A := by
    simp [bN0, subTy, eq_prog h h0]
  have hb : ∀ i, i < prog.length → bNP [some (.tup (prog.map RW.d)), some (.int (i : Int))] A = .nx [some (.tup (prog.map RW.d)), some (.int (i : Int))] A := fun i hi => by
    have hq : ixD (.tup (prog.map RW.d)) (.int (i : Int)) A = .ok (prog[i]).d A := ix_tup (atI_ok (by rw [List.getElem?_map, List.getElem?_eq_getElem hi]; rfl))
    have h60 : ¬ (60 : Int) ≤ i := by omega
    have hrow := row_is (A := A) (h _ (List.getElem_mem hi))
    simp only [bNP, e_ifS, e_or, e_tb, e_bin, e_mvS, e_mv0, kB1_0, e_mc, g_MOST_ROWS, kB2_0, o_ge, h60, decide_false, kT_0, kOr_1, e_not, e_call, e_cons, kC1_0, e_nil, kC2_0, hq, len_tup, List.length_map, kCall_0, hrow, kN_0, Bool.not_true, kIf_1, e_nx]
  obtain ⟨s', A', e, e2, o', e3⟩ := forL_inv (g := gmN 1) (b := bNP) (ds := (List.range prog.length).map fun i : Nat => D.int (i : Int)) (s := [some (.tup (prog.map RW.d)), none]) (A := A) (fun s' A' => A' = A ∧ ∃ o', s' = [some (.tup (prog.map RW.d)), o']) ⟨rfl, none, rfl⟩ (fun d hd s B hB => by
    obtain ⟨rfl, o', rfl⟩ := hB
    obtain ⟨i, hi, rfl⟩ := List.mem_map.mp hd
    exact ⟨_, _, _, rfl, hb i (List.mem_range.mp hi), rfl, _, rfl⟩)
  subst e2 e3
  have e5 : (mCons (mCall lenD (mCons (mv 0) mNil)) mNil) [some (.tup (prog.map RW.d)), none] A' = .ok [.int (prog.length : Int)] A' := by simp
  rw [e0, e_seq, c1, RS.nxt_nx, mFor_data (rng1 e5 (by omega)), e]
  rfl
theorem row_text {rows : Nat} {r : RW} (h : r.Ok rows) (hr : rows ≤ 60) {p : D} {o : Option D} {A : AH} : xJ [some p, some r.d, o] A = .ok (.str (S r.s)) A := by
  have hf := parts_free h hr
  have hpl := parts_len h
  obtain ⟨f, hfm, h2⟩ := h
  have hw := (fm_word _ hfm).1
  dsimp only at hw
  have e1 : All2 (fun d q => ∃ s1, gmN 2 d (wpD [some p, some r.d, o] [2]) = some s1 ∧ mYes s1 A = .ok true A ∧ (mCall m_word_of (mCons (mv 2) mNil)) s1 A = .ok q A) (D.str (S r.w) :: r.ps.map PT.d) (r.parts.map fun l => D.str (S l)) := by
    refine .cons ⟨_, rfl, rfl, by simp [wpD, word_s hw]⟩ ?_
    rw [List.map_map]
    refine All2.maps fun q hq => ?_
    obtain ⟨i, hi, rfl⟩ := List.mem_iff_getElem.mp hq
    have := word_p (A := A) (h2.get i (by rw [h2.len]; exact hi) hi) hr
    exact ⟨_, rfl, rfl, by simp [wpD, this]⟩
  have e2 : miAny (mv 1) [some p, some r.d, o] A = .ok (.data (D.str (S r.w) :: r.ps.map PT.d)) A := rfl
  have e3 : xI [some p, some r.d, o] A = .ok (.lst (r.parts.map fun l => D.str (S l))) A := lc_all2 e2 (by have := e1.len; rw [this, List.length_map]; omega) e1
  have e4 : joinD (.str (S [32])) [.lst (r.parts.map fun l => D.str (S l))] A = .ok (.str (S r.s)) A := join_S (k := 7) (fun l hl => by
    have := (hf l hl).2.1
    simp only [List.length_cons, List.length_nil]
    omega) (by omega)
  simp [xJ, e3, e_sp, e4, tyMD]
theorem written_is {prog : List RW} (h : ∀ r ∈ prog, r.Ok prog.length) (h0 : prog ≠ []) (h1 : prog.length ≤ 60) {A : AH} : m_written [.tup (prog.map RW.d)] A = .ok (.str (S (txt prog))) A := by
  have e0 : m_written [.tup (prog.map RW.d)] A = finS (mSeq x1 (mRet (mMt "str" joinD (mc (.str "\n")) (mCons xO mNil))) [some (.tup (prog.map RW.d)), none, none] A) := rfl
  have c1 : x1 [some (.tup (prog.map RW.d)), none, none] A = .nx [some (.tup (prog.map RW.d)), none, none] A := by
    simp [x1, need_program_ok h h0 h1]
  have e1 : All2 (fun d q => ∃ s1, gmN 1 d (wpD [some (.tup (prog.map RW.d)), none, none] [1]) = some s1 ∧ mYes s1 A = .ok true A ∧ xJ s1 A = .ok q A) (prog.map RW.d) (prog.map fun r => D.str (S r.s)) := All2.maps fun r hm => ⟨_, rfl, rfl, row_text (h r hm) h1⟩
  have e2 : miAny (mv 0) [some (.tup (prog.map RW.d)), none, none] A = .ok (.data (prog.map RW.d)) A := rfl
  have e3 : xO [some (.tup (prog.map RW.d)), none, none] A = .ok (.lst (prog.map fun r => D.str (S r.s))) A := lc_all2 e2 (by rw [List.length_map]; omega) e1
  have e4 : joinD (.str (S [10])) [.lst (prog.map fun r => D.str (S r.s))] A = .ok (.str (S (txt prog))) A := by
    rw [← tup_lines]
    refine join_S (k := 29) (fun l hl => ?_) (by rw [List.length_map]; omega)
    obtain ⟨r, hm, rfl⟩ := List.mem_map.mp hl
    have := row_len (h r hm) h1
    simp only [List.length_cons, List.length_nil]
    omega
  rw [e0, e_seq, c1, RS.nxt_nx]
  simp [e3, e_nl, e4, tyMD]
end K19

set_option Elab.async false
set_option linter.all false
set_option maxRecDepth 100000
set_option maxHeartbeats 4000000
/-! K19T: what is drawn, and the law. -/
namespace K19
open PySem Tg L2
open SX (S)
theorem tk : m__law_taken = m_taken := rfl
theorem rInt (a b : Int) : ((a : Int) == b) = decide (a = b) := by
  by_cases h : a = b
  · simp [h]
  · simp [h]
theorem alike_eq : ∀ n : Nat, m__law_alike n = m_alike n
  | 0 => rfl
  | n + 1 => by
    show mFun 2 3 (b__law_alike (m__law_alike n)) = mFun 2 3 (b_alike (m_alike n))
    rw [alike_eq n]
    rfl
/-- the drawing changes the row and what is laid behind -/
structure RB (r : Nat) (ns : List Int) (A0 A : AH) : Prop where
  row : RowAt r ns A
  len : A0.length ≤ A.length
  oth : ∀ n, n < A0.length → n ≠ r → A[n]? = A0[n]?
theorem RB.refl {r : Nat} {ns : List Int} {A : AH} (h : RowAt r ns A) : RB r ns A A := ⟨h, Nat.le_refl _, fun _ _ _ => rfl⟩
theorem RB.app {r : Nat} {ns : List Int} {A0 A : AH} (h : RB r ns A0 A) (l : AH) : RB r ns A0 (A ++ l) := ⟨h.row.app l, by rw [List.length_append]; exact Nat.le_trans h.len (Nat.le_add_right _ _), fun n h1 h2 => by rw [List.getElem?_append_left (Nat.lt_of_lt_of_le h1 h.len), h.oth n h1 h2]⟩
theorem takenApp {r : Nat} {ns : List Int} {A0 A : AH} (many : Int) (l : AH) (h : RB r ns A0 A) (hm : 0 < many ∧ many < 1073741824) : ∃ (v : Nat) (A' : AH), m_taken [.ref r, .int many] (A ++ l) = .ok (.int (v : Int)) (A' ++ l) ∧ RB r ns A0 A' ∧ A'.length = A.length ∧ (v : Int) < many := by
  obtain ⟨a, b, c, hA, ha⟩ := h.row
  have hr := (List.getElem?_eq_some_iff.mp hA).1
  obtain ⟨v, a', b', c', e, h1, h2, h3⟩ := taken_ok (A := A ++ l) (by rw [List.getElem?_append_left hr]; exact hA) ha hm.1 hm.2
  rw [List.set_append_left _ _ hr] at e
  obtain ⟨n, rfl⟩ := Int.eq_ofNat_of_zero_le h1
  exact ⟨n, _, e, ⟨⟨a', b', c', List.getElem?_set_self hr, h3⟩, by rw [List.length_set]; exact h.len, fun k h1 h2 => by rw [List.getElem?_set_ne (Ne.symm h2)]; exact h.oth k h1 h2⟩, List.length_set, h2⟩
theorem takenN {r : Nat} {ns : List Int} {A0 A : AH} (many : Int) (h : RB r ns A0 A) (hm : 0 < many ∧ many < 1073741824) : ∃ (v : Nat) (A' : AH), m_taken [.ref r, .int many] A = .ok (.int (v : Int)) A' ∧ RB r ns A0 A' ∧ (v : Int) < many := by
  obtain ⟨v, A', e, h1, _, h2⟩ := takenApp many [] h hm
  rw [List.append_nil, List.append_nil] at e
  exact ⟨v, A', e, h1, h2⟩
theorem number_ok {r : Nat} {ns : List Int} {A0 A : AH} (h : RB r ns A0 A) : ∃ v A', m__law_number [.ref r] A = .ok (.int v) A' ∧ RB r ns A0 A' ∧ -10000 ≤ v ∧ v < 10000 := by
  have e0 : m__law_number [.ref r] A = finS (b__law_number [some (.ref r), none] A) := rfl
  obtain ⟨w, A1, e1, h1, w1⟩ := takenN 6 h ⟨by omega, by omega⟩
  by_cases h4 : (w : Int) < 4
  · obtain ⟨x, A2, e2, h2, x1⟩ := takenN 5 h1 ⟨by omega, by omega⟩
    obtain ⟨y, A3, e3, h3, y1⟩ := takenN 70 h2 ⟨by omega, by omega⟩
    obtain ⟨z, A4, e4, h4', z1⟩ := takenN 40 h3 ⟨by omega, by omega⟩
    have hw : w = 0 ∨ w = 1 ∨ w = 2 ∨ w = 3 := by omega
    rcases hw with rfl | rfl | rfl | rfl
    · exact ⟨x, A4, by rw [e0]; simp at e1; simp [b__law_number, tk, e1, e2, e3, e4], h4', by omega, by omega⟩
    · exact ⟨y, A4, by rw [e0]; simp at e1; simp [b__law_number, tk, e1, e2, e3, e4], h4', by omega, by omega⟩
    · exact ⟨z - 20, A4, by rw [e0]; simp at e1; simp [b__law_number, tk, e1, e2, e3, e4], h4', by omega, by omega⟩
    · exact ⟨1, A4, by rw [e0]; simp at e1; simp [b__law_number, tk, e1, e2, e3, e4], h4', by omega, by omega⟩
  · obtain ⟨x, A2, e2, h2, x1⟩ := takenN 20000 h1 ⟨by omega, by omega⟩
    obtain ⟨y, A3, e3, h3, y1⟩ := takenN 2 h2 ⟨by omega, by omega⟩
    have hw : w = 4 ∨ w = 5 := by omega
    have hy : y = 0 ∨ y = 1 := by omega
    rcases hw with rfl | rfl
    · rcases hy with rfl | rfl
      · exact ⟨x - 10000, A3, by rw [e0]; simp at e1 e3; simp [b__law_number, tk, e1, e2, e3], h3, by omega, by omega⟩
      · exact ⟨x - 10000, A3, by rw [e0]; simp at e1 e3; simp [b__law_number, tk, e1, e2, e3], h3, by omega, by omega⟩
    · rcases hy with rfl | rfl
      · exact ⟨9999, A3, by rw [e0]; simp at e1 e3; simp [b__law_number, tk, e1, e2, e3], h3, by omega, by omega⟩
      · exact ⟨-10000, A3, by rw [e0]; simp at e1 e3; simp [b__law_number, tk, e1, e2, e3], h3, by omega, by omega⟩
theorem sub16 : ∀ l : List Nat, l.Sublist [103, 104, 108, 115] → l ∈ R16 := by
  intro l h
  cases h <;> rename_i h <;> cases h <;> rename_i h <;> cases h <;> rename_i h <;> cases h <;> rename_i h <;> cases h <;> decide
theorem sub_map {α β : Type} {f : α → β} : ∀ {xs : List α} {ys : List β}, ys.Sublist (xs.map f) → ∃ l : List α, l.Sublist xs ∧ ys = l.map f
  | [], ys, h => ⟨[], .slnil, List.sublist_nil.mp h⟩
  | x :: xs, ys, h => by
    rcases List.sublist_cons_iff.mp h with h5 | ⟨zs, e, h5⟩
    · obtain ⟨l, h1, h2⟩ := sub_map h5
      exact ⟨l, h1.cons x, h2⟩
    · subst e
      obtain ⟨l, h1, h2⟩ := sub_map h5
      exact ⟨x :: l, h1.cons₂ x, by rw [h2]; rfl⟩
theorem rights_join {l : List Nat} (h : l ∈ R16) {A : AH} : joinD (.str (S [])) [.lst (l.map fun c => .str ⟨#[c]⟩)] A = .ok (.str (S l)) A := by
  have := join_S (A := A) (s := []) (k := 1) (ls := l.map fun c => [c]) (fun x hx => by
    obtain ⟨c, _, rfl⟩ := List.mem_map.mp hx
    exact Nat.le_refl 1) (by rw [List.length_map]; have := (r_word l h).1; omega)
  rw [joinL_one, List.map_map] at this
  exact this
def g1 : MS := (mAsg (mBin ixD (mLst (mCons (mc (.int (4))) (mCons (mc (.int (9))) (mCons (mc (.int (2))) mNil)))) (mCall m__law_taken (mCons (mv 0) (mCons (mc (.int (3))) mNil)))) (gmN 1))
def gL : ME := mLc (miAny (mc (.str "ghls"))) (gmN 2) (mTb (mBin gtD (mCall m__law_taken (mCons (mv 0) (mCons (mv 1) mNil))) (mc (.int (0))))) (mv 2) [2] finF
theorem rights_ok {r : Nat} {ns : List Int} {A0 A : AH} (h : RB r ns A0 A) : ∃ (l : List Nat) (A' : AH), m__law_rights [.ref r] A = .ok (.str (S l)) A' ∧ RB r ns A0 A' ∧ l ∈ R16 := by
  have e0 : m__law_rights [.ref r] A = finS (mSeq g1 (mRet (mMt "str" joinD (mc (.str "")) (mCons gL mNil))) [some (.ref r), none, none] A) := rfl
  obtain ⟨w, A1, e1, h1, w1⟩ := takenN 3 h ⟨by omega, by omega⟩
  have hk : ∃ i : Int, 0 < i ∧ i < 10 ∧ atI [D.int 4, D.int 9, D.int 2] (w : Int) = some (.int i) := by
    have hk : w = 0 ∨ w = 1 ∨ w = 2 := by omega
    rcases hk with rfl | rfl | rfl
    · exact ⟨4, by omega, by omega, at0⟩
    · exact ⟨9, by omega, by omega, at1⟩
    · exact ⟨2, by omega, by omega, at2⟩
  obtain ⟨i, i0, i1, hi⟩ := hk
  have c1 : g1 [some (.ref r), none, none] A = .nx [some (.ref r), some (.int i), none] A1 := by
    simp [g1, tk, e1, hi]
  have e2 : miAny (mc (.str "ghls")) [some (.ref r), some (.int i), none] A1 = .ok (.data ([103, 104, 108, 115].map fun c => .str ⟨#[c]⟩)) A1 := by
    rw [e_rts]
    rfl
  obtain ⟨ys, A2, e3, h2, hs⟩ := lc_sub (g := gmN 2) (tt := mTb (mBin gtD (mCall m__law_taken (mCons (mv 0) (mCons (mv 1) mNil))) (mc (.int (0))))) (te := mv 2) (vs := [2]) (RB r ns A0) e2 (by decide) h1 (fun d _ B hB => by
    obtain ⟨v, B', e, hB', _⟩ := takenN i hB ⟨i0, by omega⟩
    exact ⟨_, decide (0 < (v : Int)), B', rfl, by simp only [e_tb, e_bin, e_call, e_cons, e_nil, wpD, wp_cons, wp_nil, List.set_cons_succ, List.set_cons_zero, e_mvS, e_mv0, kC1_0, kC2_0, kCall_0, tk, e, kB1_0, e_mc, kB2_0, o_gt, kT_0], hB', rfl⟩)
  obtain ⟨l, hl, rfl⟩ := sub_map hs
  have hl16 := sub16 l hl
  have e4 : gL [some (.ref r), some (.int i), none] A1 = .ok (.lst (l.map fun c => .str ⟨#[c]⟩)) A2 := e3
  refine ⟨l, A2, ?_, h2, hl16⟩
  rw [e0, e_seq, c1, RS.nxt_nx]
  simp [e4, e_emp, rights_join hl16, tyMD]
def wl : List D := [.str "put", .str "move", .str "add", .str "take", .str "less", .str "same", .str "is", .str "get", .str "get", .str "set", .str "set", .str "narrow", .str "fewer", .str "gate", .str "enter", .str "room", .str "room", .str "shut", .str "say", .str "say", .str "go", .str "if", .str "if", .str "end"]
theorem wl_at {w : Nat} (h : (w : Int) < 24) : ∃ z : String, atI wl (w : Int) = some (.str z) ∧ (z = "put" ∨ z = "move" ∨ z = "add" ∨ z = "take" ∨ z = "less" ∨ z = "same" ∨ z = "is" ∨ z = "get" ∨ z = "set" ∨ z = "narrow" ∨ z = "fewer" ∨ z = "gate" ∨ z = "enter" ∨ z = "room" ∨ z = "shut" ∨ z = "say" ∨ z = "go" ∨ z = "if" ∨ z = "end") := by
  have hw : w = 0 ∨ w = 1 ∨ w = 2 ∨ w = 3 ∨ w = 4 ∨ w = 5 ∨ w = 6 ∨ w = 7 ∨ w = 8 ∨ w = 9 ∨ w = 10 ∨ w = 11 ∨ w = 12 ∨ w = 13 ∨ w = 14 ∨ w = 15 ∨ w = 16 ∨ w = 17 ∨ w = 18 ∨ w = 19 ∨ w = 20 ∨ w = 21 ∨ w = 22 ∨ w = 23 := by omega
  rcases hw with rfl | rfl | rfl | rfl | rfl | rfl | rfl | rfl | rfl | rfl | rfl | rfl | rfl | rfl | rfl | rfl | rfl | rfl | rfl | rfl | rfl | rfl | rfl | rfl
  all_goals exact ⟨_, rfl, by decide⟩
theorem e_w_put : Str.ofString "put" = S [112, 117, 116] := by decide
theorem e_w_move : Str.ofString "move" = S [109, 111, 118, 101] := by decide
theorem e_w_add : Str.ofString "add" = S [97, 100, 100] := by decide
theorem e_w_take : Str.ofString "take" = S [116, 97, 107, 101] := by decide
theorem e_w_less : Str.ofString "less" = S [108, 101, 115, 115] := by decide
theorem e_w_same : Str.ofString "same" = S [115, 97, 109, 101] := by decide
theorem e_w_is : Str.ofString "is" = S [105, 115] := by decide
theorem e_w_get : Str.ofString "get" = S [103, 101, 116] := by decide
theorem e_w_set : Str.ofString "set" = S [115, 101, 116] := by decide
theorem e_w_narrow : Str.ofString "narrow" = S [110, 97, 114, 114, 111, 119] := by decide
theorem e_w_fewer : Str.ofString "fewer" = S [102, 101, 119, 101, 114] := by decide
theorem e_w_gate : Str.ofString "gate" = S [103, 97, 116, 101] := by decide
theorem e_w_enter : Str.ofString "enter" = S [101, 110, 116, 101, 114] := by decide
theorem e_w_room : Str.ofString "room" = S [114, 111, 111, 109] := by decide
theorem e_w_shut : Str.ofString "shut" = S [115, 104, 117, 116] := by decide
theorem e_w_say : Str.ofString "say" = S [115, 97, 121] := by decide
theorem e_w_go : Str.ofString "go" = S [103, 111] := by decide
theorem e_w_if : Str.ofString "if" = S [105, 102] := by decide
theorem e_w_end : Str.ofString "end" = S [101, 110, 100] := by decide
def k1 : MS := (mAsg (mLst (mCons (mc (.str "put")) (mCons (mc (.str "move")) (mCons (mc (.str "add")) (mCons (mc (.str "take")) (mCons (mc (.str "less")) (mCons (mc (.str "same")) (mCons (mc (.str "is")) (mCons (mc (.str "get")) (mCons (mc (.str "get")) (mCons (mc (.str "set")) (mCons (mc (.str "set")) (mCons (mc (.str "narrow")) (mCons (mc (.str "fewer")) (mCons (mc (.str "gate")) mNil))))))))))))))) (gmN 3))
def k2 : MS := (mAsg (mBin addD (mv 3) (mLst (mCons (mc (.str "enter")) (mCons (mc (.str "room")) (mCons (mc (.str "room")) (mCons (mc (.str "shut")) (mCons (mc (.str "say")) (mCons (mc (.str "say")) (mCons (mc (.str "go")) (mCons (mc (.str "if")) (mCons (mc (.str "if")) (mCons (mc (.str "end")) mNil)))))))))))) (gmN 3))
def k3 : MS := (mAsg (mBin ixD (mv 3) (mCall m__law_taken (mCons (mv 0) (mCons (mc (.int (24))) mNil)))) (gmN 4))
def k4 : MS := (mPar [5, 6, 7] (mCons (mCall m__law_taken (mCons (mv 0) (mCons (mc (.int (8))) mNil))) (mCons (mCall m__law_taken (mCons (mv 0) (mCons (mc (.int (8))) mNil))) (mCons (mCall m__law_taken (mCons (mv 0) (mCons (mc (.int (8))) mNil))) mNil))))
def k5 : MS := (mAsg (mBin addD (mv 1) (mCall m__law_taken (mCons (mv 0) (mCons (mBin subD (mv 2) (mv 1)) mNil)))) (gmN 8))
def k6 : MS := (mIfS (mTb (mBin eqD (mCall m__law_taken (mCons (mv 0) (mCons (mc (.int (5))) mNil))) (mc (.int (4))))) (mAsg (mCall m__law_taken (mCons (mv 0) (mCons (mv 2) mNil))) (gmN 8)) mNx)
def k7 : MS := (mIfS (mTb (mBin inD (mv 4) (mTup (mCons (mc (.str "add")) (mCons (mc (.str "take")) (mCons (mc (.str "less")) (mCons (mc (.str "same")) (mCons (mc (.str "narrow")) mNil)))))))) (mRet (mTup (mCons (mv 4) (mCons (mv 5) (mCons (mv 6) (mCons (mv 7) mNil)))))) mNx)
def k8 : MS := (mIfS (mTb (mBin inD (mv 4) (mTup (mCons (mc (.str "get")) (mCons (mc (.str "set")) mNil))))) (mSeq (mAsg (mBin ixD (mLst (mCons (mc (.int (0))) (mCons (mc (.int (0))) (mCons (mBin subD (mCall m__law_taken (mCons (mv 0) (mCons (mc (.int (5))) mNil))) (mc (.int (2)))) (mCons (mBin subD (mCall m__law_taken (mCons (mv 0) (mCons (mc (.int (127))) mNil))) (mc (.int (63)))) mNil))))) (mCall m__law_taken (mCons (mv 0) (mCons (mc (.int (4))) mNil)))) (gmN 9))
  (mRet (mIf (mTb (mBin eqD (mv 4) (mc (.str "get")))) (mTup (mCons (mv 4) (mCons (mv 5) (mCons (mv 6) (mCons (mv 9) mNil))))) (mTup (mCons (mv 4) (mCons (mv 6) (mCons (mv 9) (mCons (mv 7) mNil)))))))) mNx)
def k9 : MS := (mAsg (mDctN (mPCons (mc (.str "put")) (mTup (mCons (mv 5) (mCons (mCall m__law_number (mCons (mv 0) mNil)) mNil))) (mPCons (mc (.str "fewer")) (mTup (mCons (mv 5) (mCons (mv 6) (mCons (mCall m__law_rights (mCons (mv 0) mNil)) mNil)))) (mPCons (mc (.str "go")) (mTup (mCons (mv 8) mNil)) (mPCons (mc (.str "if")) (mTup (mCons (mv 6) (mCons (mv 8) mNil))) (mPCons (mc (.str "end")) (mTup mNil) mPNil)))))) (gmN 10))
def k10 : MS := (mDrop (mMt "dict" updD (mv 10) (mCons (mLst (mCons (mTup (mCons (mc (.str "gate")) (mCons (mTup (mCons (mv 5) (mCons (mv 6) (mCons (mCall m__law_taken (mCons (mv 0) (mCons (mBin addD (mv 2) (mc (.int (1)))) mNil))) mNil)))) mNil))) (mCons (mTup (mCons (mc (.str "move")) (mCons (mTup (mCons (mv 5) (mCons (mv 6) mNil))) mNil))) (mCons (mTup (mCons (mc (.str "is")) (mCons (mTup (mCons (mv 5) (mCons (mv 6) mNil))) mNil))) mNil)))) mNil)))
def k11 : MS := (mRet (mBin addD (mTup (mCons (mv 4) mNil)) (mGet2 (mv 10) (mv 4) (mTup (mCons (mv 6) mNil)))))
theorem row_made {r : Nat} {ns : List Int} {A0 A : AH} {at_ rows : Nat} (h : RB r ns A0 A) (h0 : at_ < rows) (h1 : rows ≤ 60) : ∃ (p : RW) (A' : AH), m__law_row [.ref r, .int at_, .int rows] A = .ok p.d A' ∧ RB r ns A0 A' ∧ p.Ok rows := by
  have e0 : m__law_row [.ref r, .int at_, .int rows] A = finS (mSeq k1 (mSeq k2 (mSeq k3 (mSeq k4 (mSeq k5 (mSeq k6 (mSeq k7 (mSeq k8 (mSeq k9 (mSeq k10 k11))))))))) [some (.ref r), some (.int at_), some (.int rows), none, none, none, none, none, none, none, none] A) := rfl
  obtain ⟨w, A1, e1, h1', w1⟩ := takenN 24 h ⟨by omega, by omega⟩
  obtain ⟨q, hq, hz⟩ := wl_at w1
  obtain ⟨x, A2, e2, h2, x1⟩ := takenN 8 h1' ⟨by omega, by omega⟩
  obtain ⟨y, A3, e3, h3, y1⟩ := takenN 8 h2 ⟨by omega, by omega⟩
  obtain ⟨z, A4, e4, h4, z1⟩ := takenN 8 h3 ⟨by omega, by omega⟩
  obtain ⟨g, A5, e5, h5, g1⟩ := takenN ((rows : Int) - at_) h4 ⟨by omega, by omega⟩
  obtain ⟨u, A6, e6, h6, u1⟩ := takenN 5 h5 ⟨by omega, by omega⟩
  have hcut : ∀ B, (k1 [some (.ref r), some (.int at_), some (.int rows), none, none, none, none, none, none, none, none] B).nxt k2 = .nx [some (.ref r), some (.int at_), some (.int rows), some (.lst wl), none, none, none, none, none, none, none] B := fun B => by
    simp [k1, k2, addD, lstL, wl]
  have c3 : k3 [some (.ref r), some (.int at_), some (.int rows), some (.lst wl), none, none, none, none, none, none, none] A = .nx [some (.ref r), some (.int at_), some (.int rows), some (.lst wl), some (.str q), none, none, none, none, none, none] A1 := by
    simp [k3, tk, e1, hq]
  have c4 : k4 [some (.ref r), some (.int at_), some (.int rows), some (.lst wl), some (.str q), none, none, none, none, none, none] A1 = .nx [some (.ref r), some (.int at_), some (.int rows), some (.lst wl), some (.str q), some (.int x), some (.int y), some (.int z), none, none, none] A4 := by
    simp [k4, tk, e2, e3, e4]
  have c5 : k5 [some (.ref r), some (.int at_), some (.int rows), some (.lst wl), some (.str q), some (.int x), some (.int y), some (.int z), none, none, none] A4 = .nx [some (.ref r), some (.int at_), some (.int rows), some (.lst wl), some (.str q), some (.int x), some (.int y), some (.int z), some (.int ((at_ + g : Nat) : Int)), none, none] A5 := by
    simp [k5, tk, e5]
  have c6 : ∃ (goal : Nat) (A7 : AH), k6 [some (.ref r), some (.int at_), some (.int rows), some (.lst wl), some (.str q), some (.int x), some (.int y), some (.int z), some (.int ((at_ + g : Nat) : Int)), none, none] A5 = .nx [some (.ref r), some (.int at_), some (.int rows), some (.lst wl), some (.str q), some (.int x), some (.int y), some (.int z), some (.int (goal : Int)), none, none] A7 ∧ RB r ns A0 A7 ∧ goal < rows := by
    by_cases hu : u = 4
    · obtain ⟨v, A7, e7, h7, v1⟩ := takenN (rows : Int) h6 ⟨by omega, by omega⟩
      exact ⟨v, A7, by subst hu; simp at e6; simp [k6, tk, e6, e7], h7, by omega⟩
    · have hu2 : ¬ (u : Int) = 4 := by omega
      exact ⟨at_ + g, A6, by simp [k6, tk, e6, rInt, hu2], h6, by omega⟩
  obtain ⟨goal, A7, c6, h7, hg⟩ := c6
  have pre : m__law_row [.ref r, .int at_, .int rows] A = finS (mSeq k7 (mSeq k8 (mSeq k9 (mSeq k10 k11))) [some (.ref r), some (.int at_), some (.int rows), some (.lst wl), some (.str q), some (.int x), some (.int y), some (.int z), some (.int (goal : Int)), none, none] A7) := by
    rw [e0, e_seq]
    have := hcut A
    rw [show ∀ n : MS, (k1 [some (.ref r), some (.int at_), some (.int rows), none, none, none, none, none, none, none, none] A).nxt (mSeq k2 n) = ((k1 [some (.ref r), some (.int at_), some (.int rows), none, none, none, none, none, none, none, none] A).nxt k2).nxt n from fun n => by cases k1 [some (.ref r), some (.int at_), some (.int rows), none, none, none, none, none, none, none, none] A <;> rfl, this, RS.nxt_nx, e_seq, c3, RS.nxt_nx, e_seq, c4, RS.nxt_nx, e_seq, c5, RS.nxt_nx, e_seq, c6, RS.nxt_nx]
  have x2 : (0 : Int) ≤ x ∧ (x : Int) < 8 := by omega
  have y2 : (0 : Int) ≤ y ∧ (y : Int) < 8 := by omega
  have z2 : (0 : Int) ≤ z ∧ (z : Int) < 8 := by omega
  have g2 : (0 : Int) ≤ goal ∧ (goal : Int) < rows := by omega
  clear c3 c4 c5 c6 hcut e0 hq
  obtain ⟨i, A8, e8, h8, i0, i1⟩ := number_ok h7
  obtain ⟨l, A9, e9, h9, hl⟩ := rights_ok h8
  obtain ⟨t, A10, e10, h10, len10, t1⟩ := takenApp ((rows : Int) + 1) [.dct [(.inr "put", .tup [.int x, .int i]), (.inr "fewer", .tup [.int x, .int y, .str (S l)]), (.inr "go", .tup [.int goal]), (.inr "if", .tup [.int y, .int goal]), (.inr "end", .tup [])]] h9 ⟨by omega, by omega⟩
  have hx : ∀ o : AO, (A10 ++ [o])[A9.length]? = some o := fun o => by
    rw [← len10]
    simp
  have hs : ∀ o o' : AO, (A10 ++ [o]).set A9.length o' = A10 ++ [o'] := fun o o' => by
    rw [← len10]
    simp
  have c9 : k9 [some (.ref r), some (.int at_), some (.int rows), some (.lst wl), some (.str q), some (.int x), some (.int y), some (.int z), some (.int (goal : Int)), none, none] A7 = .nx [some (.ref r), some (.int at_), some (.int rows), some (.lst wl), some (.str q), some (.int x), some (.int y), some (.int z), some (.int (goal : Int)), none, some (.ref A9.length)] (A9 ++ [.dct [(.inr "put", .tup [.int x, .int i]), (.inr "fewer", .tup [.int x, .int y, .str (S l)]), (.inr "go", .tup [.int goal]), (.inr "if", .tup [.int y, .int goal]), (.inr "end", .tup [])]]) := by
    simp [k9, e8, e9, keysD, keyD, mergeD, ptK]
  have c10 : k10 [some (.ref r), some (.int at_), some (.int rows), some (.lst wl), some (.str q), some (.int x), some (.int y), some (.int z), some (.int (goal : Int)), none, some (.ref A9.length)] (A9 ++ [.dct [(.inr "put", .tup [.int x, .int i]), (.inr "fewer", .tup [.int x, .int y, .str (S l)]), (.inr "go", .tup [.int goal]), (.inr "if", .tup [.int y, .int goal]), (.inr "end", .tup [])]]) = .nx [some (.ref r), some (.int at_), some (.int rows), some (.lst wl), some (.str q), some (.int x), some (.int y), some (.int z), some (.int (goal : Int)), none, some (.ref A9.length)] (A10 ++ [.dct [(.inr "put", .tup [.int x, .int i]), (.inr "fewer", .tup [.int x, .int y, .str (S l)]), (.inr "go", .tup [.int goal]), (.inr "if", .tup [.int y, .int goal]), (.inr "end", .tup []), (.inr "gate", .tup [.int x, .int y, .int t]), (.inr "move", .tup [.int x, .int y]), (.inr "is", .tup [.int x, .int y])]]) := by
    simp [k10, tk, dct_ref, e10, updD, pairsD, keyD, mergeD, ptK, hx, hs]
  obtain ⟨f1, B1, d1, hB1, _⟩ := takenN 5 h7 ⟨by omega, by omega⟩
  obtain ⟨f2, B2, d2, hB2, _⟩ := takenN 127 hB1 ⟨by omega, by omega⟩
  obtain ⟨f3, B3, d3, hB3, f31⟩ := takenN 4 hB2 ⟨by omega, by omega⟩
  have hf : ∃ o : Int, -63 ≤ o ∧ o < 64 ∧ atI [D.int 0, D.int 0, D.int ((f1 : Int) - 2), D.int ((f2 : Int) - 63)] (f3 : Int) = some (.int o) := by
    have hk : f3 = 0 ∨ f3 = 1 ∨ f3 = 2 ∨ f3 = 3 := by omega
    rcases hk with rfl | rfl | rfl | rfl
    · exact ⟨0, by omega, by omega, at0⟩
    · exact ⟨0, by omega, by omega, at1⟩
    · exact ⟨f1 - 2, by omega, by omega, at2⟩
    · exact ⟨f2 - 63, by omega, by omega, at3⟩
  obtain ⟨o, o0, o1, ho⟩ := hf
  have t2 : (0 : Int) ≤ t ∧ (t : Int) < rows + 1 := by omega
  rcases hz with rfl | rfl | rfl | rfl | rfl | rfl | rfl | rfl | rfl | rfl | rfl | rfl | rfl | rfl | rfl | rfl | rfl | rfl | rfl
  · have hd : RW.d ⟨[112, 117, 116], [.n x, .n i]⟩ = .tup [.str "put", .int x, .int i] := by
      rw [e_w_put]
      rfl
    refine ⟨⟨[112, 117, 116], [.n x, .n i]⟩, A10 ++ [?o_put], ?e_put, h10.app _, ⟨[98, 110], by show ([112, 117, 116], [98, 110]) ∈ forms; decide, .cons (.b x2.1 x2.2) (.cons (.n i0 i1) (.nil))⟩⟩
    case e_put =>
      rw [pre, hd, e_seq, show ∀ B, k7 [some (.ref r), some (.int at_), some (.int rows), some (.lst wl), some (.str "put"), some (.int x), some (.int y), some (.int z), some (.int (goal : Int)), none, none] B = .nx [some (.ref r), some (.int at_), some (.int rows), some (.lst wl), some (.str "put"), some (.int x), some (.int y), some (.int z), some (.int (goal : Int)), none, none] B from fun B => by simp [k7, in_str], RS.nxt_nx, e_seq, show ∀ B, k8 [some (.ref r), some (.int at_), some (.int rows), some (.lst wl), some (.str "put"), some (.int x), some (.int y), some (.int z), some (.int (goal : Int)), none, none] B = .nx [some (.ref r), some (.int at_), some (.int rows), some (.lst wl), some (.str "put"), some (.int x), some (.int y), some (.int z), some (.int (goal : Int)), none, none] B from fun B => by simp [k8, in_str], RS.nxt_nx, e_seq, c9, RS.nxt_nx, e_seq, c10, RS.nxt_nx]
      simp [k11, dct_ref, getD2, keyD, lkK, addD, hx]
      try rfl
  · have hd : RW.d ⟨[109, 111, 118, 101], [.n x, .n y]⟩ = .tup [.str "move", .int x, .int y] := by
      rw [e_w_move]
      rfl
    refine ⟨⟨[109, 111, 118, 101], [.n x, .n y]⟩, A10 ++ [?o_move], ?e_move, h10.app _, ⟨[98, 98], by show ([109, 111, 118, 101], [98, 98]) ∈ forms; decide, .cons (.b x2.1 x2.2) (.cons (.b y2.1 y2.2) (.nil))⟩⟩
    case e_move =>
      rw [pre, hd, e_seq, show ∀ B, k7 [some (.ref r), some (.int at_), some (.int rows), some (.lst wl), some (.str "move"), some (.int x), some (.int y), some (.int z), some (.int (goal : Int)), none, none] B = .nx [some (.ref r), some (.int at_), some (.int rows), some (.lst wl), some (.str "move"), some (.int x), some (.int y), some (.int z), some (.int (goal : Int)), none, none] B from fun B => by simp [k7, in_str], RS.nxt_nx, e_seq, show ∀ B, k8 [some (.ref r), some (.int at_), some (.int rows), some (.lst wl), some (.str "move"), some (.int x), some (.int y), some (.int z), some (.int (goal : Int)), none, none] B = .nx [some (.ref r), some (.int at_), some (.int rows), some (.lst wl), some (.str "move"), some (.int x), some (.int y), some (.int z), some (.int (goal : Int)), none, none] B from fun B => by simp [k8, in_str], RS.nxt_nx, e_seq, c9, RS.nxt_nx, e_seq, c10, RS.nxt_nx]
      simp [k11, dct_ref, getD2, keyD, lkK, addD, hx]
      try rfl
  · have hd : RW.d ⟨[97, 100, 100], [.n x, .n y, .n z]⟩ = .tup [.str "add", .int x, .int y, .int z] := by
      rw [e_w_add]
      rfl
    exact ⟨⟨[97, 100, 100], [.n x, .n y, .n z]⟩, A7, by rw [pre, hd]; simp [k7, in_str], h7, ⟨[98, 98, 98], by show ([97, 100, 100], [98, 98, 98]) ∈ forms; decide, .cons (.b x2.1 x2.2) (.cons (.b y2.1 y2.2) (.cons (.b z2.1 z2.2) (.nil)))⟩⟩
  · have hd : RW.d ⟨[116, 97, 107, 101], [.n x, .n y, .n z]⟩ = .tup [.str "take", .int x, .int y, .int z] := by
      rw [e_w_take]
      rfl
    exact ⟨⟨[116, 97, 107, 101], [.n x, .n y, .n z]⟩, A7, by rw [pre, hd]; simp [k7, in_str], h7, ⟨[98, 98, 98], by show ([116, 97, 107, 101], [98, 98, 98]) ∈ forms; decide, .cons (.b x2.1 x2.2) (.cons (.b y2.1 y2.2) (.cons (.b z2.1 z2.2) (.nil)))⟩⟩
  · have hd : RW.d ⟨[108, 101, 115, 115], [.n x, .n y, .n z]⟩ = .tup [.str "less", .int x, .int y, .int z] := by
      rw [e_w_less]
      rfl
    exact ⟨⟨[108, 101, 115, 115], [.n x, .n y, .n z]⟩, A7, by rw [pre, hd]; simp [k7, in_str], h7, ⟨[98, 98, 98], by show ([108, 101, 115, 115], [98, 98, 98]) ∈ forms; decide, .cons (.b x2.1 x2.2) (.cons (.b y2.1 y2.2) (.cons (.b z2.1 z2.2) (.nil)))⟩⟩
  · have hd : RW.d ⟨[115, 97, 109, 101], [.n x, .n y, .n z]⟩ = .tup [.str "same", .int x, .int y, .int z] := by
      rw [e_w_same]
      rfl
    exact ⟨⟨[115, 97, 109, 101], [.n x, .n y, .n z]⟩, A7, by rw [pre, hd]; simp [k7, in_str], h7, ⟨[98, 98, 98], by show ([115, 97, 109, 101], [98, 98, 98]) ∈ forms; decide, .cons (.b x2.1 x2.2) (.cons (.b y2.1 y2.2) (.cons (.b z2.1 z2.2) (.nil)))⟩⟩
  · have hd : RW.d ⟨[105, 115], [.n x, .n y]⟩ = .tup [.str "is", .int x, .int y] := by
      rw [e_w_is]
      rfl
    refine ⟨⟨[105, 115], [.n x, .n y]⟩, A10 ++ [?o_is], ?e_is, h10.app _, ⟨[98, 98], by show ([105, 115], [98, 98]) ∈ forms; decide, .cons (.b x2.1 x2.2) (.cons (.b y2.1 y2.2) (.nil))⟩⟩
    case e_is =>
      rw [pre, hd, e_seq, show ∀ B, k7 [some (.ref r), some (.int at_), some (.int rows), some (.lst wl), some (.str "is"), some (.int x), some (.int y), some (.int z), some (.int (goal : Int)), none, none] B = .nx [some (.ref r), some (.int at_), some (.int rows), some (.lst wl), some (.str "is"), some (.int x), some (.int y), some (.int z), some (.int (goal : Int)), none, none] B from fun B => by simp [k7, in_str], RS.nxt_nx, e_seq, show ∀ B, k8 [some (.ref r), some (.int at_), some (.int rows), some (.lst wl), some (.str "is"), some (.int x), some (.int y), some (.int z), some (.int (goal : Int)), none, none] B = .nx [some (.ref r), some (.int at_), some (.int rows), some (.lst wl), some (.str "is"), some (.int x), some (.int y), some (.int z), some (.int (goal : Int)), none, none] B from fun B => by simp [k8, in_str], RS.nxt_nx, e_seq, c9, RS.nxt_nx, e_seq, c10, RS.nxt_nx]
      simp [k11, dct_ref, getD2, keyD, lkK, addD, hx]
      try rfl
  · have hd : RW.d ⟨[103, 101, 116], [.n x, .n y, .n o]⟩ = .tup [.str "get", .int x, .int y, .int o] := by
      rw [e_w_get]
      rfl
    exact ⟨⟨[103, 101, 116], [.n x, .n y, .n o]⟩, B3, by rw [pre, hd]; simp [k7, k8, in_str, tk, d1, d2, d3, ho], hB3, ⟨[98, 98, 111], by show ([103, 101, 116], [98, 98, 111]) ∈ forms; decide, .cons (.b x2.1 x2.2) (.cons (.b y2.1 y2.2) (.cons (.o o0 o1) (.nil)))⟩⟩
  · have hd : RW.d ⟨[115, 101, 116], [.n y, .n o, .n z]⟩ = .tup [.str "set", .int y, .int o, .int z] := by
      rw [e_w_set]
      rfl
    exact ⟨⟨[115, 101, 116], [.n y, .n o, .n z]⟩, B3, by rw [pre, hd]; simp [k7, k8, in_str, tk, d1, d2, d3, ho], hB3, ⟨[98, 111, 98], by show ([115, 101, 116], [98, 111, 98]) ∈ forms; decide, .cons (.b y2.1 y2.2) (.cons (.o o0 o1) (.cons (.b z2.1 z2.2) (.nil)))⟩⟩
  · have hd : RW.d ⟨[110, 97, 114, 114, 111, 119], [.n x, .n y, .n z]⟩ = .tup [.str "narrow", .int x, .int y, .int z] := by
      rw [e_w_narrow]
      rfl
    exact ⟨⟨[110, 97, 114, 114, 111, 119], [.n x, .n y, .n z]⟩, A7, by rw [pre, hd]; simp [k7, in_str], h7, ⟨[98, 98, 98], by show ([110, 97, 114, 114, 111, 119], [98, 98, 98]) ∈ forms; decide, .cons (.b x2.1 x2.2) (.cons (.b y2.1 y2.2) (.cons (.b z2.1 z2.2) (.nil)))⟩⟩
  · have hd : RW.d ⟨[102, 101, 119, 101, 114], [.n x, .n y, .t l]⟩ = .tup [.str "fewer", .int x, .int y, .str (S l)] := by
      rw [e_w_fewer]
      rfl
    refine ⟨⟨[102, 101, 119, 101, 114], [.n x, .n y, .t l]⟩, A10 ++ [?o_fewer], ?e_fewer, h10.app _, ⟨[98, 98, 116], by show ([102, 101, 119, 101, 114], [98, 98, 116]) ∈ forms; decide, .cons (.b x2.1 x2.2) (.cons (.b y2.1 y2.2) (.cons (.t hl) (.nil)))⟩⟩
    case e_fewer =>
      rw [pre, hd, e_seq, show ∀ B, k7 [some (.ref r), some (.int at_), some (.int rows), some (.lst wl), some (.str "fewer"), some (.int x), some (.int y), some (.int z), some (.int (goal : Int)), none, none] B = .nx [some (.ref r), some (.int at_), some (.int rows), some (.lst wl), some (.str "fewer"), some (.int x), some (.int y), some (.int z), some (.int (goal : Int)), none, none] B from fun B => by simp [k7, in_str], RS.nxt_nx, e_seq, show ∀ B, k8 [some (.ref r), some (.int at_), some (.int rows), some (.lst wl), some (.str "fewer"), some (.int x), some (.int y), some (.int z), some (.int (goal : Int)), none, none] B = .nx [some (.ref r), some (.int at_), some (.int rows), some (.lst wl), some (.str "fewer"), some (.int x), some (.int y), some (.int z), some (.int (goal : Int)), none, none] B from fun B => by simp [k8, in_str], RS.nxt_nx, e_seq, c9, RS.nxt_nx, e_seq, c10, RS.nxt_nx]
      simp [k11, dct_ref, getD2, keyD, lkK, addD, hx]
      try rfl
  · have hd : RW.d ⟨[103, 97, 116, 101], [.n x, .n y, .n t]⟩ = .tup [.str "gate", .int x, .int y, .int t] := by
      rw [e_w_gate]
      rfl
    refine ⟨⟨[103, 97, 116, 101], [.n x, .n y, .n t]⟩, A10 ++ [?o_gate], ?e_gate, h10.app _, ⟨[98, 98, 103], by show ([103, 97, 116, 101], [98, 98, 103]) ∈ forms; decide, .cons (.b x2.1 x2.2) (.cons (.b y2.1 y2.2) (.cons (.g t2.1 t2.2) (.nil)))⟩⟩
    case e_gate =>
      rw [pre, hd, e_seq, show ∀ B, k7 [some (.ref r), some (.int at_), some (.int rows), some (.lst wl), some (.str "gate"), some (.int x), some (.int y), some (.int z), some (.int (goal : Int)), none, none] B = .nx [some (.ref r), some (.int at_), some (.int rows), some (.lst wl), some (.str "gate"), some (.int x), some (.int y), some (.int z), some (.int (goal : Int)), none, none] B from fun B => by simp [k7, in_str], RS.nxt_nx, e_seq, show ∀ B, k8 [some (.ref r), some (.int at_), some (.int rows), some (.lst wl), some (.str "gate"), some (.int x), some (.int y), some (.int z), some (.int (goal : Int)), none, none] B = .nx [some (.ref r), some (.int at_), some (.int rows), some (.lst wl), some (.str "gate"), some (.int x), some (.int y), some (.int z), some (.int (goal : Int)), none, none] B from fun B => by simp [k8, in_str], RS.nxt_nx, e_seq, c9, RS.nxt_nx, e_seq, c10, RS.nxt_nx]
      simp [k11, dct_ref, getD2, keyD, lkK, addD, hx]
      try rfl
  · have hd : RW.d ⟨[101, 110, 116, 101, 114], [.n y]⟩ = .tup [.str "enter", .int y] := by
      rw [e_w_enter]
      rfl
    refine ⟨⟨[101, 110, 116, 101, 114], [.n y]⟩, A10 ++ [?o_enter], ?e_enter, h10.app _, ⟨[98], by show ([101, 110, 116, 101, 114], [98]) ∈ forms; decide, .cons (.b y2.1 y2.2) (.nil)⟩⟩
    case e_enter =>
      rw [pre, hd, e_seq, show ∀ B, k7 [some (.ref r), some (.int at_), some (.int rows), some (.lst wl), some (.str "enter"), some (.int x), some (.int y), some (.int z), some (.int (goal : Int)), none, none] B = .nx [some (.ref r), some (.int at_), some (.int rows), some (.lst wl), some (.str "enter"), some (.int x), some (.int y), some (.int z), some (.int (goal : Int)), none, none] B from fun B => by simp [k7, in_str], RS.nxt_nx, e_seq, show ∀ B, k8 [some (.ref r), some (.int at_), some (.int rows), some (.lst wl), some (.str "enter"), some (.int x), some (.int y), some (.int z), some (.int (goal : Int)), none, none] B = .nx [some (.ref r), some (.int at_), some (.int rows), some (.lst wl), some (.str "enter"), some (.int x), some (.int y), some (.int z), some (.int (goal : Int)), none, none] B from fun B => by simp [k8, in_str], RS.nxt_nx, e_seq, c9, RS.nxt_nx, e_seq, c10, RS.nxt_nx]
      simp [k11, dct_ref, getD2, keyD, lkK, addD, hx]
      try rfl
  · have hd : RW.d ⟨[114, 111, 111, 109], [.n y]⟩ = .tup [.str "room", .int y] := by
      rw [e_w_room]
      rfl
    refine ⟨⟨[114, 111, 111, 109], [.n y]⟩, A10 ++ [?o_room], ?e_room, h10.app _, ⟨[98], by show ([114, 111, 111, 109], [98]) ∈ forms; decide, .cons (.b y2.1 y2.2) (.nil)⟩⟩
    case e_room =>
      rw [pre, hd, e_seq, show ∀ B, k7 [some (.ref r), some (.int at_), some (.int rows), some (.lst wl), some (.str "room"), some (.int x), some (.int y), some (.int z), some (.int (goal : Int)), none, none] B = .nx [some (.ref r), some (.int at_), some (.int rows), some (.lst wl), some (.str "room"), some (.int x), some (.int y), some (.int z), some (.int (goal : Int)), none, none] B from fun B => by simp [k7, in_str], RS.nxt_nx, e_seq, show ∀ B, k8 [some (.ref r), some (.int at_), some (.int rows), some (.lst wl), some (.str "room"), some (.int x), some (.int y), some (.int z), some (.int (goal : Int)), none, none] B = .nx [some (.ref r), some (.int at_), some (.int rows), some (.lst wl), some (.str "room"), some (.int x), some (.int y), some (.int z), some (.int (goal : Int)), none, none] B from fun B => by simp [k8, in_str], RS.nxt_nx, e_seq, c9, RS.nxt_nx, e_seq, c10, RS.nxt_nx]
      simp [k11, dct_ref, getD2, keyD, lkK, addD, hx]
      try rfl
  · have hd : RW.d ⟨[115, 104, 117, 116], [.n y]⟩ = .tup [.str "shut", .int y] := by
      rw [e_w_shut]
      rfl
    refine ⟨⟨[115, 104, 117, 116], [.n y]⟩, A10 ++ [?o_shut], ?e_shut, h10.app _, ⟨[98], by show ([115, 104, 117, 116], [98]) ∈ forms; decide, .cons (.b y2.1 y2.2) (.nil)⟩⟩
    case e_shut =>
      rw [pre, hd, e_seq, show ∀ B, k7 [some (.ref r), some (.int at_), some (.int rows), some (.lst wl), some (.str "shut"), some (.int x), some (.int y), some (.int z), some (.int (goal : Int)), none, none] B = .nx [some (.ref r), some (.int at_), some (.int rows), some (.lst wl), some (.str "shut"), some (.int x), some (.int y), some (.int z), some (.int (goal : Int)), none, none] B from fun B => by simp [k7, in_str], RS.nxt_nx, e_seq, show ∀ B, k8 [some (.ref r), some (.int at_), some (.int rows), some (.lst wl), some (.str "shut"), some (.int x), some (.int y), some (.int z), some (.int (goal : Int)), none, none] B = .nx [some (.ref r), some (.int at_), some (.int rows), some (.lst wl), some (.str "shut"), some (.int x), some (.int y), some (.int z), some (.int (goal : Int)), none, none] B from fun B => by simp [k8, in_str], RS.nxt_nx, e_seq, c9, RS.nxt_nx, e_seq, c10, RS.nxt_nx]
      simp [k11, dct_ref, getD2, keyD, lkK, addD, hx]
      try rfl
  · have hd : RW.d ⟨[115, 97, 121], [.n y]⟩ = .tup [.str "say", .int y] := by
      rw [e_w_say]
      rfl
    refine ⟨⟨[115, 97, 121], [.n y]⟩, A10 ++ [?o_say], ?e_say, h10.app _, ⟨[98], by show ([115, 97, 121], [98]) ∈ forms; decide, .cons (.b y2.1 y2.2) (.nil)⟩⟩
    case e_say =>
      rw [pre, hd, e_seq, show ∀ B, k7 [some (.ref r), some (.int at_), some (.int rows), some (.lst wl), some (.str "say"), some (.int x), some (.int y), some (.int z), some (.int (goal : Int)), none, none] B = .nx [some (.ref r), some (.int at_), some (.int rows), some (.lst wl), some (.str "say"), some (.int x), some (.int y), some (.int z), some (.int (goal : Int)), none, none] B from fun B => by simp [k7, in_str], RS.nxt_nx, e_seq, show ∀ B, k8 [some (.ref r), some (.int at_), some (.int rows), some (.lst wl), some (.str "say"), some (.int x), some (.int y), some (.int z), some (.int (goal : Int)), none, none] B = .nx [some (.ref r), some (.int at_), some (.int rows), some (.lst wl), some (.str "say"), some (.int x), some (.int y), some (.int z), some (.int (goal : Int)), none, none] B from fun B => by simp [k8, in_str], RS.nxt_nx, e_seq, c9, RS.nxt_nx, e_seq, c10, RS.nxt_nx]
      simp [k11, dct_ref, getD2, keyD, lkK, addD, hx]
      try rfl
  · have hd : RW.d ⟨[103, 111], [.n goal]⟩ = .tup [.str "go", .int goal] := by
      rw [e_w_go]
      rfl
    refine ⟨⟨[103, 111], [.n goal]⟩, A10 ++ [?o_go], ?e_go, h10.app _, ⟨[114], by show ([103, 111], [114]) ∈ forms; decide, .cons (.r g2.1 g2.2) (.nil)⟩⟩
    case e_go =>
      rw [pre, hd, e_seq, show ∀ B, k7 [some (.ref r), some (.int at_), some (.int rows), some (.lst wl), some (.str "go"), some (.int x), some (.int y), some (.int z), some (.int (goal : Int)), none, none] B = .nx [some (.ref r), some (.int at_), some (.int rows), some (.lst wl), some (.str "go"), some (.int x), some (.int y), some (.int z), some (.int (goal : Int)), none, none] B from fun B => by simp [k7, in_str], RS.nxt_nx, e_seq, show ∀ B, k8 [some (.ref r), some (.int at_), some (.int rows), some (.lst wl), some (.str "go"), some (.int x), some (.int y), some (.int z), some (.int (goal : Int)), none, none] B = .nx [some (.ref r), some (.int at_), some (.int rows), some (.lst wl), some (.str "go"), some (.int x), some (.int y), some (.int z), some (.int (goal : Int)), none, none] B from fun B => by simp [k8, in_str], RS.nxt_nx, e_seq, c9, RS.nxt_nx, e_seq, c10, RS.nxt_nx]
      simp [k11, dct_ref, getD2, keyD, lkK, addD, hx]
      try rfl
  · have hd : RW.d ⟨[105, 102], [.n y, .n goal]⟩ = .tup [.str "if", .int y, .int goal] := by
      rw [e_w_if]
      rfl
    refine ⟨⟨[105, 102], [.n y, .n goal]⟩, A10 ++ [?o_if], ?e_if, h10.app _, ⟨[98, 114], by show ([105, 102], [98, 114]) ∈ forms; decide, .cons (.b y2.1 y2.2) (.cons (.r g2.1 g2.2) (.nil))⟩⟩
    case e_if =>
      rw [pre, hd, e_seq, show ∀ B, k7 [some (.ref r), some (.int at_), some (.int rows), some (.lst wl), some (.str "if"), some (.int x), some (.int y), some (.int z), some (.int (goal : Int)), none, none] B = .nx [some (.ref r), some (.int at_), some (.int rows), some (.lst wl), some (.str "if"), some (.int x), some (.int y), some (.int z), some (.int (goal : Int)), none, none] B from fun B => by simp [k7, in_str], RS.nxt_nx, e_seq, show ∀ B, k8 [some (.ref r), some (.int at_), some (.int rows), some (.lst wl), some (.str "if"), some (.int x), some (.int y), some (.int z), some (.int (goal : Int)), none, none] B = .nx [some (.ref r), some (.int at_), some (.int rows), some (.lst wl), some (.str "if"), some (.int x), some (.int y), some (.int z), some (.int (goal : Int)), none, none] B from fun B => by simp [k8, in_str], RS.nxt_nx, e_seq, c9, RS.nxt_nx, e_seq, c10, RS.nxt_nx]
      simp [k11, dct_ref, getD2, keyD, lkK, addD, hx]
      try rfl
  · have hd : RW.d ⟨[101, 110, 100], []⟩ = .tup [.str "end"] := by
      rw [e_w_end]
      rfl
    refine ⟨⟨[101, 110, 100], []⟩, A10 ++ [?o_end], ?e_end, h10.app _, ⟨[], by show ([101, 110, 100], []) ∈ forms; decide, .nil⟩⟩
    case e_end =>
      rw [pre, hd, e_seq, show ∀ B, k7 [some (.ref r), some (.int at_), some (.int rows), some (.lst wl), some (.str "end"), some (.int x), some (.int y), some (.int z), some (.int (goal : Int)), none, none] B = .nx [some (.ref r), some (.int at_), some (.int rows), some (.lst wl), some (.str "end"), some (.int x), some (.int y), some (.int z), some (.int (goal : Int)), none, none] B from fun B => by simp [k7, in_str], RS.nxt_nx, e_seq, show ∀ B, k8 [some (.ref r), some (.int at_), some (.int rows), some (.lst wl), some (.str "end"), some (.int x), some (.int y), some (.int z), some (.int (goal : Int)), none, none] B = .nx [some (.ref r), some (.int at_), some (.int rows), some (.lst wl), some (.str "end"), some (.int x), some (.int y), some (.int z), some (.int (goal : Int)), none, none] B from fun B => by simp [k8, in_str], RS.nxt_nx, e_seq, c9, RS.nxt_nx, e_seq, c10, RS.nxt_nx]
      simp [k11, dct_ref, getD2, keyD, lkK, addD, hx]
      try rfl
end K19

set_option Elab.async false
set_option linter.all false
set_option maxRecDepth 100000
set_option maxHeartbeats 4000000
/-! K19U: programs drawn, their texts, and the law. -/
namespace K19
open PySem Tg L2
open SX (S)
def p1 : MS := (mAsg (mBin addD (mc (.int (1))) (mCall m__law_taken (mCons (mv 0) (mCons (mv 1) mNil)))) (gmN 2))
def p2 : MS := (mAsg (mLc (mRng1 (mCons (mv 2) mNil)) (gmN 4) mYes (mCall m__law_row (mCons (mv 0) (mCons (mv 4) (mCons (mv 2) mNil)))) [4] finF) (gmN 3))
def p3 : MS := (mRet (mCall tupD (mCons (mLc (miAny (mv 3)) (gmN 5) mYes (mIf (mAnd (mTb (mBin eqD (mv 5) (mTup (mCons (mc (.str "end")) mNil)))) (mTb (mBin gtD (mCall m__law_taken (mCons (mv 0) (mCons (mc (.int (4))) mNil))) (mc (.int (0)))))) (mTup (mCons (mc (.str "say")) (mCons (mc (.int (1))) mNil))) (mv 5)) [5] finF) mNil)))

def pT : ME := mCall m__law_row (mCons (mv 0) (mCons (mv 4) (mCons (mv 2) mNil)))
def pU : ME := mIf (mAnd (mTb (mBin eqD (mv 5) (mTup (mCons (mc (.str "end")) mNil)))) (mTb (mBin gtD (mCall m__law_taken (mCons (mv 0) (mCons (mc (.int (4))) mNil))) (mc (.int (0)))))) (mTup (mCons (mc (.str "say")) (mCons (mc (.int (1))) mNil))) (mv 5)
theorem eq_end {rows : Nat} {r : RW} (h : r.Ok rows) {A : AH} : ∃ b, eqD r.d (.tup [.str "end"]) A = .ok (.bl b) A := by
  obtain ⟨f, hf, h2⟩ := h
  refine ⟨feqs (D.str (S r.w) :: r.ps.map PT.d) [.str "end"], eq_tupF ?_⟩
  rw [List.all_cons, okFs h2, Bool.and_true, show Tg.okF (.str (S r.w)) = true from (fm_word _ hf).2.2.2.2.2]
  decide +kernel
theorem prog_made {r : Nat} {ns : List Int} {A0 A : AH} {most : Int} (h : RB r ns A0 A) (hm : 0 < most ∧ most ≤ 60) : ∃ (prog : List RW) (A' : AH), m__law_program [.ref r, .int most] A = .ok (.tup (prog.map RW.d)) A' ∧ RB r ns A0 A' ∧ (∀ p ∈ prog, p.Ok prog.length) ∧ prog ≠ [] ∧ prog.length ≤ 60 := by
  have e0 : m__law_program [.ref r, .int most] A = finS (b__law_program [some (.ref r), some (.int most), none, none, none, none] A) := rfl
  obtain ⟨w, A1, e1, h1, w1⟩ := takenN most h ⟨by omega, by omega⟩
  have c1 : p1 [some (.ref r), some (.int most), none, none, none, none] A = .nx [some (.ref r), some (.int most), some (.int ((1 + w : Nat) : Int)), none, none, none] A1 := by
    simp [p1, tk, e1]
  have e2 : (mCons (mv 2) mNil) [some (.ref r), some (.int most), some (.int ((1 + w : Nat) : Int)), none, none, none] A1 = .ok [.int ((1 + w : Nat) : Int)] A1 := rfl
  have hw : 1 + w < 16777216 := by omega
  obtain ⟨ys, A2, e3, h2, l2, P2⟩ := lc_gen (g := gmN 4) (tt := mYes) (te := pT) (vs := [4]) (RB r ns A0) (fun d => ∃ p : RW, d = p.d ∧ p.Ok (1 + w)) (rng1 e2 hw) (by rw [List.length_map, List.length_range]; exact hw) h1 (fun d hd B hB => by
    obtain ⟨i, hi, rfl⟩ := List.mem_map.mp hd
    obtain ⟨p, B', e, hB', hp⟩ := row_made (at_ := i) (rows := 1 + w) hB (List.mem_range.mp hi) (by omega)
    exact ⟨_, p.d, B', rfl, rfl, by simp at e; simp [pT, wpD, e], hB', p, rfl, hp⟩)
  rw [List.length_map, List.length_range] at l2
  have c2 : p2 [some (.ref r), some (.int most), some (.int ((1 + w : Nat) : Int)), none, none, none] A1 = .nx [some (.ref r), some (.int most), some (.int ((1 + w : Nat) : Int)), some (.lst ys), none, none] A2 := by
    show (mAsg (mLc (mRng1 (mCons (mv 2) mNil)) (gmN 4) mYes pT [4] finF) (gmN 3)) _ _ = _
    rw [e_asgN, e3]
    rfl
  have e4 : miAny (mv 3) [some (.ref r), some (.int most), some (.int ((1 + w : Nat) : Int)), some (.lst ys), none, none] A2 = .ok (.data ys) A2 := by simp
  obtain ⟨zs, A3, e5, h3, l3, P3⟩ := lc_gen (g := gmN 5) (tt := mYes) (te := pU) (vs := [5]) (RB r ns A0) (fun d => ∃ p : RW, d = p.d ∧ p.Ok (1 + w)) e4 (by omega) h2 (fun d hd B hB => by
    obtain ⟨p, rfl, hp⟩ := P2 d hd
    obtain ⟨b, hE⟩ := eq_end hp (A := B)
    cases b with
    | false => exact ⟨_, p.d, B, rfl, rfl, by simp [pU, wpD, hE], hB, p, rfl, hp⟩
    | true =>
      obtain ⟨v, B', e, hB', v1⟩ := takenN 4 hB ⟨by omega, by omega⟩
      by_cases hv : v = 0
      · exact ⟨_, p.d, B', rfl, rfl, by simp [pU, wpD, hE, tk, e, hv], hB', p, rfl, hp⟩
      · have hv2 : 0 < v := by omega
        have hd : RW.d ⟨[115, 97, 121], [.n 1]⟩ = .tup [.str "say", .int 1] := by
          rw [e_w_say]
          rfl
        exact ⟨_, RW.d ⟨[115, 97, 121], [.n 1]⟩, B', rfl, rfl, by rw [hd]; simp [pU, wpD, hE, tk, e, hv2], hB', ⟨[115, 97, 121], [.n 1]⟩, rfl, ⟨[98], by show ([115, 97, 121], [98]) ∈ forms; decide, .cons (.b (by omega) (by omega)) .nil⟩⟩)
  obtain ⟨prog, rfl, hP⟩ := maps_of P3
  rw [List.length_map] at l3
  have hlen : prog.length = 1 + w := by omega
  have c3 : p3 [some (.ref r), some (.int most), some (.int ((1 + w : Nat) : Int)), some (.lst ys), none, none] A2 = .rt (.tup (prog.map RW.d)) A3 := by
    show (mRet (mCall tupD (mCons (mLc (miAny (mv 3)) (gmN 5) mYes pU [5] finF) mNil))) _ _ = _
    rw [e_ret, e_call, e_cons, e5]
    rfl
  refine ⟨prog, A3, ?_, h3, fun p hp => by rw [hlen]; exact hP p hp, fun q => by rw [q] at hlen; simp at hlen; omega, by omega⟩
  have eb : b__law_program = mSeq p1 (mSeq p2 p3) := rfl
  rw [e0, eb, e_seq, c1, RS.nxt_nx, e_seq, c2, RS.nxt_nx, c3]
  rfl
/-! ### the law's own laying out -/
section
variable {A : AH}
theorem add_S {a b : List Nat} {A : AH} (h : a.length + b.length ≤ 16777216) : addD (.str (S a)) (.str (S b)) A = .ok (.str (S (a ++ b))) A := by
  show (if (S a).length + (S b).length ≤ 16777216 then R.ok (D.str (S a ++ S b)) A else .bad) = _
  rw [SX.S_len, SX.S_len, if_pos h, SX.S_cat]
theorem alike_part {rows k n : Nat} {p : PT} (h : PT.Ok rows k p) : m_alike (n + 1) [p.d, p.d] A = .ok (.bl true) A := by
  cases p with
  | n i => exact alike_int
  | t l => exact alike_str
theorem alike_row {rows n : Nat} {r : RW} (h : r.Ok rows) : m_alike (n + 2) [r.d, r.d] A = .ok (.bl true) A := by
  have hpl := parts_len h
  obtain ⟨f, hf, h2⟩ := h
  have hl : r.ps.length ≤ 3 := by simp [RW.parts] at hpl; omega
  refine alike_tup rfl (by simp; omega) fun i hi => ?_
  cases i with
  | zero => exact alike_str
  | succ i =>
    have hi2 : i < r.ps.length := by simpa using hi
    have := alike_part (A := A) (n := n) (h2.get i (by rw [h2.len]; exact hi2) hi2)
    simpa using this
theorem alike_prog {prog : List RW} (h : ∀ r ∈ prog, r.Ok prog.length) (h1 : prog.length ≤ 60) : m_alike 3 [.tup (prog.map RW.d), .tup (prog.map RW.d)] A = .ok (.bl true) A := by
  refine alike_tup rfl (by rw [List.length_map]; omega) fun i hi => ?_
  have hi2 : i < prog.length := by simpa using hi
  have := alike_row (A := A) (n := 0) (h _ (List.getElem_mem hi2))
  simpa using this
end
end K19

set_option Elab.async false
set_option linter.all false
set_option maxRecDepth 100000
set_option maxHeartbeats 4000000
/-! K19V: any words as parts: the program's reader and the law's. -/
namespace K19
open PySem Tg L2
open SX (S)
abbrev dv := PySem.NumText.digitsVal
def isFig (c : Nat) : Bool := decide (48 ≤ c ∧ c ≤ 57)
def bare (w : List Nat) : List Nat := if w.take 1 = [45] then w.drop 1 else w
def valW (w : List Nat) : Int := if w.take 1 = [45] then -(dv (w.drop 1) : Nat) else (dv w : Nat)
def goodN (w : List Nat) : Bool := decide (1 ≤ (bare w).length ∧ (bare w).length ≤ 5) && (bare w).all isFig
def numOf (w : List Nat) : Option Int := if (goodN w && decide (numC (valW w) = w)) = true then some (valW w) else none
def optD : Option Int → D
  | some i => .int i
  | none => .non
/-- a text of which nothing is known but its signs -/
def Tx (w : List Nat) : Prop := w.length ≤ 1000000 ∧ ∀ c ∈ w, c < 1114112
theorem Tx.okF {w : List Nat} (h : Tx w) : Tg.okF (.str (S w)) = true := by
  show PyData.strOk (S w) = true
  show (S w).cps.all (· < 0x110000) = true
  rw [Array.all_eq_true_iff_forall_mem]
  intro x hx
  have : x ∈ w := by
    have e : (S w).cps = w.toArray := rfl
    rw [e] at hx
    simpa using hx
  exact decide_eq_true (h.2 x this)
theorem bare_len (w : List Nat) : (bare w).length ≤ w.length := by
  unfold bare
  split
  · rw [List.length_drop]
    omega
  · exact Nat.le_refl _
theorem bare_mem {w : List Nat} {c : Nat} (h : c ∈ bare w) : c ∈ w := by
  unfold bare at h
  split at h
  · exact List.mem_of_mem_drop h
  · exact h
theorem dv_lt : ∀ (n : Nat) (z : List Nat), z.length = n → (∀ c ∈ z, isFig c = true) → dv z < 10 ^ n
  | 0, z, hl, _ => by
    rw [List.length_eq_zero_iff.mp hl]
    decide
  | n + 1, z, hl, h => by
    have hne : z ≠ [] := fun q => by rw [q] at hl; cases hl
    have e := List.dropLast_concat_getLast hne
    have hl2 : z.dropLast.length = n := by rw [List.length_dropLast, hl]; rfl
    have ih := dv_lt n z.dropLast hl2 fun c hc => h c (List.dropLast_subset z hc)
    have hlast := h _ (List.getLast_mem hne)
    have h2 : z.getLast hne ≤ 57 := (of_decide_eq_true hlast).2
    rw [← e]
    show PySem.NumText.digitsVal (z.dropLast ++ [z.getLast hne]) < 10 ^ (n + 1)
    rw [PySem.NumText.digitsVal_snoc, Nat.pow_succ]
    show dv z.dropLast * 10 + _ < _
    omega
theorem val_rng {w : List Nat} (h : goodN w = true) : -100000 < valW w ∧ valW w < 100000 := by
  unfold goodN at h
  obtain ⟨h1, h2⟩ := Bool.and_eq_true_iff.mp h
  have h3 := of_decide_eq_true h1
  have h4 : dv (bare w) < 100000 := Nat.lt_of_lt_of_le (dv_lt _ _ rfl fun c hc => List.all_eq_true.mp h2 c hc) (Nat.pow_le_pow_right (n := 10) (by decide) h3.2)
  unfold valW
  unfold bare at h4
  split
  · rename_i q
    rw [if_pos q] at h4
    omega
  · rename_i q
    rw [if_neg q] at h4
    omega
theorem int_W {w : List Nat} (h : goodN w = true) {A : AH} : intD [.str (S w)] A = .ok (.int (valW w)) A := by
  unfold goodN at h
  obtain ⟨h1, h2⟩ := Bool.and_eq_true_iff.mp h
  have h3 := of_decide_eq_true h1
  have hd : ∀ c ∈ bare w, 48 ≤ c ∧ c ≤ 57 := fun c hc => of_decide_eq_true (List.all_eq_true.mp h2 c hc)
  have hne : bare w ≠ [] := fun q => by rw [q] at h3; simp at h3
  have hl : w.length ≤ 6 := by
    have := h3.2
    unfold bare at this
    split at this
    · rw [List.length_drop] at this
      omega
    · omega
  have e : PySem.intText? (S w) = some (valW w) := by
    unfold valW
    unfold bare at hd hne
    split
    · rename_i q
      rw [if_pos q] at hd hne
      have e : w = 45 :: w.drop 1 := by
        have := List.take_append_drop 1 w
        rw [q] at this
        exact this.symm
      rw [PySem.intText_neg (x := S w) (cs := w.drop 1) e hd hne (by rw [SX.S_len]; omega)]
    · rename_i q
      rw [if_neg q] at hd hne
      rw [PySem.intText_digits (x := S w) hd hne (by rw [SX.S_len]; omega)]
  show (match PySem.intText? (S w) with
    | some n => if (S w).length ≤ 640 then R.ok (D.int n) A else .bad
    | none => .bad) = _
  rw [e]
  show (if (S w).length ≤ 640 then _ else _) = _
  rw [SX.S_len, if_pos (by omega)]
/-- of a sign's text, the sign -/
def sgn : D → Nat
  | .str z => z.cps.getD 0 0
  | _ => 0
theorem figs_S {c : Nat} {A : AH} : ninD (.str ⟨#[c]⟩) (.str (Str.ofString "0123456789")) A = .ok (.bl (!isFig c)) A := by
  rw [e_fig, nin_S]
  congr 3
  unfold isFig
  refine decide_eq_decide.mpr ?_
  simp only [List.mem_cons, List.not_mem_nil, or_false]
  omega
theorem odd_list {z : List Nat} : ((z.map fun c => D.str ⟨#[c]⟩).filter fun d => !isFig (sgn d)) = (z.filter fun c => !isFig c).map fun c => D.str ⟨#[c]⟩ := by
  rw [List.filter_map]
  rfl
theorem odd_ne {z : List Nat} (hz : ∀ c ∈ z, c < 1114112) {A : AH} : neD (.lst ((z.filter fun c => !isFig c).map fun c => D.str ⟨#[c]⟩)) (.lst []) A = .ok (.bl (!(z.all isFig))) A := by
  rw [ne_lstF]
  · congr 2
    have e : (z.all isFig) = true ↔ (z.filter fun c => !isFig c) = [] := by
      rw [List.filter_eq_nil_iff, List.all_eq_true]
      simp
    cases h : (z.filter fun c => !isFig c) with
    | nil =>
      rw [e.mpr h]
      rfl
    | cons x r =>
      have : z.all isFig = false := by
        cases q : z.all isFig with
        | false => rfl
        | true => rw [e.mp q] at h; cases h
      rw [this]
      rfl
  · rw [Bool.and_eq_true]
    refine ⟨List.all_eq_true.mpr fun d hd => ?_, rfl⟩
    obtain ⟨c, hc, rfl⟩ := List.mem_map.mp hd
    have := hz c (List.mem_filter.mp hc).1
    show PyData.strOk _ = true
    simp [PyData.strOk, this]
theorem nL_gen {w : D} {z : List Nat} {A : AH} (hz : z.length ≤ 1000000) : nL [some w, some (.str (S z)), none] A = .ok (.lst ((z.filter fun c => !isFig c).map fun c => D.str ⟨#[c]⟩)) A := by
  have e : miAny (mv 1) [some w, some (.str (S z)), none] A = .ok (.data (z.map fun c => .str ⟨#[c]⟩)) A := rfl
  have := lc_pure (g := gmN 2) (tt := mTb (mBin ninD (mv 2) (mc g_FIGURES))) (te := mv 2) (vs := [2]) (fun d => !isFig (sgn d)) (fun d => d) e (by rw [List.length_map]; omega) (fun d hd => by
    obtain ⟨c, hc, rfl⟩ := List.mem_map.mp hd
    exact ⟨_, rfl, by simp only [e_tb, e_bin, wpD, wp_cons, wp_nil, List.set_cons_succ, List.set_cons_zero, e_mvS, e_mv0, kB1_0, e_mc, kB2_0, g_FIGURES, figs_S, kT_0]; rfl, fun q => rfl⟩)
  rw [List.map_id'', odd_list] at this
  · exact this
  · intro x
    rfl
theorem number_gen {w : List Nat} (h : Tx w) {A : AH} : m_number_of [.str (S w)] A = .ok (optD (numOf w)) A := by
  have e0 : m_number_of [.str (S w)] A = finS (mSeq nA (mSeq nB nC) [some (.str (S w)), none, none] A) := rfl
  obtain ⟨hl, hc⟩ := h
  have hl2 : w.length ≤ 16777216 := by omega
  have c1 : nA [some (.str (S w)), none, none] A = .nx [some (.str (S w)), some (.str (S (bare w))), none] A := by
    unfold bare
    by_cases q : w.take 1 = [45]
    · have q2 : (S (w.take 1) == S [45]) = true := by rw [SX.S_beq_eq]; exact decide_eq_true q
      rw [if_pos q]
      simp [nA, sl_S hl2, cut_to1, cut_from1, e_dash, q2]
    · have q2 : (S (w.take 1) == S [45]) = false := by rw [SX.S_beq_eq]; exact decide_eq_false q
      rw [if_neg q]
      simp [nA, sl_S hl2, cut_to1, e_dash, q2]
  have hb := bare_len w
  have en : nL [some (.str (S w)), some (.str (S (bare w))), none] A = _ := nL_gen (w := .str (S w)) (by omega)
  have e2 := odd_ne (z := bare w) (A := A) fun c q => hc c (bare_mem q)
  have c2 : nB [some (.str (S w)), some (.str (S (bare w))), none] A = if goodN w = true then .nx [some (.str (S w)), some (.str (S (bare w))), none] A else .rt .non A := by
    show mIfS (mOr (mNot (mTb (mChain leD leD (mc (.int (1))) (mCall lenD (mCons (mv 1) mNil)) (mc g_MOST_FIGURES)))) (mTb (mBin neD nL (mLst mNil)))) (mRet (mc .non)) mNx _ _ = _
    have lz : lenD [.str (S (bare w))] A = .ok (.int (bare w).length) A := len_S (by omega)
    unfold goodN
    by_cases q1 : 1 ≤ (bare w).length
    · have q1' : (1 : Int) ≤ ((bare w).length : Int) := by omega
      by_cases q2 : (bare w).length ≤ 5
      · have q2' : ((bare w).length : Int) ≤ 5 := by omega
        cases q3 : (bare w).all isFig
        · rw [q3] at e2
          simp [g_MOST_FIGURES, lz, en, q1', q2', e2, q1, q2]
        · rw [q3] at e2
          simp [g_MOST_FIGURES, lz, en, q1', q2', e2, q1, q2]
      · have q2' : ¬ ((bare w).length : Int) ≤ 5 := by omega
        simp [g_MOST_FIGURES, lz, q1', q2', q1, q2]
    · have q1' : ¬ (1 : Int) ≤ ((bare w).length : Int) := by omega
      simp [g_MOST_FIGURES, lz, q1', q1]
  rw [e0, e_seq, c1, RS.nxt_nx, e_seq, c2]
  cases hg : goodN w with
  | false =>
    rw [if_neg (by decide)]
    have : numOf w = none := by
      unfold numOf
      rw [hg]
      rfl
    rw [this]
    rfl
  | true =>
    obtain ⟨r1, r2⟩ := val_rng hg
    rw [if_pos rfl, RS.nxt_nx]
    have c3 : nC [some (.str (S w)), some (.str (S (bare w))), none] A = .rt (optD (numOf w)) A := by
      unfold numOf
      rw [hg, Bool.true_and]
      by_cases q : numC (valW w) = w
      · have q2 : (S (numC (valW w)) == S w) = true := by rw [SX.S_beq_eq]; exact decide_eq_true q
        simp [nC, int_W hg, str_int r1 r2, q2, q, optD]
      · have q2 : (S (numC (valW w)) == S w) = false := by rw [SX.S_beq_eq]; exact decide_eq_false q
        simp [nC, int_W hg, str_int r1 r2, q2, q, optD]
    rw [c3]
    rfl
end K19

set_option Elab.async false
set_option linter.all false
set_option maxRecDepth 100000
set_option maxHeartbeats 4000000
/-! K19W: any words as parts of a row. -/
namespace K19
open PySem Tg L2
open SX (S)
def rts (w : List Nat) : List Nat := [103, 104, 108, 115].filter fun c => decide (c ∈ w)
def pOf (w : List Nat) (c : Nat) : D := if c = 116 then (if w = [45] then .str (S []) else if w ≠ [] then .str (S w) else .non) else optD (numOf w)
def lowP (c : Nat) : Int := if c = 110 then -10000 else if c = 111 then -63 else 0
def highP (c n : Nat) : Int := if c = 98 then 8 else if c = 110 then 10000 else if c = 111 then 64 else if c = 103 then (n : Int) + 1 else n
def inR (o : Option Int) (a b : Int) : Bool := match o with
  | some i => decide (a ≤ i) && decide (i < b)
  | none => false
def okP (w : List Nat) (c n : Nat) : Bool := if c = 116 then (decide (w = [45]) || (decide (w ≠ []) && decide (w = rts w))) else inR (numOf w) (lowP c) (highP c n)
def lpOf (w : List Nat) (c n : Nat) : D := if okP w c n = true then pOf w c else .non
theorem rts_len (w : List Nat) : (rts w).length ≤ 4 := List.length_filter_le _ [103, 104, 108, 115]
theorem rts_list {w : List Nat} : (([D.str ⟨#[103]⟩, .str ⟨#[104]⟩, .str ⟨#[108]⟩, .str ⟨#[115]⟩] : List D).filter fun d => decide (sgn d ∈ w)) = (rts w).map fun c => .str (S [c]) := by
  show (([103, 104, 108, 115].map fun c => D.str ⟨#[c]⟩).filter fun d => decide (sgn d ∈ w)) = _
  rw [List.filter_map]
  rfl
theorem rts_join {w : List Nat} {A : AH} : joinD (.str (S [])) [.lst ((rts w).map fun c => .str (S [c]))] A = .ok (.str (S (rts w))) A := by
  have := join_S (A := A) (s := []) (k := 1) (ls := (rts w).map fun c => [c]) (fun x hx => by
    obtain ⟨c, _, rfl⟩ := List.mem_map.mp hx
    exact Nat.le_refl 1) (by rw [List.length_map]; have := rts_len w; omega)
  rw [joinL_one, List.map_map] at this
  exact this
theorem raL_gen {w : List Nat} {A : AH} : raL [some (.str (S w)), none] A = .ok (.lst ((rts w).map fun c => .str (S [c]))) A := by
  have e : miAny (mc g_RIGHTS) [some (.str (S w)), none] A = .ok (.data [.str ⟨#[103]⟩, .str ⟨#[104]⟩, .str ⟨#[108]⟩, .str ⟨#[115]⟩]) A := by
    simp [g_RIGHTS, kIt_str, e_rts, sg_rts]
  have := lc_pure (g := gmN 1) (tt := mTb (mBin inD (mv 1) (mv 0))) (te := mv 1) (vs := [1]) (fun d => decide (sgn d ∈ w)) (fun d => d) e (by decide) (fun d hd => by
    have : ∃ c, d = .str ⟨#[c]⟩ := by
      simp only [List.mem_cons, List.not_mem_nil, or_false] at hd
      rcases hd with rfl | rfl | rfl | rfl <;> exact ⟨_, rfl⟩
    obtain ⟨c, rfl⟩ := this
    refine ⟨_, rfl, ?_, fun q => rfl⟩
    simp only [e_tb, e_bin, wpD, wp_cons, wp_nil, List.set_cons_succ, List.set_cons_zero, e_mvS, e_mv0, kB1_0, kB2_0, in_S, kT_0]
    rfl)
  rw [List.map_id'', rts_list] at this
  · exact this
  · intro x
    rfl
theorem are_gen {w : List Nat} {A : AH} : m_are_rights [.str (S w)] A = .ok (.bl (decide (w = rts w))) A := by
  have e0 : m_are_rights [.str (S w)] A = finS (mRet (mAndV (mUn (isiD "str") (mv 0)) (mBin eqD (mv 0) (mMt "str" joinD (mc (.str "")) (mCons raL mNil)))) [some (.str (S w)), none] A) := rfl
  have q : (S w == S (rts w)) = decide (w = rts w) := SX.S_beq_eq
  rw [e0]
  simp [subTy, raL_gen, e_emp, rts_join, tyMD, q]
theorem are_non {A : AH} : m_are_rights [.non] A = .ok (.bl false) A := by
  have e0 : m_are_rights [.non] A = finS (mRet (mAndV (mUn (isiD "str") (mv 0)) (mBin eqD (mv 0) (mMt "str" joinD (mc (.str "")) (mCons raL mNil)))) [some .non, none] A) := rfl
  rw [e0]
  simp [subTy]
theorem within_gen {o : Option Int} {lo hi : Int} {A : AH} : m_is_within [optD o, .int lo, .int hi] A = .ok (.bl (inR o lo hi)) A := by
  have e0 : m_is_within [optD o, .int lo, .int hi] A = finS (b_is_within [some (optD o), some (.int lo), some (.int hi)] A) := rfl
  have e1 : ∀ x B, m_is_number [x] B = finS (b_is_number [some x] B) := fun _ _ => rfl
  rw [e0]
  cases o with
  | none => simp [b_is_within, e1, b_is_number, subTy, optD, inR]
  | some i =>
    by_cases h1 : lo ≤ i
    · simp [b_is_within, e1, b_is_number, subTy, optD, inR, h1]
    · simp [b_is_within, e1, b_is_number, subTy, optD, inR, h1]
def Srt (c : Nat) : Prop := c = 98 ∨ c = 110 ∨ c = 111 ∨ c = 103 ∨ c = 114 ∨ c = 116
theorem part_gen {w : List Nat} {c n : Nat} (h : Srt c) {A : AH} : m_is_part [pOf w c, .str ⟨#[c]⟩, .int n] A = .ok (.bl (okP w c n)) A := by
  have e0 : m_is_part [pOf w c, .str ⟨#[c]⟩, .int n] A = finS (b_is_part [some (pOf w c), some (.str ⟨#[c]⟩), some (.int n), none] A) := rfl
  rw [e0]
  rcases h with rfl | rfl | rfl | rfl | rfl | rfl
  · rw [k_b]
    have e : m_is_within [optD (numOf w), .int (lowP 98), .int (highP 98 n)] A = _ := within_gen
    simp [lowP, highP] at e
    simp [b_is_part, pOf, okP, lowP, highP, g_BOXES, g_HALF, g_OFFSET, keysD, keyD, mergeD, ptK, lkK, ixD, dctD, itemsD, e]
  · rw [k_n]
    have e : m_is_within [optD (numOf w), .int (lowP 110), .int (highP 110 n)] A = _ := within_gen
    simp [lowP, highP] at e
    simp [b_is_part, pOf, okP, lowP, highP, g_BOXES, g_HALF, g_OFFSET, keysD, keyD, mergeD, ptK, lkK, ixD, dctD, itemsD, e]
  · rw [k_o]
    have e : m_is_within [optD (numOf w), .int (lowP 111), .int (highP 111 n)] A = _ := within_gen
    simp [lowP, highP] at e
    simp [b_is_part, pOf, okP, lowP, highP, g_BOXES, g_HALF, g_OFFSET, keysD, keyD, mergeD, ptK, lkK, ixD, dctD, itemsD, e]
  · rw [k_g]
    have e : m_is_within [optD (numOf w), .int (lowP 103), .int (highP 103 n)] A = _ := within_gen
    simp [lowP, highP] at e
    simp [b_is_part, pOf, okP, lowP, highP, g_BOXES, g_HALF, g_OFFSET, keysD, keyD, mergeD, ptK, lkK, ixD, dctD, itemsD, e]
  · rw [k_r]
    have e : m_is_within [optD (numOf w), .int (lowP 114), .int (highP 114 n)] A = _ := within_gen
    simp [lowP, highP] at e
    simp [b_is_part, pOf, okP, lowP, highP, g_BOXES, g_HALF, g_OFFSET, keysD, keyD, mergeD, ptK, lkK, ixD, dctD, itemsD, e]
  · rw [k_t]
    have e : pOf w 116 = if w = [45] then .str (S []) else if w ≠ [] then .str (S w) else .non := if_pos rfl
    have e2 : okP w 116 n = (decide (w = [45]) || (decide (w ≠ []) && decide (w = rts w))) := if_pos rfl
    rw [e, e2]
    by_cases q : w = [45]
    · have : m_are_rights [.str (S [])] A = .ok (.bl true) A := are_gen
      simp [b_is_part, q, this]
    · by_cases q2 : w = []
      · simp [b_is_part, q, q2, are_non]
      · simp [b_is_part, q, q2, are_gen]
theorem of_gen {w : List Nat} {c : Nat} (hw : Tx w) (h : Srt c) {A : AH} : m_part_of [.str (S w), .str ⟨#[c]⟩] A = .ok (pOf w c) A := by
  have e0 : m_part_of [.str (S w), .str ⟨#[c]⟩] A = finS (b_part_of [some (.str (S w)), some (.str ⟨#[c]⟩)] A) := rfl
  have en := number_gen hw (A := A)
  rw [e0]
  rcases h with rfl | rfl | rfl | rfl | rfl | rfl
  · rw [k_b]
    simp [b_part_of, pOf, en]
  · rw [k_n]
    simp [b_part_of, pOf, en]
  · rw [k_o]
    simp [b_part_of, pOf, en]
  · rw [k_g]
    simp [b_part_of, pOf, en]
  · rw [k_r]
    simp [b_part_of, pOf, en]
  · rw [k_t]
    have e : pOf w 116 = if w = [45] then .str (S []) else if w ≠ [] then .str (S w) else .non := if_pos rfl
    rw [e]
    by_cases q : w = [45]
    · have q1 : (S w == S [45]) = true := by rw [SX.S_beq_eq]; exact decide_eq_true q
      simp [b_part_of, g_NONE, e_dash, e_emp, q1, q]
    · have q1 : (S w == S [45]) = false := by rw [SX.S_beq_eq]; exact decide_eq_false q
      by_cases q2 : w = []
      · subst q2
        simp [b_part_of, g_NONE, e_dash, e_emp, q1]
      · have q3 : (S w == S []) = false := by rw [SX.S_beq_eq]; exact decide_eq_false q2
        simp [b_part_of, g_NONE, e_dash, e_emp, q1, q, q2, q3]
/-! ### the law's own -/
def y1 : MS := (mIfS (mTb (mBin eqD (mv 1) (mc (.str "t")))) (mSeq (mAsg (mMt "str" joinD (mc (.str "")) (mCons (mLc (miAny (mc (.str "ghls"))) (gmN 8) (mTb (mBin inD (mv 8) (mv 0))) (mv 8) [8] finF) mNil)) (gmN 3))
  (mRet (mIf (mAnd (mTb (mBin inD (mv 0) (mTup (mCons (mv 3) (mCons (mc (.str "-")) mNil))))) (mTb (mBin neD (mv 0) (mc (.str ""))))) (mv 3) (mc .non)))) mNx)
def y2 : MS := (mAsg (mSl (mv 0) (mPart (mCall intD (mCons (mBin eqD (mSl (mv 0) mNoPart (mPart (mc (.int (1))))) (mc (.str "-"))) mNil))) mNoPart) (gmN 4))
def y3 : MS := (mIfS (mOr (mNot (mTb (mChain leD leD (mc (.int (1))) (mCall lenD (mCons (mv 4) mNil)) (mc (.int (5)))))) (mTb (mBin neD (mLc (miAny (mv 4)) (gmN 8) (mTb (mBin ninD (mv 8) (mc (.str "0123456789")))) (mv 8) [8] finF) (mLst mNil)))) (mRet (mc .non)) mNx)
def y4 : MS := (mAsg (mCall intD (mCons (mv 0) mNil)) (gmN 5))
def y5 : MS := (mAsg (mBin ixD (mDct (mPCons (mc (.str "b")) (mTup (mCons (mc (.int (0))) (mCons (mc (.int (7))) mNil))) (mPCons (mc (.str "n")) (mTup (mCons (mBin subD (mc (.int (0))) (mc (.int (10000)))) (mCons (mc (.int (9999))) mNil))) (mPCons (mc (.str "o")) (mTup (mCons (mBin subD (mc (.int (0))) (mc (.int (63)))) (mCons (mc (.int (63))) mNil))) (mPCons (mc (.str "g")) (mTup (mCons (mc (.int (0))) (mCons (mv 2) mNil))) (mPCons (mc (.str "r")) (mTup (mCons (mc (.int (0))) (mCons (mBin subD (mv 2) (mc (.int (1)))) mNil))) mPNil)))))) (mv 1)) (gmTup 2 (gmCons (gmN 6) (gmCons (gmN 7) gmNil))))
def y6 : MS := (mRet (mIf (mAnd (mTb (mBin eqD (mCall strD (mCons (mv 5) mNil)) (mv 0))) (mTb (mChain leD leD (mv 6) (mv 5) (mv 7)))) (mv 5) (mc .non)))

def yL : ME := mLc (miAny (mv 4)) (gmN 8) (mTb (mBin ninD (mv 8) (mc (.str "0123456789")))) (mv 8) [8] finF
def yR : ME := mLc (miAny (mc (.str "ghls"))) (gmN 8) (mTb (mBin inD (mv 8) (mv 0))) (mv 8) [8] finF
theorem yL_gen {a b c d : Option D} {z : List Nat} {A : AH} (hz : z.length ≤ 1000000) : yL [a, b, c, d, some (.str (S z)), none, none, none, none] A = .ok (.lst ((z.filter fun c => !isFig c).map fun c => D.str ⟨#[c]⟩)) A := by
  have e : miAny (mv 4) [a, b, c, d, some (.str (S z)), none, none, none, none] A = .ok (.data (z.map fun c => .str ⟨#[c]⟩)) A := rfl
  have := lc_pure (g := gmN 8) (tt := mTb (mBin ninD (mv 8) (mc (.str "0123456789")))) (te := mv 8) (vs := [8]) (fun d => !isFig (sgn d)) (fun d => d) e (by rw [List.length_map]; omega) (fun d hd => by
    obtain ⟨c, hc, rfl⟩ := List.mem_map.mp hd
    exact ⟨_, rfl, by simp only [e_tb, e_bin, wpD, wp_cons, wp_nil, List.set_cons_succ, List.set_cons_zero, e_mvS, e_mv0, kB1_0, e_mc, kB2_0, figs_S, kT_0]; rfl, fun q => rfl⟩)
  rw [List.map_id'', odd_list] at this
  · exact this
  · intro x
    rfl
theorem yR_gen {b c : Option D} {w : List Nat} {A : AH} : yR [some (.str (S w)), b, c, none, none, none, none, none, none] A = .ok (.lst ((rts w).map fun c => .str (S [c]))) A := by
  have e : miAny (mc (.str "ghls")) [some (.str (S w)), b, c, none, none, none, none, none, none] A = .ok (.data [.str ⟨#[103]⟩, .str ⟨#[104]⟩, .str ⟨#[108]⟩, .str ⟨#[115]⟩]) A := by
    simp [kIt_str, e_rts, sg_rts]
  have := lc_pure (g := gmN 8) (tt := mTb (mBin inD (mv 8) (mv 0))) (te := mv 8) (vs := [8]) (fun d => decide (sgn d ∈ w)) (fun d => d) e (by decide) (fun d hd => by
    have : ∃ c, d = .str ⟨#[c]⟩ := by
      simp only [List.mem_cons, List.not_mem_nil, or_false] at hd
      rcases hd with rfl | rfl | rfl | rfl <;> exact ⟨_, rfl⟩
    obtain ⟨c, rfl⟩ := this
    refine ⟨_, rfl, ?_, fun q => rfl⟩
    simp only [e_tb, e_bin, wpD, wp_cons, wp_nil, List.set_cons_succ, List.set_cons_zero, e_mvS, e_mv0, kB1_0, kB2_0, in_S, kT_0]
    rfl)
  rw [List.map_id'', rts_list] at this
  · exact this
  · intro x
    rfl
theorem cut_from0 {l : List Nat} : cutS (S l) (some 0) none = S l := by
  cases l with
  | nil => rfl
  | cons c l => simp [cutS, HT.sIx, Str.length]
theorem lpart_t {w : List Nat} {n : Nat} {A : AH} : m__law_part [.str (S w), .str ⟨#[116]⟩, .int n] A = .ok (lpOf w 116 n) A := by
  have e0 : m__law_part [.str (S w), .str ⟨#[116]⟩, .int n] A = finS (mSeq (mIfS (mTb (mBin eqD (mv 1) (mc (.str "t")))) (mSeq (mAsg (mMt "str" joinD (mc (.str "")) (mCons yR mNil)) (gmN 3)) (mRet (mIf (mAnd (mTb (mBin inD (mv 0) (mTup (mCons (mv 3) (mCons (mc (.str "-")) mNil))))) (mTb (mBin neD (mv 0) (mc (.str ""))))) (mv 3) (mc .non)))) mNx) (mSeq y2 (mSeq y3 (mSeq y4 (mSeq y5 y6)))) [some (.str (S w)), some (.str ⟨#[116]⟩), some (.int n), none, none, none, none, none, none] A) := rfl
  have e : pOf w 116 = if w = [45] then .str (S []) else if w ≠ [] then .str (S w) else .non := if_pos rfl
  have e2 : okP w 116 n = (decide (w = [45]) || (decide (w ≠ []) && decide (w = rts w))) := if_pos rfl
  have b1 : feq (.str (S (rts w))) (.str (S w)) = decide (rts w = w) := SX.S_beq_eq
  have b2 : feq (.str (S [45])) (.str (S w)) = decide ([45] = w) := SX.S_beq_eq
  have b3 : (S w == S []) = decide (w = []) := SX.S_beq_eq
  have hin : inD (.str (S w)) (.tup [.str (S (rts w)), .str (S [45])]) A = .ok (.bl (decide (rts w = w) || decide ([45] = w))) A := by
    rw [in_str rfl]
    simp only [List.any_cons, List.any_nil, b1, b2, Bool.or_false]
  rw [e0, k_t]
  unfold lpOf
  rw [e, e2]
  by_cases q : w = [45]
  · subst q
    have hin' : inD (.str (S [45])) (.tup [.str (S (rts [45])), .str (S [45])]) A = .ok (.bl true) A := hin
    have : rts [45] = [] := by decide
    rw [this] at hin'
    have hj : joinD (.str (S [])) [.lst []] A = .ok (.str (S [])) A := rts_join (w := [45])
    simp [yR_gen, e_emp, e_dash, this, tyMD, hj, hin', b3]
  · by_cases q2 : w = []
    · subst q2
      have this : rts [] = [] := rfl
      have hj : joinD (.str (S [])) [.lst []] A = .ok (.str (S [])) A := rts_join (w := [])
      rw [this] at hin
      simp [yR_gen, e_emp, e_dash, tyMD, hj, hin, b3, this]
    · by_cases q3 : w = rts w
      · have q4 : rts w = w := q3.symm
        have hj : joinD (.str (S [])) [.lst ((rts w).map fun c => .str (S [c]))] A = _ := rts_join
        rw [q4] at hj hin
        simp [yR_gen, e_emp, e_dash, tyMD, hj, hin, b3, q, q2, q4]
      · have q4 : ¬ rts w = w := fun z => q3 z.symm
        have q5 : ¬ [45] = w := fun z => q z.symm
        simp [yR_gen, e_emp, e_dash, tyMD, rts_join, hin, b3, q, q2, q3, q4, q5]
theorem lpart_n {w : List Nat} {c n : Nat} (hw : Tx w) (h : Srt c) (hc : c ≠ 116) {A : AH} : m__law_part [.str (S w), .str ⟨#[c]⟩, .int n] A = .ok (lpOf w c n) A := by
  obtain ⟨hl, hm⟩ := hw
  have hl2 : w.length ≤ 16777216 := by omega
  have hb := bare_len w
  have e0 : m__law_part [.str (S w), .str ⟨#[c]⟩, .int n] A = finS (mSeq y1 (mSeq y2 (mSeq (mIfS (mOr (mNot (mTb (mChain leD leD (mc (.int (1))) (mCall lenD (mCons (mv 4) mNil)) (mc (.int (5)))))) (mTb (mBin neD yL (mLst mNil)))) (mRet (mc .non)) mNx) (mSeq y4 (mSeq y5 y6)))) [some (.str (S w)), some (.str ⟨#[c]⟩), some (.int n), none, none, none, none, none, none] A) := rfl
  have c1 : y1 [some (.str (S w)), some (.str ⟨#[c]⟩), some (.int n), none, none, none, none, none, none] A = .nx [some (.str (S w)), some (.str ⟨#[c]⟩), some (.int n), none, none, none, none, none, none] A := by
    have q : ((⟨#[c]⟩ : Str) == Str.ofString "t") = false := by
      rw [← k_t, show (⟨#[c]⟩ : Str) = S [c] from rfl, show (⟨#[116]⟩ : Str) = S [116] from rfl, SX.S_beq_eq]
      exact decide_eq_false fun z => hc (List.cons.inj z).1
    simp [y1, q]
  have c2 : y2 [some (.str (S w)), some (.str ⟨#[c]⟩), some (.int n), none, none, none, none, none, none] A = .nx [some (.str (S w)), some (.str ⟨#[c]⟩), some (.int n), none, some (.str (S (bare w))), none, none, none, none] A := by
    unfold bare
    by_cases q : w.take 1 = [45]
    · have q2 : (S (w.take 1) == S [45]) = true := by rw [SX.S_beq_eq]; exact decide_eq_true q
      have hi : intD [.bl true] A = .ok (.int 1) A := rfl
      rw [if_pos q]
      simp [y2, sl_S hl2, cut_to1, cut_from1, e_dash, q2, hi]
    · have q2 : (S (w.take 1) == S [45]) = false := by rw [SX.S_beq_eq]; exact decide_eq_false q
      have hi : intD [.bl false] A = .ok (.int 0) A := rfl
      rw [if_neg q]
      simp [y2, sl_S hl2, cut_to1, cut_from0, e_dash, q2, hi]
  have en : yL [some (.str (S w)), some (.str ⟨#[c]⟩), some (.int n), none, some (.str (S (bare w))), none, none, none, none] A = _ := yL_gen (by omega)
  have e2 := odd_ne (z := bare w) (A := A) fun c q => hm c (bare_mem q)
  have c3 : (mIfS (mOr (mNot (mTb (mChain leD leD (mc (.int (1))) (mCall lenD (mCons (mv 4) mNil)) (mc (.int (5)))))) (mTb (mBin neD yL (mLst mNil)))) (mRet (mc .non)) mNx) [some (.str (S w)), some (.str ⟨#[c]⟩), some (.int n), none, some (.str (S (bare w))), none, none, none, none] A =
      if goodN w = true then .nx [some (.str (S w)), some (.str ⟨#[c]⟩), some (.int n), none, some (.str (S (bare w))), none, none, none, none] A else .rt .non A := by
    have lz : lenD [.str (S (bare w))] A = .ok (.int (bare w).length) A := len_S (by omega)
    unfold goodN
    by_cases q1 : 1 ≤ (bare w).length
    · have q1' : (1 : Int) ≤ ((bare w).length : Int) := by omega
      by_cases q2 : (bare w).length ≤ 5
      · have q2' : ((bare w).length : Int) ≤ 5 := by omega
        cases q3 : (bare w).all isFig
        · rw [q3] at e2
          simp [lz, en, q1', q2', e2, q1, q2]
        · rw [q3] at e2
          simp [lz, en, q1', q2', e2, q1, q2]
      · have q2' : ¬ ((bare w).length : Int) ≤ 5 := by omega
        simp [lz, q1', q2', q1, q2]
    · have q1' : ¬ (1 : Int) ≤ ((bare w).length : Int) := by omega
      simp [lz, q1', q1]
  have eok : okP w c n = inR (numOf w) (lowP c) (highP c n) := if_neg hc
  have epo : pOf w c = optD (numOf w) := if_neg hc
  rw [e0, e_seq, c1, RS.nxt_nx, e_seq, c2, RS.nxt_nx, e_seq, c3]
  unfold lpOf
  rw [eok, epo]
  cases hg : goodN w with
  | false =>
    have : numOf w = none := by
      unfold numOf
      rw [hg]
      rfl
    rw [this, if_neg (by decide), if_neg (by simp [inR])]
    rfl
  | true =>
    obtain ⟨r1, r2⟩ := val_rng hg
    rw [if_pos rfl, RS.nxt_nx]
    have c4 : y4 [some (.str (S w)), some (.str ⟨#[c]⟩), some (.int n), none, some (.str (S (bare w))), none, none, none, none] A = .nx [some (.str (S w)), some (.str ⟨#[c]⟩), some (.int n), none, some (.str (S (bare w))), some (.int (valW w)), none, none, none] A := by
      simp [y4, int_W hg]
    have c5 : y5 [some (.str (S w)), some (.str ⟨#[c]⟩), some (.int n), none, some (.str (S (bare w))), some (.int (valW w)), none, none, none] A = .nx [some (.str (S w)), some (.str ⟨#[c]⟩), some (.int n), none, some (.str (S (bare w))), some (.int (valW w)), some (.int (lowP c)), some (.int (highP c n - 1)), none] A := by
      rcases h with rfl | rfl | rfl | rfl | rfl | rfl
      · rw [k_b]
        have q : (mBin ixD (mDct (mPCons (mc (.str "b")) (mTup (mCons (mc (.int (0))) (mCons (mc (.int (7))) mNil))) (mPCons (mc (.str "n")) (mTup (mCons (mBin subD (mc (.int (0))) (mc (.int (10000)))) (mCons (mc (.int (9999))) mNil))) (mPCons (mc (.str "o")) (mTup (mCons (mBin subD (mc (.int (0))) (mc (.int (63)))) (mCons (mc (.int (63))) mNil))) (mPCons (mc (.str "g")) (mTup (mCons (mc (.int (0))) (mCons (mv 2) mNil))) (mPCons (mc (.str "r")) (mTup (mCons (mc (.int (0))) (mCons (mBin subD (mv 2) (mc (.int (1)))) mNil))) mPNil)))))) (mv 1)) [some (.str (S w)), some (.str (Str.ofString "b")), some (.int n), none, some (.str (S (bare w))), some (.int (valW w)), none, none, none] A = .ok (.tup [.int (lowP 98), .int (highP 98 n - 1)]) A := by
          simp [lowP, highP, keysD, keyD, mergeD, ptK, lkK, ixD, dctD, itemsD]
          try omega
        show mAsg (mBin ixD (mDct (mPCons (mc (.str "b")) (mTup (mCons (mc (.int (0))) (mCons (mc (.int (7))) mNil))) (mPCons (mc (.str "n")) (mTup (mCons (mBin subD (mc (.int (0))) (mc (.int (10000)))) (mCons (mc (.int (9999))) mNil))) (mPCons (mc (.str "o")) (mTup (mCons (mBin subD (mc (.int (0))) (mc (.int (63)))) (mCons (mc (.int (63))) mNil))) (mPCons (mc (.str "g")) (mTup (mCons (mc (.int (0))) (mCons (mv 2) mNil))) (mPCons (mc (.str "r")) (mTup (mCons (mc (.int (0))) (mCons (mBin subD (mv 2) (mc (.int (1)))) mNil))) mPNil)))))) (mv 1)) (gmTup 2 (gmCons (gmN 6) (gmCons (gmN 7) gmNil))) _ A = _
        unfold mAsg
        rw [q]
        rfl
      · rw [k_n]
        have q : (mBin ixD (mDct (mPCons (mc (.str "b")) (mTup (mCons (mc (.int (0))) (mCons (mc (.int (7))) mNil))) (mPCons (mc (.str "n")) (mTup (mCons (mBin subD (mc (.int (0))) (mc (.int (10000)))) (mCons (mc (.int (9999))) mNil))) (mPCons (mc (.str "o")) (mTup (mCons (mBin subD (mc (.int (0))) (mc (.int (63)))) (mCons (mc (.int (63))) mNil))) (mPCons (mc (.str "g")) (mTup (mCons (mc (.int (0))) (mCons (mv 2) mNil))) (mPCons (mc (.str "r")) (mTup (mCons (mc (.int (0))) (mCons (mBin subD (mv 2) (mc (.int (1)))) mNil))) mPNil)))))) (mv 1)) [some (.str (S w)), some (.str (Str.ofString "n")), some (.int n), none, some (.str (S (bare w))), some (.int (valW w)), none, none, none] A = .ok (.tup [.int (lowP 110), .int (highP 110 n - 1)]) A := by
          simp [lowP, highP, keysD, keyD, mergeD, ptK, lkK, ixD, dctD, itemsD]
          try omega
        show mAsg (mBin ixD (mDct (mPCons (mc (.str "b")) (mTup (mCons (mc (.int (0))) (mCons (mc (.int (7))) mNil))) (mPCons (mc (.str "n")) (mTup (mCons (mBin subD (mc (.int (0))) (mc (.int (10000)))) (mCons (mc (.int (9999))) mNil))) (mPCons (mc (.str "o")) (mTup (mCons (mBin subD (mc (.int (0))) (mc (.int (63)))) (mCons (mc (.int (63))) mNil))) (mPCons (mc (.str "g")) (mTup (mCons (mc (.int (0))) (mCons (mv 2) mNil))) (mPCons (mc (.str "r")) (mTup (mCons (mc (.int (0))) (mCons (mBin subD (mv 2) (mc (.int (1)))) mNil))) mPNil)))))) (mv 1)) (gmTup 2 (gmCons (gmN 6) (gmCons (gmN 7) gmNil))) _ A = _
        unfold mAsg
        rw [q]
        rfl
      · rw [k_o]
        have q : (mBin ixD (mDct (mPCons (mc (.str "b")) (mTup (mCons (mc (.int (0))) (mCons (mc (.int (7))) mNil))) (mPCons (mc (.str "n")) (mTup (mCons (mBin subD (mc (.int (0))) (mc (.int (10000)))) (mCons (mc (.int (9999))) mNil))) (mPCons (mc (.str "o")) (mTup (mCons (mBin subD (mc (.int (0))) (mc (.int (63)))) (mCons (mc (.int (63))) mNil))) (mPCons (mc (.str "g")) (mTup (mCons (mc (.int (0))) (mCons (mv 2) mNil))) (mPCons (mc (.str "r")) (mTup (mCons (mc (.int (0))) (mCons (mBin subD (mv 2) (mc (.int (1)))) mNil))) mPNil)))))) (mv 1)) [some (.str (S w)), some (.str (Str.ofString "o")), some (.int n), none, some (.str (S (bare w))), some (.int (valW w)), none, none, none] A = .ok (.tup [.int (lowP 111), .int (highP 111 n - 1)]) A := by
          simp [lowP, highP, keysD, keyD, mergeD, ptK, lkK, ixD, dctD, itemsD]
          try omega
        show mAsg (mBin ixD (mDct (mPCons (mc (.str "b")) (mTup (mCons (mc (.int (0))) (mCons (mc (.int (7))) mNil))) (mPCons (mc (.str "n")) (mTup (mCons (mBin subD (mc (.int (0))) (mc (.int (10000)))) (mCons (mc (.int (9999))) mNil))) (mPCons (mc (.str "o")) (mTup (mCons (mBin subD (mc (.int (0))) (mc (.int (63)))) (mCons (mc (.int (63))) mNil))) (mPCons (mc (.str "g")) (mTup (mCons (mc (.int (0))) (mCons (mv 2) mNil))) (mPCons (mc (.str "r")) (mTup (mCons (mc (.int (0))) (mCons (mBin subD (mv 2) (mc (.int (1)))) mNil))) mPNil)))))) (mv 1)) (gmTup 2 (gmCons (gmN 6) (gmCons (gmN 7) gmNil))) _ A = _
        unfold mAsg
        rw [q]
        rfl
      · rw [k_g]
        have q : (mBin ixD (mDct (mPCons (mc (.str "b")) (mTup (mCons (mc (.int (0))) (mCons (mc (.int (7))) mNil))) (mPCons (mc (.str "n")) (mTup (mCons (mBin subD (mc (.int (0))) (mc (.int (10000)))) (mCons (mc (.int (9999))) mNil))) (mPCons (mc (.str "o")) (mTup (mCons (mBin subD (mc (.int (0))) (mc (.int (63)))) (mCons (mc (.int (63))) mNil))) (mPCons (mc (.str "g")) (mTup (mCons (mc (.int (0))) (mCons (mv 2) mNil))) (mPCons (mc (.str "r")) (mTup (mCons (mc (.int (0))) (mCons (mBin subD (mv 2) (mc (.int (1)))) mNil))) mPNil)))))) (mv 1)) [some (.str (S w)), some (.str (Str.ofString "g")), some (.int n), none, some (.str (S (bare w))), some (.int (valW w)), none, none, none] A = .ok (.tup [.int (lowP 103), .int (highP 103 n - 1)]) A := by
          simp [lowP, highP, keysD, keyD, mergeD, ptK, lkK, ixD, dctD, itemsD]
          try omega
        show mAsg (mBin ixD (mDct (mPCons (mc (.str "b")) (mTup (mCons (mc (.int (0))) (mCons (mc (.int (7))) mNil))) (mPCons (mc (.str "n")) (mTup (mCons (mBin subD (mc (.int (0))) (mc (.int (10000)))) (mCons (mc (.int (9999))) mNil))) (mPCons (mc (.str "o")) (mTup (mCons (mBin subD (mc (.int (0))) (mc (.int (63)))) (mCons (mc (.int (63))) mNil))) (mPCons (mc (.str "g")) (mTup (mCons (mc (.int (0))) (mCons (mv 2) mNil))) (mPCons (mc (.str "r")) (mTup (mCons (mc (.int (0))) (mCons (mBin subD (mv 2) (mc (.int (1)))) mNil))) mPNil)))))) (mv 1)) (gmTup 2 (gmCons (gmN 6) (gmCons (gmN 7) gmNil))) _ A = _
        unfold mAsg
        rw [q]
        rfl
      · rw [k_r]
        have q : (mBin ixD (mDct (mPCons (mc (.str "b")) (mTup (mCons (mc (.int (0))) (mCons (mc (.int (7))) mNil))) (mPCons (mc (.str "n")) (mTup (mCons (mBin subD (mc (.int (0))) (mc (.int (10000)))) (mCons (mc (.int (9999))) mNil))) (mPCons (mc (.str "o")) (mTup (mCons (mBin subD (mc (.int (0))) (mc (.int (63)))) (mCons (mc (.int (63))) mNil))) (mPCons (mc (.str "g")) (mTup (mCons (mc (.int (0))) (mCons (mv 2) mNil))) (mPCons (mc (.str "r")) (mTup (mCons (mc (.int (0))) (mCons (mBin subD (mv 2) (mc (.int (1)))) mNil))) mPNil)))))) (mv 1)) [some (.str (S w)), some (.str (Str.ofString "r")), some (.int n), none, some (.str (S (bare w))), some (.int (valW w)), none, none, none] A = .ok (.tup [.int (lowP 114), .int (highP 114 n - 1)]) A := by
          simp [lowP, highP, keysD, keyD, mergeD, ptK, lkK, ixD, dctD, itemsD]
          try omega
        show mAsg (mBin ixD (mDct (mPCons (mc (.str "b")) (mTup (mCons (mc (.int (0))) (mCons (mc (.int (7))) mNil))) (mPCons (mc (.str "n")) (mTup (mCons (mBin subD (mc (.int (0))) (mc (.int (10000)))) (mCons (mc (.int (9999))) mNil))) (mPCons (mc (.str "o")) (mTup (mCons (mBin subD (mc (.int (0))) (mc (.int (63)))) (mCons (mc (.int (63))) mNil))) (mPCons (mc (.str "g")) (mTup (mCons (mc (.int (0))) (mCons (mv 2) mNil))) (mPCons (mc (.str "r")) (mTup (mCons (mc (.int (0))) (mCons (mBin subD (mv 2) (mc (.int (1)))) mNil))) mPNil)))))) (mv 1)) (gmTup 2 (gmCons (gmN 6) (gmCons (gmN 7) gmNil))) _ A = _
        unfold mAsg
        rw [q]
        rfl
      · exact absurd rfl hc
    rw [e_seq, c4, RS.nxt_nx, e_seq, c5, RS.nxt_nx]
    have c6 : y6 [some (.str (S w)), some (.str ⟨#[c]⟩), some (.int n), none, some (.str (S (bare w))), some (.int (valW w)), some (.int (lowP c)), some (.int (highP c n - 1)), none] A = .rt (if inR (numOf w) (lowP c) (highP c n) = true then optD (numOf w) else .non) A := by
      have en : numOf w = if decide (numC (valW w) = w) = true then some (valW w) else none := by
        unfold numOf
        rw [hg, Bool.true_and]
      rw [en]
      by_cases q : numC (valW w) = w
      · have q2 : (S (numC (valW w)) == S w) = true := by rw [SX.S_beq_eq]; exact decide_eq_true q
        have eR : inR (some (valW w)) (lowP c) (highP c n) = (decide (lowP c ≤ valW w) && decide (valW w < highP c n)) := rfl
        have q3 : (valW w ≤ highP c n - 1) ↔ valW w < highP c n := by omega
        by_cases h1 : lowP c ≤ valW w
        · by_cases h2 : valW w < highP c n
          · simp [y6, str_int r1 r2, q2, q, optD, eR, h1, h2, q3]
          · simp [y6, str_int r1 r2, q2, q, optD, eR, h1, h2, q3]
        · simp [y6, str_int r1 r2, q2, q, optD, eR, h1]
      · have q2 : (S (numC (valW w)) == S w) = false := by rw [SX.S_beq_eq]; exact decide_eq_false q
        simp [y6, str_int r1 r2, q2, q, optD, inR]
    rw [c6]
    rfl
theorem lpart_gen {w : List Nat} {c n : Nat} (hw : Tx w) (h : Srt c) {A : AH} : m__law_part [.str (S w), .str ⟨#[c]⟩, .int n] A = .ok (lpOf w c n) A := by
  by_cases q : c = 116
  · subst q
    exact lpart_t
  · exact lpart_n hw h q
end K19

set_option Elab.async false
set_option linter.all false
set_option maxRecDepth 100000
set_option maxHeartbeats 4000000
/-! K19X: any line as a row. -/
namespace K19
open PySem Tg L2
open SX (S)
/-! ### the forms -/
theorem tb_forms : tb_FORMS = forms.map fun e => (S e.1, S e.2) := by decide +kernel
theorem look_map {w : List Nat} : ∀ {fs : List (List Nat × List Nat)}, (fs.map fun e => (S e.1, S e.2)).lookup (S w) = (fs.lookup w).map S
  | [] => rfl
  | (a, b) :: fs => by
    simp only [List.map_cons, List.lookup]
    rw [SX.S_beq]
    cases q : w == a with
    | true => rfl
    | false => exact look_map
theorem look_forms {w : List Nat} : tb_FORMS.lookup (S w) = (forms.lookup w).map S := by rw [tb_forms, look_map]
theorem forms_ok : ∀ e ∈ forms, ∀ c ∈ e.2, Srt c := by
  have h : (forms.all fun e => e.2.all fun c => decide (c = 98) || (decide (c = 110) || (decide (c = 111) || (decide (c = 103) || (decide (c = 114) || decide (c = 116)))))) = true := by decide
  intro e he c hc
  have := List.all_eq_true.mp (List.all_eq_true.mp h e he) c hc
  simpa [Srt] using this
theorem form_mem {w f : List Nat} : ∀ {fs : List (List Nat × List Nat)}, fs.lookup w = some f → (w, f) ∈ fs
  | [], h => nomatch h
  | (a, b) :: fs, h => by
    simp only [List.lookup] at h
    cases q : w == a with
    | true =>
      rw [q] at h
      cases h
      rw [beq_iff_eq.mp q]
      exact List.mem_cons_self
    | false =>
      rw [q] at h
      exact List.mem_cons_of_mem _ (form_mem h)
/-! ### the program's row -/
def words (l : List Nat) : List (List Nat) := TL.spl [32] 0 [] l
def badAt (ps : List (List Nat)) (f : List Nat) (n i : Nat) : Bool := match ps[i]?, f[i]? with
  | some w, some c => !okP w c n
  | _, _ => false
def rowOk (ps : List (List Nat)) (f : List Nat) (n : Nat) : Bool := (List.range f.length).all fun i => !badAt ps f n i
def lineD (l : List Nat) (n : Nat) : D := match words l with
  | [] => .non
  | w :: ps => match forms.lookup w with
    | none => .non
    | some f => if ps.length = f.length ∧ rowOk ps f n = true then .tup (.str (S w) :: List.zipWith pOf ps f) else .non
def okG (d : D) : Bool := Tg.okF d || Tg.isNon d
theorem pys_G {n : Nat} {A : AH} : ∀ {ds : List D}, ds.all okG = true → pysOf (pyOf (n + 1) A) ds = some (ds.map pyF) ∧ PyData.canLayAll0 (ds.map pyF) = true ∧ PyData.depthAll (ds.map pyF) = 0
  | [], _ => ⟨rfl, by simp [PyData.canLayAll0], by simp [PyData.depthAll]⟩
  | d :: ds, h => by
    simp only [List.all_cons, Bool.and_eq_true] at h
    obtain ⟨i1, i2, i3⟩ := pys_G (n := n) (A := A) h.2
    unfold pysOf
    cases d with
    | int i => exact ⟨by rw [i1]; rfl, by simp [PyData.canLayAll0, PyData.canLay0, pyF, i2], by simp [PyData.depthAll, PyData.depth, pyF, i3]⟩
    | non => exact ⟨by rw [i1]; rfl, by simp [PyData.canLayAll0, PyData.canLay0, pyF, i2], by simp [PyData.depthAll, PyData.depth, pyF, i3]⟩
    | str z =>
      have hz : PyData.strOk z = true := by
        have := h.1
        simpa [okG, Tg.okF, Tg.isNon] using this
      exact ⟨by rw [i1]; rfl, by simp [PyData.canLayAll0, PyData.canLay0, pyF, i2, hz], by simp [PyData.depthAll, PyData.depth, pyF, i3]⟩
    | _ => cases (show false = true from h.1)
theorem eq_nilG {d : D} {ds : List D} {A : AH} (h : (d :: ds).all okG = true) : eqD (.tup (d :: ds)) (.tup []) A = .ok (.bl false) A := by
  obtain ⟨a1, a2, a3⟩ := pys_G (n := 10) (A := A) h
  have e1 : pyOf 12 A (.tup (d :: ds)) = some (.tuple ((d :: ds).map pyF)) := by
    show (pysOf (pyOf 11 A) (d :: ds)).map PyData.tuple = _
    rw [a1]
    rfl
  have e2 : pyOf 12 A (.tup []) = some (.tuple ([].map pyF)) := rfl
  unfold eqD
  rw [e1, e2, show scEq (.tup (d :: ds)) (.tup []) = none from rfl]
  have s2 : SeqAt.shaped (.tuple (([] : List D).map pyF)) = true := shaped_tup (by simp [PyData.canLayAll0]) (by simp [PyData.depthAll])
  simp only [shaped_tup a2 a3, s2, Bool.and_self, if_true]
  simp [PyData.eqv, PyData.eqvAll]
theorem pOf_okG {w : List Nat} (h : Tx w) (c : Nat) : okG (pOf w c) = true := by
  unfold pOf
  split
  · split
    · decide +kernel
    · split
      · show (Tg.okF (.str (S w)) || _) = true
        rw [h.okF]
        rfl
      · rfl
  · cases numOf w <;> rfl
theorem zip_okG : ∀ {ps : List (List Nat)} {f : List Nat}, (∀ w ∈ ps, Tx w) → (List.zipWith pOf ps f).all okG = true
  | [], _, _ => by simp
  | _ :: _, [], _ => by simp
  | w :: ps, c :: f, h => by
    rw [List.zipWith_cons_cons, List.all_cons, pOf_okG (h w List.mem_cons_self), zip_okG fun w hw => h w (List.mem_cons_of_mem _ hw)]
    rfl
theorem zip_at {ps : List (List Nat)} {f : List Nat} {i : Nat} {w : List Nat} {c : Nat} (h1 : ps[i]? = some w) (h2 : f[i]? = some c) : (List.zipWith pOf ps f)[i]? = some (pOf w c) := by
  rw [List.getElem?_zipWith, h1, h2]
theorem row_gen {w f : List Nat} {ps : List (List Nat)} {n : Nat} {A : AH} (hf : forms.lookup w = some f) (hl : ps.length = f.length) (hp : ∀ w ∈ ps, Tx w) :
    m_is_row [.tup (.str (S w) :: List.zipWith pOf ps f), .int n] A = .ok (.bl (rowOk ps f n)) A := by
  have hfm := form_mem hf
  obtain ⟨w1, w2, w3, w4, w5, w6⟩ := fm_word _ hfm
  dsimp only at w5 w6
  have hz : (List.zipWith pOf ps f).length = f.length := by rw [List.length_zipWith, hl, Nat.min_self]
  generalize hds : List.zipWith pOf ps f = ds at hz
  have e0 : m_is_row [.tup (.str (S w) :: ds), .int n] A = finS (mSeq q1 (mSeq q2 (mSeq q3 (mRet (mBin eqD qL (mLst mNil))))) [some (.tup (.str (S w) :: ds)), some (.int n), none, none] A) := rfl
  have hlook : tb_FORMS.lookup (S w) = some (S f) := by rw [look_forms, hf]; rfl
  have hall : (D.str (S w) :: ds).all okG = true := by
    rw [List.all_cons, ← hds, zip_okG hp, Bool.and_true]
    show (Tg.okF (.str (S w)) || _) = true
    rw [show Tg.okF (.str (S w)) = true from w6]
    rfl
  have c1 : q1 [some (.tup (.str (S w) :: ds)), some (.int n), none, none] A = .nx [some (.tup (.str (S w) :: ds)), some (.int n), none, none] A := by
    simp [q1, subTy, eq_nilG hall, kninD, hlook]
  have c2 : q2 [some (.tup (.str (S w) :: ds)), some (.int n), none, none] A = .nx [some (.tup (.str (S w) :: ds)), some (.int n), some (.str (S f)), none] A := by
    simp [q2, kixD, hlook]
  have lz : lenD [.str (S f)] A = .ok (.int f.length) A := len_S (Nat.le_trans w5 (by decide))
  have c3 : q3 [some (.tup (.str (S w) :: ds)), some (.int n), some (.str (S f)), none] A = .nx [some (.tup (.str (S w) :: ds)), some (.int n), some (.str (S f)), none] A := by
    simp [q3, lz, hz]
  have c4 : qL [some (.tup (.str (S w) :: ds)), some (.int n), some (.str (S f)), none] A = .ok (.lst (((List.range f.length).filter fun i => badAt ps f n i).map fun i : Nat => D.int (i : Int))) A := by
    have e : (mCons (mCall lenD (mCons (mv 2) mNil)) mNil) [some (.tup (.str (S w) :: ds)), some (.int n), some (.str (S f)), none] A = .ok [.int (f.length : Int)] A := by simp [lz]
    have hk : f.length < 16777216 := Nat.lt_of_le_of_lt w5 (by decide)
    have := lc_pure (g := gmN 3) (tt := qT) (te := mv 3) (vs := [3]) (fun d => match d with
      | .int i => badAt ps f n i.toNat
      | _ => false) (fun d => d) (rng1 e hk) (by rw [List.length_map, List.length_range]; exact hk) (fun d hd => by
      obtain ⟨i, hi', rfl⟩ := List.mem_map.mp hd
      have hi := List.mem_range.mp hi'
      have hi2 : i < ps.length := by omega
      have g1 : ps[i]? = some ps[i] := List.getElem?_eq_getElem hi2
      have g2 : f[i]? = some f[i] := List.getElem?_eq_getElem hi
      have hsrt : Srt f[i] := forms_ok _ hfm _ (List.getElem_mem hi)
      have hp := part_gen (w := ps[i]) (n := n) (A := A) hsrt
      have x1 : ixD (.tup (.str (S w) :: ds)) (.int ((i : Int) + 1)) A = .ok (pOf ps[i] f[i]) A := by
        refine ix_tup ?_
        have := atI_ok (xs := D.str (S w) :: ds) (i := i + 1) (v := pOf ps[i] f[i]) (by rw [List.getElem?_cons_succ, ← hds, zip_at g1 g2])
        exact this
      have x2 : ixD (.str (S f)) (.int (i : Int)) A = .ok (.str ⟨#[f[i]]⟩) A := ix_ofS (by rw [SX.S_len]; omega) (atI_ok g2)
      have eb : badAt ps f n i = !okP ps[i] f[i] n := by
        unfold badAt
        rw [g1, g2]
      refine ⟨_, rfl, ?_, fun q => rfl⟩
      show _ = R.ok (badAt ps f n i) A
      rw [eb]
      simp [qT, wpD, x1, x2, hp])
    rw [List.map_id'' (fun _ => rfl), List.filter_map] at this
    exact this
  have c5 : eqD (.lst (((List.range f.length).filter fun i => badAt ps f n i).map fun i : Nat => D.int (i : Int))) (.lst []) A = .ok (.bl (rowOk ps f n)) A := by
    rw [eq_lstF]
    · congr 2
      unfold rowOk
      cases hq : (List.range f.length).filter fun i => badAt ps f n i with
      | nil =>
        have := List.filter_eq_nil_iff.mp hq
        rw [show ((List.range f.length).all fun i => !badAt ps f n i) = true from List.all_eq_true.mpr fun i hi => by
          cases q : badAt ps f n i with
          | false => rfl
          | true => exact absurd q (this i hi)]
        rfl
      | cons i r =>
        have hi : i ∈ (List.range f.length).filter fun i => badAt ps f n i := by rw [hq]; exact List.mem_cons_self
        obtain ⟨h1, h2⟩ := List.mem_filter.mp hi
        have : ((List.range f.length).all fun i => !badAt ps f n i) = false := by
          cases q : (List.range f.length).all fun i => !badAt ps f n i with
          | false => rfl
          | true =>
            have := List.all_eq_true.mp q i h1
            rw [h2] at this
            cases this
        rw [this]
        rfl
    · rw [Bool.and_eq_true]
      refine ⟨List.all_eq_true.mpr fun d hd => ?_, rfl⟩
      obtain ⟨i, _, rfl⟩ := List.mem_map.mp hd
      rfl
  have c6 : (mRet (mBin eqD qL (mLst mNil))) [some (.tup (.str (S w) :: ds)), some (.int n), some (.str (S f)), none] A = .rt (.bl (rowOk ps f n)) A := by
    rw [e_ret, e_bin, c4, kB1_0, e_lst, e_nil]
    simp [c5]
  rw [e0, e_seq, c1, RS.nxt_nx, e_seq, c2, RS.nxt_nx, e_seq, c3, RS.nxt_nx, c6, finS_rt]
/-! ### lines cut into words -/
theorem spl_all {c : Nat} : ∀ {l acc : List Nat}, TL.spl [c] 0 acc l ≠ [] ∧ TL.joinL [c] (TL.spl [c] 0 acc l) = acc ++ l ∧ (TL.spl [c] 0 acc l).length ≤ l.length + 1
  | [], acc => ⟨by simp [TL.spl], by simp [TL.spl, TL.joinL], by simp [TL.spl]⟩
  | x :: l, acc => by
    unfold TL.spl
    split
    · rename_i q
      obtain ⟨h1, h2, h3⟩ := spl_all (c := c) (l := l) (acc := [])
      have ex : x = c := by
        have := beq_iff_eq.mp (show ((x :: l).take 1 == [c]) = true from q)
        simpa using this
      refine ⟨by simp, ?_, by simp only [List.length_cons]; exact Nat.succ_le_succ h3⟩
      show TL.joinL [c] (acc :: TL.spl [c] 0 [] l) = _
      cases hs : TL.spl [c] 0 [] l with
      | nil => exact absurd hs h1
      | cons p r =>
        rw [hs] at h2
        show acc ++ ([c] ++ TL.joinL [c] (p :: r)) = _
        rw [h2, ex]
        simp
    · obtain ⟨h1, h2, h3⟩ := spl_all (c := c) (l := l) (acc := acc ++ [x])
      exact ⟨h1, by rw [h2]; simp, by simp only [List.length_cons]; omega⟩
theorem mem_joinL {s : List Nat} {c : Nat} : ∀ {ls : List (List Nat)} {l : List Nat}, l ∈ ls → c ∈ l → c ∈ TL.joinL s ls
  | [], _, h, _ => nomatch h
  | [p], l, h, hc => by
    rw [List.mem_singleton] at h
    subst h
    exact hc
  | p :: q :: r, l, h, hc => by
    show c ∈ p ++ (s ++ TL.joinL s (q :: r))
    rcases List.mem_cons.mp h with rfl | h
    · exact List.mem_append_left _ hc
    · exact List.mem_append_right _ (List.mem_append_right _ (mem_joinL h hc))
theorem len_joinL {s : List Nat} : ∀ {ls : List (List Nat)} {l : List Nat}, l ∈ ls → l.length ≤ (TL.joinL s ls).length
  | [], _, h => nomatch h
  | [p], l, h => by
    rw [List.mem_singleton] at h
    subst h
    exact Nat.le_refl _
  | p :: q :: r, l, h => by
    show l.length ≤ (p ++ (s ++ TL.joinL s (q :: r))).length
    rw [List.length_append, List.length_append]
    rcases List.mem_cons.mp h with rfl | h
    · omega
    · have := len_joinL (s := s) h
      omega
theorem spl_Tx {c : Nat} {l : List Nat} (h : Tx l) : ∀ w ∈ TL.spl [c] 0 [] l, Tx w := fun w hw => by
  have e : TL.joinL [c] (TL.spl [c] 0 [] l) = l := (spl_all (c := c) (l := l) (acc := [])).2.1
  refine ⟨?_, fun x hx => ?_⟩
  · have := len_joinL (s := [c]) hw
    rw [e] at this
    exact Nat.le_trans this h.1
  · have := mem_joinL (s := [c]) hw hx
    rw [e] at this
    exact h.2 x this
theorem split_gen {c : Nat} {l : List Nat} (h : Tx l) (hc : c < 256) {A : AH} : splitD (.str (S l)) [.str (S [c])] A = .ok (.lst ((TL.spl [c] 0 [] l).map fun w => .str (S w))) A := by
  show (if ((S [c]).length == 0) = false ∧ (S l).length + 2 ≤ 16777216 then R.ok (D.lst ((Txt.split (S l) (S [c])).map .str)) A else .bad) = _
  rw [if_pos ⟨rfl, by rw [SX.S_len]; have := h.1; omega⟩, SX.split_S (by simp) (by simp [hc]), List.map_map]
  rfl
theorem zip_gen {f : List Nat} {w : Sl} {A : AH} (hw : w.length = 7) : ∀ {ps : List (List Nat)} {f : List Nat}, (∀ w ∈ ps, Tx w) → (∀ c ∈ f, Srt c) →
    All2 (fun d q => ∃ s1, wG d w = some s1 ∧ mYes s1 A = .ok true A ∧ wT s1 A = .ok q A) (zipD (ps.map fun p => .str (S p)) (S f)) (List.zipWith pOf ps f)
  | [], f, _, _ => .nil
  | p :: ps, [], _, _ => .nil
  | p :: ps, c :: f, h1, h2 => by
    refine .cons ⟨(w.set 5 (some _)).set 6 (some _), rfl, rfl, ?_⟩ (zip_gen (f := []) hw (fun w hw => h1 w (List.mem_cons_of_mem _ hw)) fun c hc => h2 c (List.mem_cons_of_mem _ hc))
    have := of_gen (A := A) (h1 p List.mem_cons_self) (h2 c List.mem_cons_self)
    match w, hw with
    | [a0, a1, a2, a3, a4, a5, a6], _ => simp [wT, this]
theorem row_of_gen {l : List Nat} {n : Nat} (h : Tx l) {A : AH} : m_row_of [.str (S l), .int n] A = .ok (lineD l n) A := by
  have e0 : m_row_of [.str (S l), .int n] A = finS (mSeq w1 (mSeq w2 (mSeq w3 (mSeq w4 w5))) [some (.str (S l)), some (.int n), none, none, none, none, none] A) := rfl
  have e1 := split_gen (c := 32) h (by decide) (A := A)
  have hT := spl_Tx (c := 32) h
  have hne := (spl_all (c := 32) (l := l) (acc := [])).1
  have hcnt : (TL.spl [32] 0 [] l).length ≤ 1000001 := Nat.le_trans (spl_all (c := 32) (l := l) (acc := [])).2.2 (by have := h.1; omega)
  unfold lineD words
  cases hs : TL.spl [32] 0 [] l with
  | nil => exact absurd hs hne
  | cons w ps =>
    rw [hs] at e1 hT hcnt
    dsimp only
    have hps : ∀ w ∈ ps, Tx w := fun p hp => hT p (List.mem_cons_of_mem _ hp)
    have ew : ((w :: ps).map fun w => D.str (S w)) = .str (S w) :: ps.map fun p => .str (S p) := rfl
    rw [ew] at e1
    have c1 : w1 [some (.str (S l)), some (.int n), none, none, none, none, none] A = .nx [some (.str (S l)), some (.int n), some (.lst (.str (S w) :: ps.map fun p => .str (S p))), none, none, none, none] A := by
      simp [w1, e_sp, e1, tyMD]
    cases hf : forms.lookup w with
    | none =>
      have hlook : tb_FORMS.lookup (S w) = none := by rw [look_forms, hf]; rfl
      have c2 : w2 [some (.str (S l)), some (.int n), some (.lst (.str (S w) :: ps.map fun p => .str (S p))), none, none, none, none] A = .nx [some (.str (S l)), some (.int n), some (.lst (.str (S w) :: ps.map fun p => .str (S p))), some .non, none, none, none] A := by
        simp [w2, kgetD, hlook]
      have c3 : w3 [some (.str (S l)), some (.int n), some (.lst (.str (S w) :: ps.map fun p => .str (S p))), some .non, none, none, none] A = .rt .non A := by
        simp [w3, Tg.isNon]
      rw [e0, e_seq, c1, RS.nxt_nx, e_seq, c2, RS.nxt_nx, e_seq, c3]
      rfl
    | some f =>
      have hfm := form_mem hf
      have hf3 := (fm_word _ hfm).2.2.2.2.1
      dsimp only at hf3 ⊢
      have hlook : tb_FORMS.lookup (S w) = some (S f) := by rw [look_forms, hf]; rfl
      have lz : lenD [.str (S f)] A = .ok (.int f.length) A := len_S (by omega)
      have c2 : w2 [some (.str (S l)), some (.int n), some (.lst (.str (S w) :: ps.map fun p => .str (S p))), none, none, none, none] A = .nx [some (.str (S l)), some (.int n), some (.lst (.str (S w) :: ps.map fun p => .str (S p))), some (.str (S f)), none, none, none] A := by
        simp [w2, kgetD, hlook]
      by_cases hl : ps.length = f.length
      · have c3 : w3 [some (.str (S l)), some (.int n), some (.lst (.str (S w) :: ps.map fun p => .str (S p))), some (.str (S f)), none, none, none] A = .nx [some (.str (S l)), some (.int n), some (.lst (.str (S w) :: ps.map fun p => .str (S p))), some (.str (S f)), none, none, none] A := by
          simp [w3, lz, hl, Tg.isNon]
        have ez : (miZs (mCons (mSl (mv 2) (mPart (mc (.int (1)))) mNoPart) (mCons (mv 3) mNil))) [some (.str (S l)), some (.int n), some (.lst (.str (S w) :: ps.map fun p => .str (S p))), some (.str (S f)), none, none, none] A = .ok (.data (zipD (ps.map fun p => .str (S p)) (S f))) A := by
          have : slD (.lst (.str (S w) :: ps.map fun p => .str (S p))) (some 1) none A = .ok (.lst (ps.map fun p => .str (S p))) A := by
            show R.ok (D.lst (cutD _ _ _)) A = _
            rw [cutD1]
          have e : (mCons (mSl (mv 2) (mPart (mc (.int (1)))) mNoPart) (mCons (mv 3) mNil)) [some (.str (S l)), some (.int n), some (.lst (.str (S w) :: ps.map fun p => .str (S p))), some (.str (S f)), none, none, none] A = .ok [.lst (ps.map fun p => .str (S p)), .str (S f)] A := by
            simp [this]
          unfold miZs
          rw [e]
          rfl
        have hzl : (zipD (ps.map fun p => D.str (S p)) (S f)).length < 16777216 := by
          simp only [zipD, List.length_map, List.length_zip]
          simp only [List.length_cons] at hcnt
          omega
        have el := lc_all2 (g := wG) (tt := mYes) (te := wT) (vs := [5, 6]) ez hzl (zip_gen (f := []) (by rfl) hps (forms_ok _ hfm))
        have c4 : w4 [some (.str (S l)), some (.int n), some (.lst (.str (S w) :: ps.map fun p => .str (S p))), some (.str (S f)), none, none, none] A = .nx [some (.str (S l)), some (.int n), some (.lst (.str (S w) :: ps.map fun p => .str (S p))), some (.str (S f)), some (.tup (.str (S w) :: List.zipWith pOf ps f)), none, none] A := by
          unfold w4
          rw [e_asgN, e_bin]
          have e5 : (mCall tupD (mCons (mLc (miZs (mCons (mSl (mv 2) (mPart (mc (.int (1)))) mNoPart) (mCons (mv 3) mNil))) wG mYes wT [5, 6] finF) mNil)) [some (.str (S l)), some (.int n), some (.lst (.str (S w) :: ps.map fun p => .str (S p))), some (.str (S f)), none, none, none] A = .ok (.tup (List.zipWith pOf ps f)) A := by
            rw [e_call, e_cons, el]
            rfl
          have e6 : kB1 addD (mCall tupD (mCons (mLc (miZs (mCons (mSl (mv 2) (mPart (mc (.int (1)))) mNoPart) (mCons (mv 3) mNil))) wG mYes wT [5, 6] finF) mNil)) [some (.str (S l)), some (.int n), some (.lst (.str (S w) :: ps.map fun p => .str (S p))), some (.str (S f)), none, none, none] (.ok (.tup [.str (S w)]) A) = .ok (.tup (.str (S w) :: List.zipWith pOf ps f)) A := by
            rw [kB1_0, e5, kB2_0]
            show (if [D.str (S w)].length + (List.zipWith pOf ps f).length ≤ 16777216 then R.ok (D.tup ([D.str (S w)] ++ List.zipWith pOf ps f)) A else .bad) = _
            rw [if_pos (by rw [List.length_zipWith]; show 1 + _ ≤ _; omega)]
            rfl
          have e7 : (mTup (mCons (mBin ixD (mv 2) (mc (.int (0)))) mNil)) [some (.str (S l)), some (.int n), some (.lst (.str (S w) :: ps.map fun p => .str (S p))), some (.str (S f)), none, none, none] A = .ok (.tup [.str (S w)]) A := by simp
          rw [e7]
          exact congrArg (kAsg 4 _) e6
        have hrow := row_gen (n := n) (A := A) hf hl hps
        have c5 : w5 [some (.str (S l)), some (.int n), some (.lst (.str (S w) :: ps.map fun p => .str (S p))), some (.str (S f)), some (.tup (.str (S w) :: List.zipWith pOf ps f)), none, none] A = .rt (if ps.length = f.length ∧ rowOk ps f n = true then .tup (.str (S w) :: List.zipWith pOf ps f) else .non) A := by
          cases q : rowOk ps f n with
          | true =>
            rw [q] at hrow
            simp [w5, hrow, hl]
          | false =>
            rw [q] at hrow
            simp [w5, hrow]
        rw [e0, e_seq, c1, RS.nxt_nx, e_seq, c2, RS.nxt_nx, e_seq, c3, RS.nxt_nx, e_seq, c4, RS.nxt_nx, c5, finS_rt]
      · have hl' : ((ps.length : Int) + 1 == (f.length : Int) + 1) = false := by
          rw [beq_eq_false_iff_ne]
          omega
        have c3 : w3 [some (.str (S l)), some (.int n), some (.lst (.str (S w) :: ps.map fun p => .str (S p))), some (.str (S f)), none, none, none] A = .rt .non A := by
          simp [w3, lz, hl', Tg.isNon]
        rw [e0, e_seq, c1, RS.nxt_nx, e_seq, c2, RS.nxt_nx, e_seq, c3, if_neg (fun q => hl q.1)]
        rfl
/-! ### the law's line -/
def f1 : MS := (mAsg (mDctN (mPCons (mc (.str "put")) (mc (.str "bn")) (mPCons (mc (.str "get")) (mc (.str "bbo")) (mPCons (mc (.str "set")) (mc (.str "bob")) (mPCons (mc (.str "fewer")) (mc (.str "bbt")) (mPCons (mc (.str "gate")) (mc (.str "bbg")) (mPCons (mc (.str "go")) (mc (.str "r")) (mPCons (mc (.str "if")) (mc (.str "br")) (mPCons (mc (.str "end")) (mc (.str "")) mPNil))))))))) (gmN 0))
def f2 : MS := (mDrop (mMt "dict" updDD (mv 0) (mCons (mCall dictPD (mCons (mLc (miAny (mTup (mCons (mc (.str "add")) (mCons (mc (.str "take")) (mCons (mc (.str "less")) (mCons (mc (.str "same")) (mCons (mc (.str "narrow")) mNil))))))) (gmN 1) mYes (mTup (mCons (mv 1) (mCons (mc (.str "bbb")) mNil))) [1] finF) mNil)) mNil)))
def f3 : MS := (mDrop (mMt "dict" updDD (mv 0) (mCons (mCall dictPD (mCons (mBin addD (mLc (miAny (mTup (mCons (mc (.str "enter")) (mCons (mc (.str "room")) (mCons (mc (.str "shut")) (mCons (mc (.str "say")) mNil)))))) (gmN 1) mYes (mTup (mCons (mv 1) (mCons (mc (.str "b")) mNil))) [1] finF) (mLst (mCons (mTup (mCons (mc (.str "move")) (mCons (mc (.str "bb")) mNil))) (mCons (mTup (mCons (mc (.str "is")) (mCons (mc (.str "bb")) mNil))) mNil)))) mNil)) mNil)))
def f4 : MS := (mRet (mv 0))

def xl1 : MS := (mAsg (mMt "str" splitD (mv 0) (mCons (mc (.str " ")) mNil)) (gmN 2))
def xl2 : MS := (mAsg (mGet1 (mCall m__law_forms mNil) (mBin ixD (mv 2) (mc (.int (0))))) (gmN 3))
def xl3 : MS := (mIfS (mOr (mTb (mBin isD (mv 3) (mc .non))) (mTb (mBin neD (mCall lenD (mCons (mv 2) mNil)) (mBin addD (mCall lenD (mCons (mv 3) mNil)) (mc (.int (1))))))) (mRet (mc .non)) mNx)
def xl4 : MS := (mAsg (mBin addD (mTup (mCons (mBin ixD (mv 2) (mc (.int (0)))) mNil)) (mCall tupD (mCons (mLc (mRng1 (mCons (mCall lenD (mCons (mv 3) mNil)) mNil)) (gmN 5) mYes (mCall m__law_part (mCons (mBin ixD (mv 2) (mBin addD (mv 5) (mc (.int (1))))) (mCons (mBin ixD (mv 3) (mv 5)) (mCons (mv 1) mNil)))) [5] finF) mNil))) (gmN 4))
def xl5 : MS := (mRet (mIf (mTb (mBin inD (mc .non) (mv 4))) (mc .non) (mv 4)))

def fA : MA := (mCons (mCall dictPD (mCons (mLc (miAny (mTup (mCons (mc (.str "add")) (mCons (mc (.str "take")) (mCons (mc (.str "less")) (mCons (mc (.str "same")) (mCons (mc (.str "narrow")) mNil))))))) (gmN 1) mYes (mTup (mCons (mv 1) (mCons (mc (.str "bbb")) mNil))) [1] finF) mNil)) mNil)
def fB : MA := (mCons (mCall dictPD (mCons (mBin addD (mLc (miAny (mTup (mCons (mc (.str "enter")) (mCons (mc (.str "room")) (mCons (mc (.str "shut")) (mCons (mc (.str "say")) mNil)))))) (gmN 1) mYes (mTup (mCons (mv 1) (mCons (mc (.str "b")) mNil))) [1] finF) (mLst (mCons (mTup (mCons (mc (.str "move")) (mCons (mc (.str "bb")) mNil))) (mCons (mTup (mCons (mc (.str "is")) (mCons (mc (.str "bb")) mNil))) mNil)))) mNil)) mNil)
def kv1 : List (Key × D) := [(.inr "put", .str "bn"), (.inr "get", .str "bbo"), (.inr "set", .str "bob"), (.inr "fewer", .str "bbt"), (.inr "gate", .str "bbg"), (.inr "go", .str "r"), (.inr "if", .str "br"), (.inr "end", .str "")]
def kA : List Key := [.inr "add", .inr "take", .inr "less", .inr "same", .inr "narrow"]
def dA : List D := [.str "bbb", .str "bbb", .str "bbb", .str "bbb", .str "bbb"]
def kB : List Key := [.inr "enter", .inr "room", .inr "shut", .inr "say", .inr "move", .inr "is"]
def dB : List D := [.str "b", .str "b", .str "b", .str "b", .str "bb", .str "bb"]
def kv3 : List (Key × D) := mergeD (mergeD kv1 (kA.zip dA)) (kB.zip dB)
theorem fA_ok {s : Sl} {A : AH} (h : s.length = 2) : fA s A = .ok [.dct kA dA] A := by
  match s, h with
  | [a, b], _ => rfl
theorem fB_ok {s : Sl} {A : AH} (h : s.length = 2) : fB s A = .ok [.dct kB dB] A := by
  match s, h with
  | [a, b], _ => rfl
theorem dct_end {kv : List (Key × D)} {A : AH} : dctD (A ++ [AO.dct kv]) (.ref A.length) = some kv := by
  show (match (A ++ [AO.dct kv])[A.length]? with
    | some (.dct kvs) => some kvs
    | _ => none) = _
  rw [List.getElem?_concat_length]
theorem upd_step {kv : List (Key × D)} {ks : List Key} {ds : List D} {ma : MA} {A : AH} (h : ma [some (.ref A.length), none] (A ++ [.dct kv]) = .ok [.dct ks ds] (A ++ [.dct kv])) (hz : kv.length + (ks.zip ds).length ≤ 16777216) :
    mDrop (mMt "dict" updDD (mv 0) ma) [some (.ref A.length), none] (A ++ [.dct kv]) = .nx [some (.ref A.length), none] (A ++ [.dct (mergeD kv (ks.zip ds))]) := by
  have g : (A ++ [AO.dct kv])[A.length]? = some (.dct kv) := List.getElem?_concat_length
  have t : tyMD (A ++ [AO.dct kv]) "dict" (.ref A.length) = true := by
    show (dctD (A ++ [AO.dct kv]) (.ref A.length)).isSome = true
    rw [dct_end]
    rfl
  have u : updDD (.ref A.length) [.dct ks ds] (A ++ [.dct kv]) = .ok .non (A ++ [.dct (mergeD kv (ks.zip ds))]) := by
    show (match (A ++ [AO.dct kv])[A.length]? with
      | some (.dct acc) => if acc.length + (ks.zip ds).length ≤ 16777216 then R.ok D.non ((A ++ [AO.dct kv]).set A.length (.dct (mergeD acc (ks.zip ds)))) else .bad
      | _ => .bad) = _
    rw [g]
    dsimp only
    rw [if_pos hz, List.set_append_right _ _ (Nat.le_refl _), Nat.sub_self]
    rfl
  rw [e_drop, e_mt, e_mv0, kM1_0, if_pos t, h, kM2_0, u, kDrop_0]
theorem kv_keys : ((kv3.map (·.1)).all fun k => forms.any fun e => decide (k = .inr (S e.1))) = true := by decide +kernel
theorem kv_at : ∀ e ∈ forms, lkK kv3 (.inr (S e.1)) = some (.str (S e.2)) := by
  intro e he
  simp only [forms, List.mem_cons, List.not_mem_nil, or_false] at he
  rcases he with rfl | rfl | rfl | rfl | rfl | rfl | rfl | rfl | rfl | rfl | rfl | rfl | rfl | rfl | rfl | rfl | rfl | rfl | rfl
  all_goals kernel_rfl
theorem lk_none {k : Key} : ∀ {kvs : List (Key × D)}, k ∉ kvs.map (·.1) → lkK kvs k = none := fun {kvs} h => by
  unfold lkK
  rw [List.find?_eq_none.mpr fun p hp q => h (List.mem_map.mpr ⟨p, hp, of_decide_eq_true q⟩)]
  rfl
theorem kv_look (w : List Nat) : (lkK kv3 (.inr (S w))).getD .non = (match forms.lookup w with
    | some f => D.str (S f)
    | none => .non) := by
  cases hf : forms.lookup w with
  | some f =>
    rw [kv_at _ (form_mem hf)]
    rfl
  | none =>
    rw [lk_none fun q => ?_]
    · rfl
    · have := List.all_eq_true.mp kv_keys _ q
      obtain ⟨e, he, z⟩ := List.any_eq_true.mp this
      have z2 : S w = S e.1 := Sum.inr.inj (of_decide_eq_true z)
      have z3 : w = e.1 := of_decide_eq_true (by rw [← SX.S_beq_eq, beq_iff_eq]; exact z2)
      have : ∀ {fs : List (List Nat × List Nat)}, (e.1, e.2) ∈ fs → fs.lookup e.1 ≠ none := by
        intro fs
        induction fs with
        | nil => intro h; cases h
        | cons p fs ih =>
          intro h
          simp only [List.lookup]
          cases q : e.1 == p.1 with
          | true => simp
          | false =>
            rcases List.mem_cons.mp h with h | h
            · rw [← h, beq_self_eq_true] at q
              cases q
            · exact ih h
      exact this he (by rw [← z3]; exact hf)
theorem forms_made {A : AH} : m__law_forms [] A = .ok (.ref A.length) (A ++ [.dct kv3]) := by
  have e0 : m__law_forms [] A = finS (mSeq f1 (mSeq (mDrop (mMt "dict" updDD (mv 0) fA)) (mSeq (mDrop (mMt "dict" updDD (mv 0) fB)) f4)) [none, none] A) := rfl
  have c1 : f1 [none, none] A = .nx [some (.ref A.length), none] (A ++ [.dct kv1]) := rfl
  rw [e0, e_seq, c1, RS.nxt_nx, e_seq, upd_step (fA_ok rfl) (by decide), RS.nxt_nx, e_seq, upd_step (fB_ok rfl) (by decide +kernel), RS.nxt_nx]
  rfl
theorem any_non {ds : List D} : (ds.any fun z => feq z .non) = ds.any Tg.isNon := by
  congr 1
  funext z
  cases z <;> rfl
theorem lp_flat {w : List Nat} {c n : Nat} : flatD (lpOf w c n) = true := by
  unfold lpOf
  split
  · unfold pOf
    split
    · split
      · rfl
      · split <;> rfl
    · cases numOf w <;> rfl
  · rfl
theorem zipl_flat {n : Nat} : ∀ {ps : List (List Nat)} {f : List Nat}, (List.zipWith (fun w c => lpOf w c n) ps f).all flatD = true
  | [], _ => by simp
  | _ :: _, [] => by simp
  | w :: ps, c :: f => by
    rw [List.zipWith_cons_cons, List.all_cons, lp_flat, zipl_flat]
    rfl
theorem ok_not_non {w : List Nat} {c n : Nat} (h : okP w c n = true) : Tg.isNon (pOf w c) = false := by
  unfold okP at h
  unfold pOf
  split
  · rename_i hc
    rw [if_pos hc] at h
    split
    · rfl
    · split
      · rfl
      · rename_i q1 q2
        rw [decide_eq_false q1, Bool.false_or, decide_eq_false q2] at h
        cases h
  · rename_i hc
    rw [if_neg hc] at h
    cases hn : numOf w with
    | none =>
      rw [hn] at h
      cases h
    | some i => rfl
theorem row_ok_zip {n : Nat} : ∀ {ps : List (List Nat)} {f : List Nat}, ps.length = f.length → rowOk ps f n = (List.zipWith (fun w c => okP w c n) ps f).all id
  | [], [], _ => rfl
  | [], _ :: _, h => by cases h
  | _ :: _, [], h => by cases h
  | w :: ps, c :: f, h => by
    have ih := row_ok_zip (n := n) (ps := ps) (f := f) (by simpa using h)
    unfold rowOk at ih ⊢
    rw [List.zipWith_cons_cons, List.all_cons, List.length_cons, List.range_succ_eq_map, List.all_cons, List.all_map]
    have e0 : badAt (w :: ps) (c :: f) n 0 = !okP w c n := rfl
    have e1 : ((fun i => !badAt (w :: ps) (c :: f) n i) ∘ Nat.succ) = fun i => !badAt ps f n i := by
      funext i
      show (!badAt (w :: ps) (c :: f) n (i + 1)) = _
      unfold badAt
      rw [List.getElem?_cons_succ, List.getElem?_cons_succ]
    rw [e0, e1, ih, Bool.not_not]
    rfl
theorem zipl_non {n : Nat} : ∀ {ps : List (List Nat)} {f : List Nat}, (List.zipWith (fun w c => lpOf w c n) ps f).any Tg.isNon = !((List.zipWith (fun w c => okP w c n) ps f).all id)
  | [], _ => by simp
  | _ :: _, [] => by simp
  | w :: ps, c :: f => by
    rw [List.zipWith_cons_cons, List.zipWith_cons_cons, List.any_cons, List.all_cons, zipl_non]
    unfold lpOf
    cases q : okP w c n with
    | true =>
      rw [if_pos rfl, ok_not_non q]
      rfl
    | false => rfl
theorem zipl_same {n : Nat} : ∀ {ps : List (List Nat)} {f : List Nat}, (List.zipWith (fun w c => okP w c n) ps f).all id = true → List.zipWith (fun w c => lpOf w c n) ps f = List.zipWith pOf ps f
  | [], _, _ => by simp
  | _ :: _, [], _ => by simp
  | w :: ps, c :: f, h => by
    rw [List.zipWith_cons_cons, List.all_cons, Bool.and_eq_true] at h
    have h1 : okP w c n = true := h.1
    rw [List.zipWith_cons_cons, List.zipWith_cons_cons, zipl_same h.2]
    unfold lpOf
    rw [if_pos h1]
def xT : ME := mCall m__law_part (mCons (mBin ixD (mv 2) (mBin addD (mv 5) (mc (.int (1))))) (mCons (mBin ixD (mv 3) (mv 5)) (mCons (mv 1) mNil)))
theorem range_all2 {n : Nat} {P : D → D → Prop} : ∀ {f : List Nat} {ps : List (List Nat)} (k : Nat), ps.length = f.length → (∀ i w c, ps[i]? = some w → f[i]? = some c → P (.int ((k + i : Nat) : Int)) (lpOf w c n)) → All2 P ((List.range' k f.length).map fun i : Nat => D.int (i : Int)) (List.zipWith (fun w c => lpOf w c n) ps f)
  | [], [], _, _, _ => .nil
  | [], _ :: _, _, h, _ => by cases h
  | _ :: _, [], _, h, _ => by cases h
  | c :: f, w :: ps, k, h, hp => by
    rw [List.length_cons, List.range'_succ, List.map_cons, List.zipWith_cons_cons]
    refine .cons (hp 0 w c rfl rfl) (range_all2 (k + 1) (by simpa using h) fun i w' c' h1 h2 => ?_)
    have := hp (i + 1) w' c' (by rw [List.getElem?_cons_succ]; exact h1) (by rw [List.getElem?_cons_succ]; exact h2)
    rw [show k + 1 + i = k + (i + 1) by omega]
    exact this
theorem line_gen {l : List Nat} {n : Nat} (h : Tx l) {A : AH} : m__law_line [.str (S l), .int n] A = .ok (lineD l n) (A ++ [.dct kv3]) := by
  have e0 : m__law_line [.str (S l), .int n] A = finS (mSeq xl1 (mSeq xl2 (mSeq xl3 (mSeq xl4 xl5))) [some (.str (S l)), some (.int n), none, none, none, none] A) := rfl
  have e1 := split_gen (c := 32) h (by decide) (A := A)
  have hT := spl_Tx (c := 32) h
  have hne := (spl_all (c := 32) (l := l) (acc := [])).1
  unfold lineD words
  cases hs : TL.spl [32] 0 [] l with
  | nil => exact absurd hs hne
  | cons w ps =>
    rw [hs] at e1 hT
    dsimp only
    have hps : ∀ w ∈ ps, Tx w := fun p hp => hT p (List.mem_cons_of_mem _ hp)
    have ew : ((w :: ps).map fun w => D.str (S w)) = .str (S w) :: ps.map fun p => .str (S p) := rfl
    rw [ew] at e1
    have c1 : xl1 [some (.str (S l)), some (.int n), none, none, none, none] A = .nx [some (.str (S l)), some (.int n), some (.lst (.str (S w) :: ps.map fun p => .str (S p))), none, none, none] A := by
      simp [xl1, e_sp, e1, tyMD]
    generalize hB : A ++ [AO.dct kv3] = B
    have eg : dctD B (.ref A.length) = some kv3 := by
      rw [← hB, dct_end]
    have c2 : ∀ d, (match forms.lookup w with
        | some f => D.str (S f)
        | none => .non) = d → xl2 [some (.str (S l)), some (.int n), some (.lst (.str (S w) :: ps.map fun p => .str (S p))), none, none, none] A = .nx [some (.str (S l)), some (.int n), some (.lst (.str (S w) :: ps.map fun p => .str (S p))), some d, none, none] B := fun d hd => by
      have ef : m__law_forms [] A = .ok (.ref A.length) B := by rw [forms_made, hB]
      have g : getD1 (.ref A.length) (.str (S w)) B = .ok d B := by
        unfold getD1
        rw [eg]
        show R.ok ((lkK kv3 (.inr (S w))).getD .non) B = _
        rw [kv_look, hd]
      simp [xl2, ef, eg, g]
    cases hf : forms.lookup w with
    | none =>
      rw [hf] at c2
      have c3 : xl3 [some (.str (S l)), some (.int n), some (.lst (.str (S w) :: ps.map fun p => .str (S p))), some .non, none, none] B = .rt .non B := by
        simp [xl3, Tg.isNon]
      rw [e0, e_seq, c1, RS.nxt_nx, e_seq, c2 _ rfl, RS.nxt_nx, e_seq, c3]
      rfl
    | some f =>
      rw [hf] at c2
      have hfm := form_mem hf
      have hf3 := (fm_word _ hfm).2.2.2.2.1
      have lz : lenD [.str (S f)] B = .ok (.int f.length) B := len_S (by dsimp only at hf3; omega)
      dsimp only at hf3 ⊢
      by_cases hl : ps.length = f.length
      · have c3 : xl3 [some (.str (S l)), some (.int n), some (.lst (.str (S w) :: ps.map fun p => .str (S p))), some (.str (S f)), none, none] B = .nx [some (.str (S l)), some (.int n), some (.lst (.str (S w) :: ps.map fun p => .str (S p))), some (.str (S f)), none, none] B := by
          simp [xl3, lz, hl, Tg.isNon]
        have er : (mCons (mCall lenD (mCons (mv 3) mNil)) mNil) [some (.str (S l)), some (.int n), some (.lst (.str (S w) :: ps.map fun p => .str (S p))), some (.str (S f)), none, none] B = .ok [.int (f.length : Int)] B := by simp [lz]
        have el := lc_all2 (g := gmN 5) (tt := mYes) (te := xT) (vs := [5]) (rng1 er (by omega)) (by rw [List.length_map, List.length_range]; omega) (by
          rw [List.range_eq_range']
          exact range_all2 (n := n) (P := fun d q => ∃ s1, gmN 5 d (wpD [some (.str (S l)), some (.int n), some (.lst (.str (S w) :: ps.map fun p => .str (S p))), some (.str (S f)), none, none] [5]) = some s1 ∧ mYes s1 B = .ok true B ∧ xT s1 B = .ok q B) 0 hl fun i p c h1 h2 => by
            have hi := (List.getElem?_eq_some_iff.mp h2).1
            have x1 : ixD (.lst (.str (S w) :: ps.map fun p => .str (S p))) (.int ((i : Int) + 1)) B = .ok (.str (S p)) B := by
              have := ix_lst (A := B) (atI_ok (xs := D.str (S w) :: ps.map fun p => .str (S p)) (i := i + 1) (v := .str (S p)) (by rw [List.getElem?_cons_succ, List.getElem?_map, h1]; rfl))
              exact this
            have x2 : ixD (.str (S f)) (.int (i : Int)) B = .ok (.str ⟨#[c]⟩) B := ix_ofS (by rw [SX.S_len]; omega) (atI_ok h2)
            have hp := lpart_gen (n := n) (A := B) (hps p (List.mem_of_getElem? h1)) (forms_ok _ hfm c (List.mem_of_getElem? h2))
            refine ⟨_, rfl, rfl, ?_⟩
            rw [Nat.zero_add]
            simp [xT, wpD, x1, x2, hp])
        have hzl : (List.zipWith (fun w c => lpOf w c n) ps f).length = f.length := by rw [List.length_zipWith, hl, Nat.min_self]
        have c4 : xl4 [some (.str (S l)), some (.int n), some (.lst (.str (S w) :: ps.map fun p => .str (S p))), some (.str (S f)), none, none] B = .nx [some (.str (S l)), some (.int n), some (.lst (.str (S w) :: ps.map fun p => .str (S p))), some (.str (S f)), some (.tup (.str (S w) :: List.zipWith (fun w c => lpOf w c n) ps f)), none] B := by
          unfold xl4
          rw [e_asgN, e_bin]
          have e5 : (mCall tupD (mCons (mLc (mRng1 (mCons (mCall lenD (mCons (mv 3) mNil)) mNil)) (gmN 5) mYes xT [5] finF) mNil)) [some (.str (S l)), some (.int n), some (.lst (.str (S w) :: ps.map fun p => .str (S p))), some (.str (S f)), none, none] B = .ok (.tup (List.zipWith (fun w c => lpOf w c n) ps f)) B := by
            rw [e_call, e_cons, el]
            rfl
          have e6 : kB1 addD (mCall tupD (mCons (mLc (mRng1 (mCons (mCall lenD (mCons (mv 3) mNil)) mNil)) (gmN 5) mYes xT [5] finF) mNil)) [some (.str (S l)), some (.int n), some (.lst (.str (S w) :: ps.map fun p => .str (S p))), some (.str (S f)), none, none] (.ok (.tup [.str (S w)]) B) = .ok (.tup (.str (S w) :: List.zipWith (fun w c => lpOf w c n) ps f)) B := by
            rw [kB1_0, e5, kB2_0]
            show (if [D.str (S w)].length + (List.zipWith (fun w c => lpOf w c n) ps f).length ≤ 16777216 then R.ok (D.tup ([D.str (S w)] ++ List.zipWith (fun w c => lpOf w c n) ps f)) B else .bad) = _
            rw [if_pos (by rw [hzl]; show 1 + _ ≤ _; omega)]
            rfl
          have e7 : (mTup (mCons (mBin ixD (mv 2) (mc (.int (0)))) mNil)) [some (.str (S l)), some (.int n), some (.lst (.str (S w) :: ps.map fun p => .str (S p))), some (.str (S f)), none, none] B = .ok (.tup [.str (S w)]) B := by simp
          rw [e7]
          exact congrArg (kAsg 4 _) e6
        have hin : inD .non (.tup (.str (S w) :: List.zipWith (fun w c => lpOf w c n) ps f)) B = .ok (.bl (!rowOk ps f n)) B := by
          rw [in_flat rfl (by rw [List.all_cons, zipl_flat]; rfl), any_non, List.any_cons, zipl_non, row_ok_zip hl]
          rfl
        have c5 : xl5 [some (.str (S l)), some (.int n), some (.lst (.str (S w) :: ps.map fun p => .str (S p))), some (.str (S f)), some (.tup (.str (S w) :: List.zipWith (fun w c => lpOf w c n) ps f)), none] B = .rt (if ps.length = f.length ∧ rowOk ps f n = true then .tup (.str (S w) :: List.zipWith pOf ps f) else .non) B := by
          cases q : rowOk ps f n with
          | true =>
            rw [q] at hin
            have hz := zipl_same (n := n) (ps := ps) (f := f) (by rw [← row_ok_zip hl]; exact q)
            rw [hz] at hin
            simp [xl5, hin, hl, hz]
          | false =>
            rw [q] at hin
            simp [xl5, hin]
        rw [e0, e_seq, c1, RS.nxt_nx, e_seq, c2 _ rfl, RS.nxt_nx, e_seq, c3, RS.nxt_nx, e_seq, c4, RS.nxt_nx, c5, finS_rt]
      · have hl' : ((ps.length : Int) + 1 == (f.length : Int) + 1) = false := by
          rw [beq_eq_false_iff_ne]
          omega
        have c3 : xl3 [some (.str (S l)), some (.int n), some (.lst (.str (S w) :: ps.map fun p => .str (S p))), some (.str (S f)), none, none] B = .rt .non B := by
          simp [xl3, lz, hl', Tg.isNon]
        rw [e0, e_seq, c1, RS.nxt_nx, e_seq, c2 _ rfl, RS.nxt_nx, e_seq, c3, if_neg (fun q => hl q.1)]
        rfl
end K19

set_option Elab.async false
set_option linter.all false
set_option maxRecDepth 100000
set_option maxHeartbeats 4000000
/-! K19Y: any text read. -/
namespace K19
open PySem Tg L2
open SX (S)
def lines (l : List Nat) : List (List Nat) := TL.spl [10] 0 [] l
def rowsD (l : List Nat) : List D := (lines l).map fun x => lineD x (lines l).length
def badL (R : List D) (k : Nat) : Bool := Tg.isNon (R.getD k .non) || decide (59 < k)
def bads (l : List Nat) : List Nat := (List.range (rowsD l).length).filter fun k => badL (rowsD l) k
def rd1 : MS := (mAsg (mMt "str" splitD (mv 0) (mCons (mc (.str "\n")) mNil)) (gmN 1))
def rd2 : MS := (mAsg (mLstN mNil) (gmN 2))
def rd3 : MS := (mFor (mRng1 (mCons (mCall lenD (mCons (mv 1) mNil)) mNil)) (gmN 3) (mSeq (mAsg (mCall m_row_of (mCons (mBin ixD (mv 1) (mv 3)) (mCons (mCall lenD (mCons (mv 1) mNil)) mNil))) (gmN 4))
  (mSeq (mIfS (mOr (mTb (mBin isD (mv 4) (mc .non))) (mTb (mBin geD (mv 3) (mc g_MOST_ROWS)))) (mRaise "BadText" "line" (mv 3)) mNx)
  (mDrop (mMt "list" appD (mv 2) (mCons (mv 4) mNil))))))
def rd4 : MS := (mRet (mCall tupD (mCons (mv 2) mNil)))

def rb1 : MS := (mAsg (mCall m_row_of (mCons (mBin ixD (mv 1) (mv 3)) (mCons (mCall lenD (mCons (mv 1) mNil)) mNil))) (gmN 4))
def rb2 : MS := (mIfS (mOr (mTb (mBin isD (mv 4) (mc .non))) (mTb (mBin geD (mv 3) (mc g_MOST_ROWS)))) (mRaise "BadText" "line" (mv 3)) mNx)
def rb3 : MS := (mDrop (mMt "list" appD (mv 2) (mCons (mv 4) mNil)))

def rB : MS := mSeq rb1 (mSeq rb2 rb3)
def xBad (k : Nat) : XV := ⟨"BadText", some [("line", .int (k : Int))]⟩
section
variable {t : D} {Ls : List (List Nat)} {Rs : List D} {A : AH}
theorem read_loop (hL : ∀ l ∈ Ls, Tx l) (hn : Ls.length ≤ 1000001) (hR : Rs = Ls.map fun x => lineD x Ls.length) : ∀ (m k : Nat) (o3 o4 : Option D), k + m = Ls.length →
    (((List.range' k m).filter fun k => badL Rs k) = [] ∧ ∃ o3' o4', forL (gmN 3) rB ((List.range' k m).map fun i : Nat => D.int (i : Int)) [some t, some (.lst (Ls.map fun x => .str (S x))), some (.ref A.length), o3, o4] (A ++ [.lst (Rs.take k)]) =
      .nx [some t, some (.lst (Ls.map fun x => .str (S x))), some (.ref A.length), o3', o4'] (A ++ [.lst (Rs.take (k + m))])) ∨
    ∃ b r s', ((List.range' k m).filter fun k => badL Rs k) = b :: r ∧ forL (gmN 3) rB ((List.range' k m).map fun i : Nat => D.int (i : Int)) [some t, some (.lst (Ls.map fun x => .str (S x))), some (.ref A.length), o3, o4] (A ++ [.lst (Rs.take k)]) = .exc (xBad b) s' (A ++ [.lst (Rs.take b)])
  | 0, k, o3, o4, _ => .inl ⟨rfl, o3, o4, rfl⟩
  | m + 1, k, o3, o4, hk => by
    have hkl : k < Ls.length := by omega
    have g1 : Ls[k]? = some Ls[k] := List.getElem?_eq_getElem hkl
    have gR : Rs[k]? = some (lineD Ls[k] Ls.length) := by rw [hR, List.getElem?_map, g1]; rfl
    have gD : Rs.getD k .non = lineD Ls[k] Ls.length := by rw [List.getD_eq_getElem?_getD, gR]; rfl
    have x1 : ∀ B, ixD (.lst (Ls.map fun x => D.str (S x))) (.int (k : Int)) B = .ok (.str (S Ls[k])) B := fun B => ix_lst (atI_ok (by rw [List.getElem?_map, g1]; rfl))
    have lz : ∀ B, lenD [.lst (Ls.map fun x => D.str (S x))] B = .ok (.int Ls.length) B := fun B => by
      show R.ok (D.int (Ls.map fun x => D.str (S x)).length) B = _
      rw [List.length_map]
    have hrow := fun B => row_of_gen (n := Ls.length) (A := B) (hL _ (List.getElem_mem hkl))
    generalize hd : lineD Ls[k] Ls.length = d at gR gD hrow
    have c1 : ∀ B, rb1 [some t, some (.lst (Ls.map fun x => .str (S x))), some (.ref A.length), some (.int (k : Int)), o4] B = .nx [some t, some (.lst (Ls.map fun x => .str (S x))), some (.ref A.length), some (.int (k : Int)), some d] B := fun B => by
      simp [rb1, x1, lz, hrow]
    rw [List.range'_succ, List.map_cons]
    have ebad : badL Rs k = (Tg.isNon d || decide (59 < k)) := by
      unfold badL
      rw [gD]
    have hge : (((k : Int) ≥ 60) ↔ 59 < k) := by omega
    have eI : ∀ x : D, isD x .non (A ++ [AO.lst (Rs.take k)]) = .ok (.bl (Tg.isNon x)) (A ++ [AO.lst (Rs.take k)]) := fun x => rfl
    cases hb : badL Rs k with
    | true =>
      refine .inr ⟨k, (List.range' (k + 1) m).filter fun k => badL Rs k, [some t, some (.lst (Ls.map fun x => .str (S x))), some (.ref A.length), some (.int (k : Int)), some d], by rw [List.filter_cons_of_pos hb], ?_⟩
      have c2 : rb2 [some t, some (.lst (Ls.map fun x => .str (S x))), some (.ref A.length), some (.int (k : Int)), some d] (A ++ [.lst (Rs.take k)]) = .exc (xBad k) [some t, some (.lst (Ls.map fun x => .str (S x))), some (.ref A.length), some (.int (k : Int)), some d] (A ++ [.lst (Rs.take k)]) := by
        rw [ebad] at hb
        cases hq : Tg.isNon d with
        | true =>
          simp [rb2, eI, hq]
          rfl
        | false =>
          rw [hq, Bool.false_or] at hb
          have h59 := of_decide_eq_true hb
          have h60 : (60 : Int) ≤ (k : Int) := by omega
          simp [rb2, eI, hq, g_MOST_ROWS, h60]
          rfl
      unfold forL
      show (match rB [some t, some (.lst (Ls.map fun x => .str (S x))), some (.ref A.length), some (.int (k : Int)), o4] (A ++ [.lst (Rs.take k)]) with
        | .nx s2 A2 => _
        | .ct s2 A2 => _
        | .bk s2 A2 => _
        | r => r) = _
      rw [show rB = mSeq rb1 (mSeq rb2 rb3) from rfl, e_seq, c1, RS.nxt_nx, e_seq, c2, RS.nxt_exc]
    | false =>
      have c2 : rb2 [some t, some (.lst (Ls.map fun x => .str (S x))), some (.ref A.length), some (.int (k : Int)), some d] (A ++ [.lst (Rs.take k)]) = .nx [some t, some (.lst (Ls.map fun x => .str (S x))), some (.ref A.length), some (.int (k : Int)), some d] (A ++ [.lst (Rs.take k)]) := by
        rw [ebad, Bool.or_eq_false_iff] at hb
        have h59 := of_decide_eq_false hb.2
        have h60 : ¬ (60 : Int) ≤ (k : Int) := by omega
        simp [rb2, eI, hb.1, g_MOST_ROWS, h60]
      have eT : Rs.take k ++ [d] = Rs.take (k + 1) := by
        rw [List.take_add_one, gR]
        rfl
      have ga : (A ++ [AO.lst (Rs.take k)])[A.length]? = some (.lst (Rs.take k)) := List.getElem?_concat_length
      have happ : appD (.ref A.length) [d] (A ++ [AO.lst (Rs.take k)]) = .ok .non (A ++ [.lst (Rs.take (k + 1))]) := by
        show (match (A ++ [AO.lst (Rs.take k)])[A.length]? with
          | some (.lst ds) => if ds.length < 16777216 then R.ok D.non ((A ++ [AO.lst (Rs.take k)]).set A.length (.lst (ds ++ [d]))) else .bad
          | _ => .bad) = _
        rw [ga]
        dsimp only
        rw [if_pos (by rw [List.length_take]; omega), List.set_append_right _ _ (Nat.le_refl _), Nat.sub_self, eT]
        rfl
      have tyr : tyMD (A ++ [AO.lst (Rs.take k)]) "list" (.ref A.length) = true := by
        show (seqL (A ++ [AO.lst (Rs.take k)]) (.ref A.length)).isSome = true
        show (match (A ++ [AO.lst (Rs.take k)])[A.length]? with
          | some (.lst ds) => some ds
          | _ => none).isSome = true
        rw [ga]
        rfl
      have c3 : rb3 [some t, some (.lst (Ls.map fun x => .str (S x))), some (.ref A.length), some (.int (k : Int)), some d] (A ++ [.lst (Rs.take k)]) = .nx [some t, some (.lst (Ls.map fun x => .str (S x))), some (.ref A.length), some (.int (k : Int)), some d] (A ++ [.lst (Rs.take (k + 1))]) := by
        simp [rb3, tyr, happ]
      have step : forL (gmN 3) rB (D.int (k : Int) :: (List.range' (k + 1) m).map fun i : Nat => D.int (i : Int)) [some t, some (.lst (Ls.map fun x => .str (S x))), some (.ref A.length), o3, o4] (A ++ [.lst (Rs.take k)]) =
          forL (gmN 3) rB ((List.range' (k + 1) m).map fun i : Nat => D.int (i : Int)) [some t, some (.lst (Ls.map fun x => .str (S x))), some (.ref A.length), some (.int (k : Int)), some d] (A ++ [.lst (Rs.take (k + 1))]) := by
        rw [show ∀ ds s B, forL (gmN 3) rB (D.int (k : Int) :: ds) s B = (match rB (s.set 3 (some (.int (k : Int)))) B with
          | .nx s2 A2 => forL (gmN 3) rB ds s2 A2
          | .ct s2 A2 => forL (gmN 3) rB ds s2 A2
          | .bk s2 A2 => .nx s2 A2
          | r => r) from fun _ _ _ => rfl]
        show (match rB [some t, some (.lst (Ls.map fun x => .str (S x))), some (.ref A.length), some (.int (k : Int)), o4] (A ++ [.lst (Rs.take k)]) with
          | .nx s2 A2 => forL (gmN 3) rB _ s2 A2
          | .ct s2 A2 => forL (gmN 3) rB _ s2 A2
          | .bk s2 A2 => .nx s2 A2
          | r => r) = _
        rw [show rB = mSeq rb1 (mSeq rb2 rb3) from rfl, e_seq, c1, RS.nxt_nx, e_seq, c2, RS.nxt_nx, c3]
      rw [step]
      rw [List.filter_cons_of_neg (by rw [hb]; decide)]
      rcases read_loop hL hn hR m (k + 1) (some (.int (k : Int))) (some d) (by omega) with ⟨h1, a, b, h2⟩ | ⟨b, r, s', h1, h2⟩
      · exact .inl ⟨h1, a, b, by rw [h2, show k + 1 + m = k + (m + 1) by omega]⟩
      · exact .inr ⟨b, r, s', h1, h2⟩
end
theorem read_gen {l : List Nat} (h : Tx l) {A : AH} : m_read [.str (S l)] A = match bads l with
    | [] => .ok (.tup (rowsD l)) (A ++ [.lst (rowsD l)])
    | b :: _ => .exc (xBad b) (A ++ [.lst ((rowsD l).take b)]) := by
  have e0 : m_read [.str (S l)] A = finS (mSeq rd1 (mSeq rd2 (mSeq (mFor (mRng1 (mCons (mCall lenD (mCons (mv 1) mNil)) mNil)) (gmN 3) rB) rd4)) [some (.str (S l)), none, none, none, none] A) := rfl
  have e1 := split_gen (c := 10) h (by decide) (A := A)
  have hn : (lines l).length ≤ 1000001 := Nat.le_trans (spl_all (c := 10) (l := l) (acc := [])).2.2 (by have := h.1; omega)
  have hT : ∀ x ∈ lines l, Tx x := spl_Tx (c := 10) h
  have c1 : rd1 [some (.str (S l)), none, none, none, none] A = .nx [some (.str (S l)), some (.lst ((lines l).map fun x => .str (S x))), none, none, none] A := by
    simp [rd1, e_nl, e1, tyMD, lines]
  have c2 : rd2 [some (.str (S l)), some (.lst ((lines l).map fun x => .str (S x))), none, none, none] A = .nx [some (.str (S l)), some (.lst ((lines l).map fun x => .str (S x))), some (.ref A.length), none, none] (A ++ [.lst []]) := by
    simp [rd2]
  have lz : lenD [.lst ((lines l).map fun x => D.str (S x))] (A ++ [AO.lst []]) = .ok (.int (lines l).length) (A ++ [AO.lst []]) := by
    show R.ok (D.int ((lines l).map fun x => D.str (S x)).length) _ = _
    rw [List.length_map]
  have er : (mCons (mCall lenD (mCons (mv 1) mNil)) mNil) [some (.str (S l)), some (.lst ((lines l).map fun x => .str (S x))), some (.ref A.length), none, none] (A ++ [.lst []]) = .ok [.int ((lines l).length : Int)] (A ++ [.lst []]) := by simp [lz]
  have hlen : (rowsD l).length = (lines l).length := by unfold rowsD; rw [List.length_map]
  have main := read_loop (t := .str (S l)) (A := A) hT hn (Rs := rowsD l) rfl (lines l).length 0 none none (Nat.zero_add _)
  rw [e0, e_seq, c1, RS.nxt_nx, e_seq, c2, RS.nxt_nx, e_seq, mFor_data (rng1 er (by omega)), List.range_eq_range']
  unfold bads
  rw [List.range_eq_range', hlen]
  rcases main with ⟨h1, a, b, h2⟩ | ⟨b, r, s', h1, h2⟩
  · rw [h1]
    have h2' : forL (gmN 3) rB ((List.range' 0 (lines l).length).map fun i : Nat => D.int (i : Int)) [some (.str (S l)), some (.lst ((lines l).map fun x => .str (S x))), some (.ref A.length), none, none] (A ++ [.lst []]) = _ := h2
    rw [h2', RS.nxt_nx, Nat.zero_add, ← hlen, List.take_length]
    have ga : (A ++ [AO.lst (rowsD l)])[A.length]? = some (.lst (rowsD l)) := List.getElem?_concat_length
    have et : tupD [.ref A.length] (A ++ [AO.lst (rowsD l)]) = .ok (.tup (rowsD l)) (A ++ [AO.lst (rowsD l)]) := by
      show (match seqL (A ++ [AO.lst (rowsD l)]) (.ref A.length) with
        | some ds => R.ok (D.tup ds) (A ++ [AO.lst (rowsD l)])
        | none => .bad) = _
      have : seqL (A ++ [AO.lst (rowsD l)]) (.ref A.length) = some (rowsD l) := by
        show (match (A ++ [AO.lst (rowsD l)])[A.length]? with
          | some (.lst ds) => some ds
          | _ => none) = _
        rw [ga]
      rw [this]
    simp [rd4, et]
  · rw [h1]
    have h2' : forL (gmN 3) rB ((List.range' 0 (lines l).length).map fun i : Nat => D.int (i : Int)) [some (.str (S l)), some (.lst ((lines l).map fun x => .str (S x))), some (.ref A.length), none, none] (A ++ [.lst []]) = _ := h2
    rw [h2', RS.nxt_exc]
    rfl
end K19

set_option Elab.async false
set_option linter.all false
set_option maxRecDepth 100000
set_option maxHeartbeats 4000000
/-! K19S: a text told otherwise. -/
namespace K19
open PySem Tg L2
open SX (S)
abbrev stD (w : List Nat) : D := .str (S w)
/-- a list of texts -/
def lsD (ls : List (List Nat)) : D := .lst (ls.map stD)
def Wt (ls : List (List Nat)) : Nat := (ls.map List.length).sum + ls.length
def Ch (w : List Nat) : Prop := ∀ c ∈ w, c < 1114112
def Chs (ls : List (List Nat)) : Prop := ∀ w ∈ ls, Ch w
def Bt (L : Nat) (l : List Nat) : Prop := l.length ≤ L ∧ Ch l
theorem Bt.tx {L : Nat} {l : List Nat} (h : Bt L l) (hL : L ≤ 1000000) : Tx l := ⟨Nat.le_trans h.1 hL, h.2⟩
theorem wt_app (a b : List (List Nat)) : Wt (a ++ b) = Wt a + Wt b := by
  simp only [Wt, List.map_append, List.sum_append, List.length_append]
  omega
theorem wt_cons (w : List Nat) (a : List (List Nat)) : Wt (w :: a) = w.length + 1 + Wt a := by
  simp only [Wt, List.map_cons, List.sum_cons, List.length_cons]
  omega
theorem wt_split (k : Nat) (a : List (List Nat)) : Wt (a.take k) + Wt (a.drop k) = Wt a := by
  rw [← wt_app, List.take_append_drop]
theorem wt_drop {k : Nat} {a : List (List Nat)} {w : List Nat} (h : a[k]? = some w) : Wt (a.take k) + (w.length + 1) + Wt (a.drop (k + 1)) = Wt a := by
  have h1 := wt_split k a
  obtain ⟨hk, e⟩ := List.getElem?_eq_some_iff.mp h
  rw [List.drop_eq_getElem_cons hk, wt_cons, e] at h1
  omega
theorem join_le {c : Nat} : ∀ {ls : List (List Nat)}, (TL.joinL [c] ls).length ≤ Wt ls
  | [] => Nat.zero_le _
  | [p] => by
    show p.length ≤ _
    rw [wt_cons]
    omega
  | p :: q :: r => by
    have := join_le (c := c) (ls := q :: r)
    rw [wt_cons]
    show (p ++ ([c] ++ TL.joinL [c] (q :: r))).length ≤ _
    simp only [List.length_append, List.length_cons, List.length_nil]
    omega
theorem le_join {c : Nat} : ∀ {ls : List (List Nat)}, Wt ls ≤ (TL.joinL [c] ls).length + 1
  | [] => Nat.zero_le _
  | [p] => by
    show _ ≤ p.length + 1
    rw [wt_cons]
    exact Nat.le_refl _
  | p :: q :: r => by
    have := le_join (c := c) (ls := q :: r)
    rw [wt_cons]
    show _ ≤ (p ++ ([c] ++ TL.joinL [c] (q :: r))).length + 1
    simp only [List.length_append, List.length_cons, List.length_nil]
    omega
theorem join_ch {c : Nat} {ls : List (List Nat)} (hc : c < 1114112) (h : Chs ls) : Ch (TL.joinL [c] ls) := fun x hx => by
  rcases joinL_mem hx with q | ⟨l, hl, q⟩
  · rw [List.mem_singleton.mp q]
    exact hc
  · exact h l hl x q
theorem join_W {c : Nat} {ls : List (List Nat)} {A : AH} (h : Wt ls ≤ 16777216) : joinD (.str (S [c])) [lsD ls] A = .ok (.str (S (TL.joinL [c] ls))) A := by
  have e : (itemsD A (.lst (ls.map stD))).bind strsD = some (ls.map S) := strs_S
  show (match (itemsD A (.lst (ls.map stD))).bind strsD with
    | some ys => if (ys.map (fun y : Str => y.length)).sum + ys.length * (S [c]).length ≤ 16777216 then R.ok (D.str (Txt.join (S [c]) ys)) A else .bad
    | none => .bad) = _
  rw [e]
  dsimp only
  unfold Wt at h
  rw [SX.lens, List.length_map, SX.S_len, if_pos (by simp only [List.length_cons, List.length_nil]; simpa using h), SX.join_S]
theorem spl_wt {c : Nat} {l : List Nat} : Wt (TL.spl [c] 0 [] l) ≤ l.length + 1 := by
  have e : TL.joinL [c] (TL.spl [c] 0 [] l) = l := (spl_all (c := c) (l := l) (acc := [])).2.1
  have := le_join (c := c) (ls := TL.spl [c] 0 [] l)
  rw [e] at this
  exact this
theorem spl_ch {c : Nat} {l : List Nat} (h : Ch l) : Chs (TL.spl [c] 0 [] l) := fun w hw x hx => by
  have e : TL.joinL [c] (TL.spl [c] 0 [] l) = l := (spl_all (c := c) (l := l) (acc := [])).2.1
  have := mem_joinL (s := [c]) hw hx
  rw [e] at this
  exact h x this
theorem wt_mem {w : List Nat} : ∀ {ls : List (List Nat)}, w ∈ ls → w.length + 1 ≤ Wt ls
  | [], h => nomatch h
  | p :: r, h => by
    rw [wt_cons]
    rcases List.mem_cons.mp h with rfl | h
    · omega
    · have := wt_mem h
      omega
theorem wt_len (ls : List (List Nat)) : ls.length ≤ Wt ls := by
  unfold Wt
  omega
theorem ch_take {k : Nat} {ls : List (List Nat)} (h : Chs ls) : Chs (ls.take k) := fun w hw => h w (List.mem_of_mem_take hw)
theorem ch_drop {k : Nat} {ls : List (List Nat)} (h : Chs ls) : Chs (ls.drop k) := fun w hw => h w (List.mem_of_mem_drop hw)
theorem ch_app {a b : List (List Nat)} (h : Chs a) (h2 : Chs b) : Chs (a ++ b) := fun w hw => (List.mem_append.mp hw).elim (h w) (h2 w)
/-! ### slices -/
theorem cut_toS {l : List Nat} {k : Nat} : cutS (S l) none (some (k : Int)) = S (l.take k) := by
  show (⟨((l.drop 0).take (HT.sIx (S l).length (S l).length (some (k : Int)) - 0)).toArray⟩ : Str) = ⟨(l.take k).toArray⟩
  rw [HT.sIx_nat, SX.S_len, Nat.sub_zero, List.drop_zero]
  by_cases h : k ≤ l.length
  · rw [Nat.min_eq_left h]
  · rw [Nat.min_eq_right (by omega), List.take_of_length_le (Nat.le_refl _), List.take_of_length_le (by omega)]
theorem cut_frS {l : List Nat} {k : Nat} : cutS (S l) (some (k : Int)) none = S (l.drop k) := by
  show (⟨((l.drop (HT.sIx (S l).length 0 (some (k : Int)))).take ((S l).length - HT.sIx (S l).length 0 (some (k : Int)))).toArray⟩ : Str) = ⟨(l.drop k).toArray⟩
  rw [HT.sIx_nat, SX.S_len]
  by_cases h : k ≤ l.length
  · rw [Nat.min_eq_left h, List.take_of_length_le (by rw [List.length_drop]; exact Nat.le_refl _)]
  · rw [Nat.min_eq_right (by omega), List.drop_of_length_le (Nat.le_refl _), List.drop_of_length_le (by omega), List.take_nil]
theorem cut_frS1 {l : List Nat} {k : Nat} : cutS (S l) (some ((k : Int) + 1)) none = S (l.drop (k + 1)) := cut_frS (k := k + 1)
theorem cut_toD {ds : List D} {k : Nat} : cutD ds none (some (k : Int)) = ds.take k := by
  show (ds.drop 0).take (HT.sIx ds.length ds.length (some (k : Int)) - 0) = _
  rw [HT.sIx_nat, Nat.sub_zero, List.drop_zero]
  by_cases h : k ≤ ds.length
  · rw [Nat.min_eq_left h]
  · rw [Nat.min_eq_right (by omega), List.take_of_length_le (Nat.le_refl _), List.take_of_length_le (by omega)]
theorem cut_frD {ds : List D} {k : Nat} : cutD ds (some (k : Int)) none = ds.drop k := by
  show (ds.drop (HT.sIx ds.length 0 (some (k : Int)))).take (ds.length - HT.sIx ds.length 0 (some (k : Int))) = _
  rw [HT.sIx_nat]
  by_cases h : k ≤ ds.length
  · rw [Nat.min_eq_left h, List.take_of_length_le (by rw [List.length_drop]; exact Nat.le_refl _)]
  · rw [Nat.min_eq_right (by omega), List.drop_of_length_le (Nat.le_refl _), List.drop_of_length_le (by omega), List.take_nil]
section
variable {ls ms : List (List Nat)} {A : AH} {k : Nat}
theorem sl_to : slD (lsD ls) none (some (k : Int)) A = .ok (lsD (ls.take k)) A := by
  show R.ok (D.lst (cutD _ _ _)) A = R.ok (D.lst ((ls.take k).map stD)) A
  rw [cut_toD, List.map_take]
theorem sl_to1 : slD (lsD ls) none (some ((k : Int) + 1)) A = .ok (lsD (ls.take (k + 1))) A := sl_to (k := k + 1)
theorem sl_fr : slD (lsD ls) (some (k : Int)) none A = .ok (lsD (ls.drop k)) A := by
  show R.ok (D.lst (cutD _ _ _)) A = R.ok (D.lst ((ls.drop k).map stD)) A
  rw [cut_frD, List.map_drop]
theorem sl_fr1 : slD (lsD ls) (some ((k : Int) + 1)) none A = .ok (lsD (ls.drop (k + 1))) A := sl_fr (k := k + 1)
theorem add_l (h : ls.length + ms.length ≤ 16777216) : addD (lsD ls) (lsD ms) A = .ok (lsD (ls ++ ms)) A := by
  show (if (ls.map stD).length + (ms.map stD).length ≤ 16777216 then R.ok (D.lst (ls.map stD ++ ms.map stD)) A else .bad) = R.ok (D.lst ((ls ++ ms).map stD)) A
  rw [List.length_map, List.length_map, if_pos h, List.map_append]
theorem len_l : lenD [lsD ls] A = .ok (.int (ls.length : Int)) A := by
  show R.ok (D.int (ls.map stD).length) A = _
  rw [List.length_map]
theorem ix_l {w : List Nat} (h : ls[k]? = some w) : ixD (lsD ls) (.int (k : Int)) A = .ok (.str (S w)) A := ix_lst (atI_ok (by rw [List.getElem?_map, h]; rfl))
theorem one_l {w : List Nat} : D.lst [.str (S w)] = lsD [w] := rfl
theorem nil_l : D.lst [] = lsD [] := rfl
theorem ty_l : tyMD A "list" (lsD ls) = true := rfl
theorem it_l : itOf (lsD ls) A = .ok (.data (ls.map stD)) A := rfl
theorem twice_l {w : List Nat} : mulD (lsD [w]) (.int 2) A = .ok (lsD [w, w]) A := rfl
end
def sgs : List Nat := [48, 49, 50, 51, 52, 53, 54, 55, 56, 57, 32, 10, 45, 43, 95, 46, 58, 44, 59, 33, 63, 35, 38, 40, 41, 42, 47, 60, 61, 62, 64, 91, 93, 94, 123, 124, 125, 126, 36, 97, 98, 99, 100, 101, 102, 103, 104, 105, 106, 107, 108, 109, 110, 111, 112, 113, 114, 115, 116, 117, 118, 119, 120, 121, 122, 65, 66, 67, 68, 69, 70, 71, 72, 73, 74, 75, 76, 77, 78, 79, 80, 81, 82, 83, 84, 85, 86, 87, 88, 89, 90]
theorem e_sgs : Str.ofString "0123456789 \n-+_.:,;!?#&()*/<=>\x40[]^{|}~$abcdefghijklmnopqrstuvwxyzABCDEFGHIJKLMNOPQRSTUVWXYZ" = S sgs := by decide +kernel
theorem sgs_ch : ∀ c ∈ sgs, c < 1114112 := by decide +kernel
def odd : List (List Nat) := [[], [48], [48, 48], [48, 55], [55], [56], [45, 48], [45, 49], [54, 51], [54, 52], [45, 54, 51], [45, 54, 52], [57, 57, 57, 57], [49, 48, 48, 48, 48], [45, 49, 48, 48, 48, 48], [45, 49, 48, 48, 48, 49], [45], [103, 104, 108, 115], [104, 103], [103], [103, 103], [112, 117, 116], [103, 101, 116], [101, 110, 100], [103, 97, 116, 101], [49, 48, 48, 48, 48, 48]]
theorem e_odd : (["", "0", "00", "07", "7", "8", "-0", "-1", "63", "64", "-63", "-64", "9999", "10000", "-10000", "-10001", "-", "ghls", "hg", "g", "gg", "put", "get", "end", "gate", "100000"] : List Str) = odd.map S := by decide +kernel
theorem odd_l : D.lst [.str "", .str "0", .str "00", .str "07", .str "7", .str "8", .str "-0", .str "-1", .str "63", .str "64", .str "-63", .str "-64", .str "9999", .str "10000", .str "-10000", .str "-10001", .str "-", .str "ghls", .str "hg", .str "g", .str "gg", .str "put", .str "get", .str "end", .str "gate", .str "100000"] = lsD odd := by
  have := congrArg (List.map D.str) e_odd
  rw [List.map_map] at this
  exact congrArg D.lst this
theorem odd_ch : ∀ w ∈ odd, w.length ≤ 6 ∧ ∀ c ∈ w, c < 1114112 := by decide +kernel
def sp1 : MS := (mAsg (mCall m__law_taken (mCons (mv 0) (mCons (mc (.int (9))) mNil))) (gmN 2))
def sp2 : MS := (mAsg (mCall m__law_taken (mCons (mv 0) (mCons (mBin addD (mCall lenD (mCons (mv 1) mNil)) (mc (.int (1)))) mNil))) (gmN 3))
def sp3 : MS := (mAsg (mc (.str "0123456789 \n-+_.:,;!?#&()*/<=>\x40[]^{|}~$abcdefghijklmnopqrstuvwxyzABCDEFGHIJKLMNOPQRSTUVWXYZ")) (gmN 4))
def sp4 : MS := (mAsg (mBin ixD (mv 4) (mCall m__law_taken (mCons (mv 0) (mCons (mCall lenD (mCons (mv 4) mNil)) mNil)))) (gmN 5))
def sp5 : MS := (mIfS (mTb (mBin ltD (mv 2) (mc (.int (3))))) (mRet (mBin addD (mBin addD (mSl (mv 1) mNoPart (mPart (mv 3))) (mBin ixD (mLst (mCons (mv 5) (mCons (mc (.str "")) (mCons (mv 5) mNil)))) (mv 2))) (mSl (mv 1) (mPart (mBin addD (mv 3) (mCall intD (mCons (mBin gtD (mv 2) (mc (.int (0)))) mNil)))) mNoPart))) mNx)
def sp6 : MS := (mAsg (mMt "str" splitD (mv 1) (mCons (mc (.str "\n")) mNil)) (gmN 6))
def sp7 : MS := (mAsg (mCall m__law_taken (mCons (mv 0) (mCons (mCall lenD (mCons (mv 6) mNil)) mNil))) (gmN 7))
def sp8 : MS := (mIfS (mTb (mBin ltD (mv 2) (mc (.int (6))))) (mRet (mMt "str" joinD (mc (.str "\n")) (mCons (mBin ixD (mLst (mCons (mBin addD (mSl (mv 6) mNoPart (mPart (mv 7))) (mSl (mv 6) (mPart (mBin addD (mv 7) (mc (.int (1))))) mNoPart)) (mCons (mBin addD (mSl (mv 6) mNoPart (mPart (mBin addD (mv 7) (mc (.int (1)))))) (mSl (mv 6) (mPart (mv 7)) mNoPart)) (mCons (mBin addD (mSl (mv 6) (mPart (mv 7)) mNoPart) (mSl (mv 6) mNoPart (mPart (mv 7)))) mNil)))) (mBin subD (mv 2) (mc (.int (3))))) mNil))) mNx)
def sp9 : MS := (mAsg (mMt "str" splitD (mBin ixD (mv 6) (mv 7)) (mCons (mc (.str " ")) mNil)) (gmN 8))
def sp10 : MS := (mAsg (mCall m__law_taken (mCons (mv 0) (mCons (mCall lenD (mCons (mv 8) mNil)) mNil))) (gmN 9))
def sp11 : MS := (mAsg (mLst (mCons (mc (.str "")) (mCons (mc (.str "0")) (mCons (mc (.str "00")) (mCons (mc (.str "07")) (mCons (mc (.str "7")) (mCons (mc (.str "8")) (mCons (mc (.str "-0")) (mCons (mc (.str "-1")) (mCons (mc (.str "63")) (mCons (mc (.str "64")) (mCons (mc (.str "-63")) (mCons (mc (.str "-64")) (mCons (mc (.str "9999")) (mCons (mc (.str "10000")) (mCons (mc (.str "-10000")) (mCons (mc (.str "-10001")) mNil))))))))))))))))) (gmN 10))
def sp12 : MS := (mAsg (mBin addD (mv 10) (mLst (mCons (mc (.str "-")) (mCons (mc (.str "ghls")) (mCons (mc (.str "hg")) (mCons (mc (.str "g")) (mCons (mc (.str "gg")) (mCons (mc (.str "put")) (mCons (mc (.str "get")) (mCons (mc (.str "end")) (mCons (mc (.str "gate")) (mCons (mc (.str "100000")) mNil)))))))))))) (gmN 10))
def sp13 : MS := (mAsg (mBin addD (mBin addD (mSl (mv 8) mNoPart (mPart (mv 9))) (mBin ixD (mLst (mCons (mLst mNil) (mCons (mBin mulD (mLst (mCons (mBin ixD (mv 8) (mv 9)) mNil)) (mc (.int (2)))) (mCons (mLst (mCons (mBin ixD (mv 10) (mCall m__law_taken (mCons (mv 0) (mCons (mc (.int (26))) mNil)))) mNil)) mNil)))) (mBin subD (mv 2) (mc (.int (6)))))) (mSl (mv 8) (mPart (mBin addD (mv 9) (mc (.int (1))))) mNoPart)) (gmN 8))
def sp14 : MS := (mRet (mMt "str" joinD (mc (.str "\n")) (mCons (mBin addD (mBin addD (mSl (mv 6) mNoPart (mPart (mv 7))) (mLst (mCons (mMt "str" joinD (mc (.str " ")) (mCons (mv 8) mNil)) mNil))) (mSl (mv 6) (mPart (mBin addD (mv 7) (mc (.int (1))))) mNoPart)) mNil)))

theorem spoilt_gen {r L : Nat} {ns : List Int} {A0 A : AH} {l : List Nat} (h : RB r ns A0 A) (hb : Bt L l) (hL : L ≤ 100000) :
    ∃ l' A', m__law_spoilt [.ref r, .str (S l)] A = .ok (.str (S l')) A' ∧ RB r ns A0 A' ∧ Bt (2 * L + 20) l' := by
  have e0 : m__law_spoilt [.ref r, .str (S l)] A = finS (mSeq sp1 (mSeq sp2 (mSeq sp3 (mSeq sp4 (mSeq sp5 (mSeq sp6 (mSeq sp7 (mSeq sp8 (mSeq sp9 (mSeq sp10 (mSeq sp11 (mSeq sp12 (mSeq sp13 sp14)))))))))))) [some (.ref r), some (.str (S l)), none, none, none, none, none, none, none, none, none] A) := rfl
  have hT : Tx l := hb.tx (by omega)
  have hl := hb.1
  have hl2 : l.length ≤ 16777216 := by omega
  obtain ⟨v, A1, t1, h1, b1⟩ := takenN 9 h ⟨by omega, by omega⟩
  obtain ⟨at_, A2, t2, h2, b2⟩ := takenN ((l.length : Int) + 1) h1 ⟨by omega, by omega⟩
  obtain ⟨y, A3, t3, h3, b3⟩ := takenN (sgs.length : Int) h2 ⟨by decide, by decide⟩
  have hy : y < sgs.length := by omega
  obtain ⟨c, hc⟩ : ∃ c, sgs[y]? = some c := ⟨_, List.getElem?_eq_getElem hy⟩
  have hcc := sgs_ch c (List.mem_of_getElem? hc)
  have hat : at_ ≤ l.length := by omega
  have c1 : sp1 [some (.ref r), some (.str (S l)), none, none, none, none, none, none, none, none, none] A = .nx [some (.ref r), some (.str (S l)), some (.int (v : Int)), none, none, none, none, none, none, none, none] A1 := by simp [sp1, tk, t1]
  have c2 : sp2 [some (.ref r), some (.str (S l)), some (.int (v : Int)), none, none, none, none, none, none, none, none] A1 = .nx [some (.ref r), some (.str (S l)), some (.int (v : Int)), some (.int (at_ : Int)), none, none, none, none, none, none, none] A2 := by simp [sp2, tk, t2, len_S hl2]
  have c3 : sp3 [some (.ref r), some (.str (S l)), some (.int (v : Int)), some (.int (at_ : Int)), none, none, none, none, none, none, none] A2 = .nx [some (.ref r), some (.str (S l)), some (.int (v : Int)), some (.int (at_ : Int)), some (.str (S sgs)), none, none, none, none, none, none] A2 := by
    rw [← e_sgs]
    rfl
  have ls : lenD [.str (S sgs)] A2 = .ok (.int (sgs.length : Int)) A2 := len_S (by decide)
  have xs : ixD (.str (S sgs)) (.int (y : Int)) A3 = .ok (.str (S [c])) A3 := ix_ofS (by rw [SX.S_len]; decide) (atI_ok hc)
  have c4 : sp4 [some (.ref r), some (.str (S l)), some (.int (v : Int)), some (.int (at_ : Int)), some (.str (S sgs)), none, none, none, none, none, none] A2 = .nx [some (.ref r), some (.str (S l)), some (.int (v : Int)), some (.int (at_ : Int)), some (.str (S sgs)), some (.str (S [c])), none, none, none, none, none] A3 := by simp [sp4, tk, ls, t3, xs]
  rw [e0, e_seq, c1, RS.nxt_nx, e_seq, c2, RS.nxt_nx, e_seq, c3, RS.nxt_nx, e_seq, c4, RS.nxt_nx, e_seq]
  have n0 : intD [.bl false] A3 = .ok (.int 0) A3 := rfl
  have n1 : intD [.bl true] A3 = .ok (.int 1) A3 := rfl
  have hch := hb.2
  have hv : v = 0 ∨ v = 1 ∨ v = 2 ∨ 3 ≤ v := by omega
  rcases hv with rfl | rfl | rfl | hv
  · refine ⟨l.take at_ ++ [c] ++ l.drop at_, A3, ?_, h3, ?_, ?_⟩
    · have a1 : addD (.str (S (l.take at_))) (.str (S [c])) A3 = .ok (.str (S (l.take at_ ++ [c]))) A3 := add_S (by rw [List.length_take]; simp only [List.length_cons, List.length_nil]; omega)
      have a2 : addD (.str (S (l.take at_ ++ [c]))) (.str (S (l.drop at_))) A3 = .ok (.str (S (l.take at_ ++ [c] ++ l.drop at_))) A3 := add_S (by simp only [List.length_append, List.length_take, List.length_drop, List.length_cons, List.length_nil]; omega)
      have z : sp5 [some (.ref r), some (.str (S l)), some (.int (0 : Nat)), some (.int (at_ : Int)), some (.str (S sgs)), some (.str (S [c])), none, none, none, none, none] A3 = .rt (.str (S (l.take at_ ++ [c] ++ l.drop at_))) A3 := by
        try simp at a1
        try simp at a2
        simp [sp5, sl_S hl2, cut_toS, cut_frS, cut_frS1, n0, n1, e_emp, a1, a2]
      rw [z]
      rfl
    · simp only [List.length_append, List.length_take, List.length_drop, List.length_cons, List.length_nil]
      omega
    · intro x hx
      simp only [List.mem_append] at hx
      rcases hx with (hx | hx) | hx
      · exact hch x (List.mem_of_mem_take hx)
      · rw [List.mem_singleton.mp hx]; exact hcc
      · exact hch x (List.mem_of_mem_drop hx)
  · refine ⟨l.take at_ ++ [] ++ l.drop (at_ + 1), A3, ?_, h3, ?_, ?_⟩
    · have a1 : addD (.str (S (l.take at_))) (.str (S [])) A3 = .ok (.str (S (l.take at_ ++ []))) A3 := add_S (by rw [List.length_take]; simp only [List.length_cons, List.length_nil]; omega)
      have a2 : addD (.str (S (l.take at_ ++ []))) (.str (S (l.drop (at_ + 1)))) A3 = .ok (.str (S (l.take at_ ++ [] ++ l.drop (at_ + 1)))) A3 := add_S (by simp only [List.length_append, List.length_take, List.length_drop, List.length_cons, List.length_nil]; omega)
      have z : sp5 [some (.ref r), some (.str (S l)), some (.int (1 : Nat)), some (.int (at_ : Int)), some (.str (S sgs)), some (.str (S [c])), none, none, none, none, none] A3 = .rt (.str (S (l.take at_ ++ [] ++ l.drop (at_ + 1)))) A3 := by
        try simp at a1
        try simp at a2
        simp [sp5, sl_S hl2, cut_toS, cut_frS, cut_frS1, n0, n1, e_emp, a1, a2]
      rw [z]
      rfl
    · simp only [List.length_append, List.length_take, List.length_drop, List.length_cons, List.length_nil]
      omega
    · intro x hx
      simp only [List.mem_append] at hx
      rcases hx with (hx | hx) | hx
      · exact hch x (List.mem_of_mem_take hx)
      · cases hx
      · exact hch x (List.mem_of_mem_drop hx)
  · refine ⟨l.take at_ ++ [c] ++ l.drop (at_ + 1), A3, ?_, h3, ?_, ?_⟩
    · have a1 : addD (.str (S (l.take at_))) (.str (S [c])) A3 = .ok (.str (S (l.take at_ ++ [c]))) A3 := add_S (by rw [List.length_take]; simp only [List.length_cons, List.length_nil]; omega)
      have a2 : addD (.str (S (l.take at_ ++ [c]))) (.str (S (l.drop (at_ + 1)))) A3 = .ok (.str (S (l.take at_ ++ [c] ++ l.drop (at_ + 1)))) A3 := add_S (by simp only [List.length_append, List.length_take, List.length_drop, List.length_cons, List.length_nil]; omega)
      have z : sp5 [some (.ref r), some (.str (S l)), some (.int (2 : Nat)), some (.int (at_ : Int)), some (.str (S sgs)), some (.str (S [c])), none, none, none, none, none] A3 = .rt (.str (S (l.take at_ ++ [c] ++ l.drop (at_ + 1)))) A3 := by
        try simp at a1
        try simp at a2
        simp [sp5, sl_S hl2, cut_toS, cut_frS, cut_frS1, n0, n1, e_emp, a1, a2]
      rw [z]
      rfl
    · simp only [List.length_append, List.length_take, List.length_drop, List.length_cons, List.length_nil]
      omega
    · intro x hx
      simp only [List.mem_append] at hx
      rcases hx with (hx | hx) | hx
      · exact hch x (List.mem_of_mem_take hx)
      · rw [List.mem_singleton.mp hx]; exact hcc
      · exact hch x (List.mem_of_mem_drop hx)
  · have c5 : sp5 [some (.ref r), some (.str (S l)), some (.int (v : Int)), some (.int (at_ : Int)), some (.str (S sgs)), some (.str (S [c])), none, none, none, none, none] A3 = .nx [some (.ref r), some (.str (S l)), some (.int (v : Int)), some (.int (at_ : Int)), some (.str (S sgs)), some (.str (S [c])), none, none, none, none, none] A3 := by
      have q : ¬ ((v : Int) < 3) := by omega
      simp [sp5, q]
    rw [c5, RS.nxt_nx, e_seq]
    have es : splitD (.str (S l)) [.str (S [10])] A3 = .ok (lsD (lines l)) A3 := split_gen (c := 10) hT (by decide)
    have c6 : sp6 [some (.ref r), some (.str (S l)), some (.int (v : Int)), some (.int (at_ : Int)), some (.str (S sgs)), some (.str (S [c])), none, none, none, none, none] A3 = .nx [some (.ref r), some (.str (S l)), some (.int (v : Int)), some (.int (at_ : Int)), some (.str (S sgs)), some (.str (S [c])), some (lsD (lines l)), none, none, none, none] A3 := by
      simp [sp6, e_nl, es, tyMD]
    rw [c6, RS.nxt_nx, e_seq]
    have hne := (spl_all (c := 10) (l := l) (acc := [])).1
    have hw : Wt (lines l) ≤ l.length + 1 := spl_wt
    have hlc : Chs (lines l) := spl_ch hch
    have hll := wt_len (lines l)
    have hp : 0 < (lines l).length := List.length_pos_iff.mpr hne
    obtain ⟨k, A4, t4, h4, b4⟩ := takenN ((lines l).length : Int) h3 ⟨by omega, by omega⟩
    have hk : k < (lines l).length := by omega
    have c7 : sp7 [some (.ref r), some (.str (S l)), some (.int (v : Int)), some (.int (at_ : Int)), some (.str (S sgs)), some (.str (S [c])), some (lsD (lines l)), none, none, none, none] A3 = .nx [some (.ref r), some (.str (S l)), some (.int (v : Int)), some (.int (at_ : Int)), some (.str (S sgs)), some (.str (S [c])), some (lsD (lines l)), some (.int (k : Int)), none, none, none] A4 := by
      simp [sp7, tk, len_l, t4]
    rw [c7, RS.nxt_nx, e_seq]
    have w1 := wt_split k (lines l)
    have w2 := wt_split (k + 1) (lines l)
    have k1 := wt_len ((lines l).take k)
    have k2 := wt_len ((lines l).drop k)
    have k3 := wt_len ((lines l).take (k + 1))
    have k4 := wt_len ((lines l).drop (k + 1))
    have g1 : addD (lsD ((lines l).take k)) (lsD ((lines l).drop (k + 1))) A4 = _ := add_l (by omega)
    have g2 : addD (lsD ((lines l).take (k + 1))) (lsD ((lines l).drop k)) A4 = _ := add_l (by omega)
    have g3 : addD (lsD ((lines l).drop k)) (lsD ((lines l).take k)) A4 = _ := add_l (by omega)
    have hv2 : v = 3 ∨ v = 4 ∨ v = 5 ∨ 6 ≤ v := by omega
    rcases hv2 with rfl | rfl | rfl | hv2
    · have hW : Wt ((lines l).take k ++ (lines l).drop (k + 1)) ≤ 2 * L + 2 := by
        rw [wt_app]
        omega
      refine ⟨TL.joinL [10] ((lines l).take k ++ (lines l).drop (k + 1)), A4, ?_, h4, Nat.le_trans join_le (by omega), join_ch (by decide) (ch_app (ch_take hlc) (ch_drop hlc))⟩
      have j : joinD (.str (S [10])) [lsD ((lines l).take k ++ (lines l).drop (k + 1))] A4 = _ := join_W (by omega)
      have z : sp8 [some (.ref r), some (.str (S l)), some (.int (3 : Nat)), some (.int (at_ : Int)), some (.str (S sgs)), some (.str (S [c])), some (lsD (lines l)), some (.int (k : Int)), none, none, none] A4 = .rt (.str (S (TL.joinL [10] ((lines l).take k ++ (lines l).drop (k + 1))))) A4 := by
        simp [sp8, e_nl, sl_to, sl_to1, sl_fr, sl_fr1, g1, g2, g3, tyMD, j]
      rw [z]
      rfl
    · have hW : Wt ((lines l).take (k + 1) ++ (lines l).drop k) ≤ 2 * L + 2 := by
        rw [wt_app]
        omega
      refine ⟨TL.joinL [10] ((lines l).take (k + 1) ++ (lines l).drop k), A4, ?_, h4, Nat.le_trans join_le (by omega), join_ch (by decide) (ch_app (ch_take hlc) (ch_drop hlc))⟩
      have j : joinD (.str (S [10])) [lsD ((lines l).take (k + 1) ++ (lines l).drop k)] A4 = _ := join_W (by omega)
      have z : sp8 [some (.ref r), some (.str (S l)), some (.int (4 : Nat)), some (.int (at_ : Int)), some (.str (S sgs)), some (.str (S [c])), some (lsD (lines l)), some (.int (k : Int)), none, none, none] A4 = .rt (.str (S (TL.joinL [10] ((lines l).take (k + 1) ++ (lines l).drop k)))) A4 := by
        simp [sp8, e_nl, sl_to, sl_to1, sl_fr, sl_fr1, g1, g2, g3, tyMD, j]
      rw [z]
      rfl
    · have hW : Wt ((lines l).drop k ++ (lines l).take k) ≤ 2 * L + 2 := by
        rw [wt_app]
        omega
      refine ⟨TL.joinL [10] ((lines l).drop k ++ (lines l).take k), A4, ?_, h4, Nat.le_trans join_le (by omega), join_ch (by decide) (ch_app (ch_drop hlc) (ch_take hlc))⟩
      have j : joinD (.str (S [10])) [lsD ((lines l).drop k ++ (lines l).take k)] A4 = _ := join_W (by omega)
      have z : sp8 [some (.ref r), some (.str (S l)), some (.int (5 : Nat)), some (.int (at_ : Int)), some (.str (S sgs)), some (.str (S [c])), some (lsD (lines l)), some (.int (k : Int)), none, none, none] A4 = .rt (.str (S (TL.joinL [10] ((lines l).drop k ++ (lines l).take k)))) A4 := by
        simp [sp8, e_nl, sl_to, sl_to1, sl_fr, sl_fr1, g1, g2, g3, tyMD, j]
      rw [z]
      rfl
    · have c8 : sp8 [some (.ref r), some (.str (S l)), some (.int (v : Int)), some (.int (at_ : Int)), some (.str (S sgs)), some (.str (S [c])), some (lsD (lines l)), some (.int (k : Int)), none, none, none] A4 = .nx [some (.ref r), some (.str (S l)), some (.int (v : Int)), some (.int (at_ : Int)), some (.str (S sgs)), some (.str (S [c])), some (lsD (lines l)), some (.int (k : Int)), none, none, none] A4 := by
        have q : ¬ ((v : Int) < 6) := by omega
        simp [sp8, q]
      rw [c8, RS.nxt_nx, e_seq]
      obtain ⟨x, hx⟩ : ∃ x, (lines l)[k]? = some x := ⟨_, List.getElem?_eq_getElem hk⟩
      have hxm := List.mem_of_getElem? hx
      have hxl := wt_mem hxm
      have hxT : Tx x := ⟨by omega, hlc x hxm⟩
      have ew : splitD (.str (S x)) [.str (S [32])] A4 = .ok (lsD (words x)) A4 := split_gen (c := 32) hxT (by decide)
      have c9 : sp9 [some (.ref r), some (.str (S l)), some (.int (v : Int)), some (.int (at_ : Int)), some (.str (S sgs)), some (.str (S [c])), some (lsD (lines l)), some (.int (k : Int)), none, none, none] A4 = .nx [some (.ref r), some (.str (S l)), some (.int (v : Int)), some (.int (at_ : Int)), some (.str (S sgs)), some (.str (S [c])), some (lsD (lines l)), some (.int (k : Int)), some (lsD (words x)), none, none] A4 := by
        simp [sp9, e_sp, ix_l hx, ew, tyMD]
      rw [c9, RS.nxt_nx, e_seq]
      have hww : Wt (words x) ≤ x.length + 1 := spl_wt
      have hwc : Chs (words x) := spl_ch (hlc x hxm)
      have hwl := wt_len (words x)
      have hwp : 0 < (words x).length := List.length_pos_iff.mpr (spl_all (c := 32) (l := x) (acc := [])).1
      obtain ⟨j, A5, t5, h5, b5⟩ := takenN ((words x).length : Int) h4 ⟨by omega, by omega⟩
      have hj : j < (words x).length := by omega
      obtain ⟨u, hu⟩ : ∃ u, (words x)[j]? = some u := ⟨_, List.getElem?_eq_getElem hj⟩
      have hum := List.mem_of_getElem? hu
      have c10 : sp10 [some (.ref r), some (.str (S l)), some (.int (v : Int)), some (.int (at_ : Int)), some (.str (S sgs)), some (.str (S [c])), some (lsD (lines l)), some (.int (k : Int)), some (lsD (words x)), none, none] A4 = .nx [some (.ref r), some (.str (S l)), some (.int (v : Int)), some (.int (at_ : Int)), some (.str (S sgs)), some (.str (S [c])), some (lsD (lines l)), some (.int (k : Int)), some (lsD (words x)), some (.int (j : Int)), none] A5 := by
        simp [sp10, tk, len_l, t5]
      rw [c10, RS.nxt_nx, e_seq]
      have c11 : mSeq sp11 (mSeq sp12 (mSeq sp13 sp14)) [some (.ref r), some (.str (S l)), some (.int (v : Int)), some (.int (at_ : Int)), some (.str (S sgs)), some (.str (S [c])), some (lsD (lines l)), some (.int (k : Int)), some (lsD (words x)), some (.int (j : Int)), none] A5 = mSeq sp13 sp14 [some (.ref r), some (.str (S l)), some (.int (v : Int)), some (.int (at_ : Int)), some (.str (S sgs)), some (.str (S [c])), some (lsD (lines l)), some (.int (k : Int)), some (lsD (words x)), some (.int (j : Int)), some (lsD odd)] A5 := by
        rw [← odd_l]
        rfl
      rw [← e_seq, c11, e_seq]
      obtain ⟨o, A6, t6, h6, b6⟩ := takenN 26 h5 ⟨by omega, by omega⟩
      have ho : o < odd.length := by
        have : odd.length = 26 := by decide
        omega
      obtain ⟨od, hod⟩ : ∃ od, odd[o]? = some od := ⟨_, List.getElem?_eq_getElem ho⟩
      obtain ⟨od1, od2⟩ := odd_ch od (List.mem_of_getElem? hod)
      have k5 := wt_len ((words x).take j)
      have k6 := wt_len ((words x).drop (j + 1))
      have w3 := wt_drop hu
      have w4 := wt_drop hx
      have main : ∀ md : List (List Nat), md.length ≤ 2 → Wt md ≤ 2 * (u.length + 1) + 7 → Chs md → sp13 [some (.ref r), some (.str (S l)), some (.int (v : Int)), some (.int (at_ : Int)), some (.str (S sgs)), some (.str (S [c])), some (lsD (lines l)), some (.int (k : Int)), some (lsD (words x)), some (.int (j : Int)), some (lsD odd)] A5 = .nx [some (.ref r), some (.str (S l)), some (.int (v : Int)), some (.int (at_ : Int)), some (.str (S sgs)), some (.str (S [c])), some (lsD (lines l)), some (.int (k : Int)), some (lsD ((words x).take j ++ md ++ (words x).drop (j + 1))), some (.int (j : Int)), some (lsD odd)] A6 →
          ∃ l' A', finS ((sp13 [some (.ref r), some (.str (S l)), some (.int (v : Int)), some (.int (at_ : Int)), some (.str (S sgs)), some (.str (S [c])), some (lsD (lines l)), some (.int (k : Int)), some (lsD (words x)), some (.int (j : Int)), some (lsD odd)] A5).nxt sp14) = .ok (.str (S l')) A' ∧ RB r ns A0 A' ∧ Bt (2 * L + 20) l' := fun md m1 m2 m3 e => by
        have hW1 : Wt ((words x).take j ++ md ++ (words x).drop (j + 1)) ≤ 2 * (x.length + 1) + 7 := by
          rw [wt_app, wt_app]
          omega
        have hC1 : Chs ((words x).take j ++ md ++ (words x).drop (j + 1)) := ch_app (ch_app (ch_take hwc) m3) (ch_drop hwc)
        have j1 : joinD (.str (S [32])) [lsD ((words x).take j ++ md ++ (words x).drop (j + 1))] A6 = _ := join_W (by omega)
        generalize hx' : TL.joinL [32] ((words x).take j ++ md ++ (words x).drop (j + 1)) = x' at j1
        have lx : x'.length ≤ 2 * (x.length + 1) + 7 := by rw [← hx']; exact Nat.le_trans join_le hW1
        have cx : Ch x' := by rw [← hx']; exact join_ch (by decide) hC1
        have hW2 : Wt ((lines l).take k ++ [x'] ++ (lines l).drop (k + 1)) ≤ 2 * L + 20 := by
          rw [wt_app, wt_app, wt_cons]
          have : Wt [] = 0 := rfl
          omega
        have a1 : addD (lsD ((lines l).take k)) (lsD [x']) A6 = _ := add_l (by simp only [List.length_cons, List.length_nil]; omega)
        have a2 : addD (lsD ((lines l).take k ++ [x'])) (lsD ((lines l).drop (k + 1))) A6 = _ := add_l (by simp only [List.length_append, List.length_cons, List.length_nil]; omega)
        have j2 : joinD (.str (S [10])) [lsD ((lines l).take k ++ [x'] ++ (lines l).drop (k + 1))] A6 = _ := join_W (by omega)
        refine ⟨TL.joinL [10] ((lines l).take k ++ [x'] ++ (lines l).drop (k + 1)), A6, ?_, h6, Nat.le_trans join_le hW2, join_ch (by decide) (ch_app (ch_app (ch_take hlc) fun w hw => by rw [List.mem_singleton.mp hw]; exact cx) (ch_drop hlc))⟩
        have z : sp14 [some (.ref r), some (.str (S l)), some (.int (v : Int)), some (.int (at_ : Int)), some (.str (S sgs)), some (.str (S [c])), some (lsD (lines l)), some (.int (k : Int)), some (lsD ((words x).take j ++ md ++ (words x).drop (j + 1))), some (.int (j : Int)), some (lsD odd)] A6 = .rt (.str (S (TL.joinL [10] ((lines l).take k ++ [x'] ++ (lines l).drop (k + 1))))) A6 := by
          try simp at j1 a1 a2 j2
          simp [sp14, e_sp, e_nl, tyMD, j1, sl_to, one_l, a1, sl_fr1, a2, j2]
        rw [e, RS.nxt_nx, z]
        rfl
      have xo : ixD (lsD odd) (.int (o : Int)) A6 = .ok (.str (S od)) A6 := ix_l hod
      have xu : ∀ B, ixD (lsD (words x)) (.int (j : Int)) B = .ok (.str (S u)) B := fun B => ix_l hu
      have hv3 : v = 6 ∨ v = 7 ∨ v = 8 := by omega
      rcases hv3 with rfl | rfl | rfl
      · refine main [] (by decide) (show 0 ≤ _ by omega) (fun _ h => nomatch h) ?_
        have a1 : addD (lsD ((words x).take j)) (lsD []) A6 = _ := add_l (by simp only [List.length_cons, List.length_nil]; omega)
        have a2 : addD (lsD ((words x).take j ++ [])) (lsD ((words x).drop (j + 1))) A6 = _ := add_l (by simp only [List.length_append, List.length_cons, List.length_nil]; omega)
        have tw : mulD (lsD [u]) (.int 2) A5 = .ok (lsD [u, u]) A5 := twice_l
        try simp at a1
        try simp at a2
        simp [sp13, sl_to, xu, tw, one_l, nil_l, tk, t6, xo, a1, sl_fr1, a2]
      · refine main [u, u] (Nat.le_refl _) (by rw [wt_cons, wt_cons]; have : Wt [] = 0 := rfl; omega) (fun w hw => by
        have : w = u := by simpa using hw
        rw [this]
        exact hwc u hum) ?_
        have a1 : addD (lsD ((words x).take j)) (lsD [u, u]) A6 = _ := add_l (by simp only [List.length_cons, List.length_nil]; omega)
        have a2 : addD (lsD ((words x).take j ++ [u, u])) (lsD ((words x).drop (j + 1))) A6 = _ := add_l (by simp only [List.length_append, List.length_cons, List.length_nil]; omega)
        have tw : mulD (lsD [u]) (.int 2) A5 = .ok (lsD [u, u]) A5 := twice_l
        try simp at a1
        try simp at a2
        simp [sp13, sl_to, xu, tw, one_l, nil_l, tk, t6, xo, a1, sl_fr1, a2]
      · refine main [od] (Nat.le_of_ble_eq_true rfl) (by rw [wt_cons]; have : Wt [] = 0 := rfl; omega) (fun w hw => by rw [List.mem_singleton.mp hw]; exact od2) ?_
        have a1 : addD (lsD ((words x).take j)) (lsD [od]) A6 = _ := add_l (by simp only [List.length_cons, List.length_nil]; omega)
        have a2 : addD (lsD ((words x).take j ++ [od])) (lsD ((words x).drop (j + 1))) A6 = _ := add_l (by simp only [List.length_append, List.length_cons, List.length_nil]; omega)
        have tw : mulD (lsD [u]) (.int 2) A5 = .ok (lsD [u, u]) A5 := twice_l
        try simp at a1
        try simp at a2
        simp [sp13, sl_to, xu, tw, one_l, nil_l, tk, t6, xo, a1, sl_fr1, a2]
end K19

set_option Elab.async false
set_option linter.all false
set_option maxRecDepth 100000
set_option maxHeartbeats 4000000
/-! K19Z: the law. -/
namespace K19
open PySem Tg L2
open SX (S)
def t25 : List (List Nat) := [[], [10], [101, 110, 100], [101, 110, 100, 10], [103, 111, 32, 49], [103, 111, 32, 48], [115, 97, 121, 32, 56], [112, 117, 116, 32, 48, 32, 49, 48, 48, 48, 48], [112, 117, 116, 32, 48, 32, 45, 49, 48, 48, 48, 48], [112, 117, 116, 32, 48, 32, 48, 48], [101, 110, 100, 32, 48], [65, 100, 100, 32, 48, 32, 48, 32, 48], [97, 100, 100, 32, 48, 32, 48], [32, 101, 110, 100], [101, 110, 100, 32], [105, 102, 32, 48, 32, 49, 10, 101, 110, 100], [103, 97, 116, 101, 32, 48, 32, 49, 32, 49], [103, 97, 116, 101, 32, 48, 32, 49, 32, 50], [102, 101, 119, 101, 114, 32, 48, 32, 49, 32, 45], [102, 101, 119, 101, 114, 32, 48, 32, 49, 32], [102, 101, 119, 101, 114, 32, 48, 32, 49, 32, 45, 103], [103, 101, 116, 32, 48, 32, 49, 32, 45, 54, 52], [115, 101, 116, 32, 48, 32, 45, 54, 51, 32, 49], [112, 117, 116, 32, 48, 32, 45, 48], [112, 117, 116, 32, 48, 32, 45]]
theorem e_25 : (["", "\n", "end", "end\n", "go 1", "go 0", "say 8", "put 0 10000", "put 0 -10000", "put 0 00", "end 0", "Add 0 0 0", "add 0 0", " end", "end ", "if 0 1\nend", "gate 0 1 1", "gate 0 1 2", "fewer 0 1 -", "fewer 0 1 ", "fewer 0 1 -g", "get 0 1 -64", "set 0 -63 1", "put 0 -0", "put 0 -"] : List Str) = t25.map S := by decide +kernel
theorem l_25 : ([.str "", .str "\n", .str "end", .str "end\n", .str "go 1", .str "go 0", .str "say 8", .str "put 0 10000", .str "put 0 -10000", .str "put 0 00", .str "end 0", .str "Add 0 0 0", .str "add 0 0", .str " end", .str "end ", .str "if 0 1\nend", .str "gate 0 1 1", .str "gate 0 1 2", .str "fewer 0 1 -", .str "fewer 0 1 ", .str "fewer 0 1 -g", .str "get 0 1 -64", .str "set 0 -63 1", .str "put 0 -0", .str "put 0 -"] : List D) = t25.map stD := by
  have := congrArg (List.map D.str) e_25
  rw [List.map_map] at this
  exact this
def tEnd : List Nat := [101, 110, 100]
def tGo : List Nat := [103, 111, 32, 54, 48]
theorem e_go60 : Str.ofString "go 60" = S tGo := by decide
def many (n : Nat) (w : List Nat) : List Nat := TL.joinL [10] (List.replicate n w)
def t28 : List (List Nat) := t25 ++ ([many 61 tEnd] ++ ([many 60 tEnd] ++ [many 61 tGo]))
theorem wt_rep {n : Nat} {w : List Nat} : Wt (List.replicate n w) = n * (w.length + 1) := by
  induction n with
  | zero => simp [Wt]
  | succ n ih =>
    rw [List.replicate_succ, wt_cons, ih, Nat.succ_mul]
    omega
theorem many_bt {n : Nat} {w : List Nat} (hn : n ≤ 61) (hw : w.length ≤ 5) (hc : Ch w) : Bt 20000 (many n w) := by
  refine ⟨Nat.le_trans join_le ?_, join_ch (by decide) fun x hx => by rw [List.eq_of_mem_replicate hx]; exact hc⟩
  rw [wt_rep]
  have : n * (w.length + 1) ≤ 61 * 6 := Nat.mul_le_mul hn (by omega)
  omega
theorem t25_ok : ∀ w ∈ t25, w.length ≤ 20000 ∧ ∀ c ∈ w, c < 1114112 := by decide +kernel
theorem t28_ok : ∀ w ∈ t28, Bt 20000 w := fun w hw => by
  rcases List.mem_append.mp hw with h | h
  · exact t25_ok w h
  rcases List.mem_append.mp h with h | h
  · rw [List.mem_singleton.mp h]
    exact many_bt (by decide) (by decide) (by show ∀ c ∈ tEnd, c < 1114112; decide +kernel)
  rcases List.mem_append.mp h with h | h
  · rw [List.mem_singleton.mp h]
    exact many_bt (by decide) (by decide) (by show ∀ c ∈ tEnd, c < 1114112; decide +kernel)
  · rw [List.mem_singleton.mp h]
    exact many_bt (by decide) (by decide) (by show ∀ c ∈ tGo, c < 1114112; decide +kernel)
theorem t28_len : t28.length = 28 := rfl
def la1 : MS := (mAsg (mLstN (mCons (mv 0) (mCons (mc (.int (0))) (mCons (mc (.int (0))) (mCons (mc (.int (0))) mNil))))) (gmN 1))
def la2 : MS := (mAsg (mLst (mCons (mc (.str "")) (mCons (mc (.str "\n")) (mCons (mc (.str "end")) (mCons (mc (.str "end\n")) (mCons (mc (.str "go 1")) (mCons (mc (.str "go 0")) (mCons (mc (.str "say 8")) (mCons (mc (.str "put 0 10000")) (mCons (mc (.str "put 0 -10000")) (mCons (mc (.str "put 0 00")) (mCons (mc (.str "end 0")) mNil)))))))))))) (gmN 2))
def la3 : MS := (mAsg (mBin addD (mv 2) (mLst (mCons (mc (.str "Add 0 0 0")) (mCons (mc (.str "add 0 0")) (mCons (mc (.str " end")) (mCons (mc (.str "end ")) (mCons (mc (.str "if 0 1\nend")) (mCons (mc (.str "gate 0 1 1")) (mCons (mc (.str "gate 0 1 2")) (mCons (mc (.str "fewer 0 1 -")) mNil)))))))))) (gmN 2))
def la4 : MS := (mAsg (mBin addN (mv 2) (mLst (mCons (mc (.str "fewer 0 1 ")) (mCons (mc (.str "fewer 0 1 -g")) (mCons (mc (.str "get 0 1 -64")) (mCons (mc (.str "set 0 -63 1")) (mCons (mc (.str "put 0 -0")) (mCons (mc (.str "put 0 -")) mNil)))))))) (gmN 2))
def la5 : MS := (mDrop (mMt "list" appD (mv 2) (mCons (mMt "str" joinD (mc (.str "\n")) (mCons (mBin mulD (mLst (mCons (mc (.str "end")) mNil)) (mc (.int (61)))) mNil)) mNil)))
def la6 : MS := (mDrop (mMt "list" appD (mv 2) (mCons (mMt "str" joinD (mc (.str "\n")) (mCons (mBin mulD (mLst (mCons (mc (.str "end")) mNil)) (mc (.int (60)))) mNil)) mNil)))
def la7 : MS := (mDrop (mMt "list" appD (mv 2) (mCons (mMt "str" joinD (mc (.str "\n")) (mCons (mBin mulD (mLst (mCons (mc (.str "go 60")) mNil)) (mc (.int (61)))) mNil)) mNil)))

def lw1 : MS := (mAsg (mCall m_written (mCons (mCall m__law_program (mCons (mv 1) (mCons (mBin ixD (mLst (mCons (mc (.int (6))) (mCons (mc (.int (30))) mNil))) (mCall m__law_taken (mCons (mv 1) (mCons (mc (.int (2))) mNil)))) mNil))) mNil)) (gmN 4))

def lwS : MS := (mAsg (mCall m__law_spoilt (mCons (mv 1) (mCons (mv 4) mNil))) (gmN 4))
def lwI : Sl → AH → R IT := (mRng1 (mCons (mCall m__law_taken (mCons (mv 1) (mCons (mc (.int (4))) mNil))) mNil))
def lwJ : Sl → AH → R IT := (miAny (mLst (mCons (mv 4) (mCons (mBin ixD (mv 2) (mCall m__law_taken (mCons (mv 1) (mCons (mc (.int (28))) mNil)))) mNil))))
def b1 : MS := (mAsg (mMt "str" splitD (mv 6) (mCons (mc (.str "\n")) mNil)) (gmN 7))
def b2 : MS := (mAsg (mLc (miAny (mv 7)) (gmN 10) mYes (mCall m__law_line (mCons (mv 10) (mCons (mCall lenD (mCons (mv 7) mNil)) mNil))) [10] finF) (gmN 8))
def b3 : MS := (mAsg (mLc (mRng1 (mCons (mCall lenD (mCons (mv 8) mNil)) mNil)) (gmN 11) (mOr (mTb (mBin isD (mBin ixD (mv 8) (mv 11)) (mc .non))) (mTb (mBin gtD (mv 11) (mc (.int (59)))))) (mv 11) [11] finF) (gmN 9))
def b4 : MS := (mIfS (mTb (mBin neD (mv 9) (mLst mNil))) (mIfS (mTb (mBin neD (mLamW (mCall m_read (mCons (mv 6) mNil))) (mTup (mCons (mc (.str "text")) (mCons (mBin ixD (mv 9) (mc (.int (0)))) mNil))))) (mRet (mc (.bl false))) mNx) (mIfS (mNot (mTb (mCall (m__law_alike 4) (mCons (mCall m_read (mCons (mv 6) mNil)) (mCons (mCall tupD (mCons (mv 8) mNil)) mNil))))) (mRet (mc (.bl false))) mNx))

def bB : MS := mSeq b1 (mSeq b2 (mSeq b3 b4))
def lwB : MS := mSeq lw1 (mSeq (mFor lwI (gmN 5) lwS) (mFor lwJ (gmN 6) bB))
theorem app_step {s : Sl} {o : AO} {ts : List (List Nat)} {w : List Nat} {e : ME} (hs : s[2]? = some (some (.ref 1))) (he : e s [o, .lst (ts.map stD)] = .ok (.str (S w)) [o, .lst (ts.map stD)]) (hl : ts.length < 100) :
    mDrop (mMt "list" appD (mv 2) (mCons e mNil)) s [o, .lst (ts.map stD)] = .nx s [o, .lst ((ts ++ [w]).map stD)] := by
  have h2 : mv 2 s [o, .lst (ts.map stD)] = .ok (.ref 1) [o, .lst (ts.map stD)] := by
    unfold mv
    rw [hs]
  have ty : tyMD [o, .lst (ts.map stD)] "list" (.ref 1) = true := rfl
  have ap : appD (.ref 1) [.str (S w)] [o, .lst (ts.map stD)] = .ok .non [o, .lst ((ts ++ [w]).map stD)] := by
    show (if (ts.map stD).length < 16777216 then R.ok D.non ([o, AO.lst (ts.map stD)].set 1 (.lst (ts.map stD ++ [.str (S w)]))) else .bad) = _
    rw [List.length_map, if_pos (by omega), List.map_append]
    rfl
  rw [e_drop, e_mt, h2, kM1_0, if_pos ty, e_cons, he, kC1_0, e_nil, kC2_0, kM2_0, ap, kDrop_0]
theorem join_many {n : Nat} {w : List Nat} {A : AH} (hn : n ≤ 61) (hw : w.length ≤ 5) : joinD (.str (S [10])) [lsD (List.replicate n w)] A = .ok (.str (S (many n w))) A := by
  refine join_W ?_
  rw [wt_rep]
  have : n * (w.length + 1) ≤ 61 * 6 := Nat.mul_le_mul hn (by omega)
  omega
theorem mul_end61 {A : AH} : mulD (.lst [.str (S tEnd)]) (.int 61) A = .ok (lsD (List.replicate 61 tEnd)) A := rfl
theorem mul_end60 {A : AH} : mulD (.lst [.str (S tEnd)]) (.int 60) A = .ok (lsD (List.replicate 60 tEnd)) A := rfl
theorem mul_go61 {A : AH} : mulD (.lst [.str (S tGo)]) (.int 61) A = .ok (lsD (List.replicate 61 tGo)) A := rfl
theorem e_end : Str.ofString "end" = S tEnd := e_w_end
theorem ty_str {z : Str} {A : AH} : tyMD A "str" (.str z) = true := rfl
def aH (ns : List Int) : AH := [rowO ns 0 0 0, .lst (t28.map stD)]
theorem set_ok {ns : List Int} {k : MS} : mSeq la1 (mSeq la2 (mSeq la3 (mSeq la4 (mSeq la5 (mSeq la6 (mSeq la7 k)))))) [some (.scr ns), none, none, none, none, none, none, none, none, none, none, none] [] = k [some (.scr ns), some (.ref 0), some (.ref 1), none, none, none, none, none, none, none, none, none] (aH ns) := by
  have c1 : la1 [some (.scr ns), none, none, none, none, none, none, none, none, none, none, none] [] = .nx [some (.scr ns), some (.ref 0), none, none, none, none, none, none, none, none, none, none] [rowO ns 0 0 0] := by simp [la1, rowO]
  rw [e_seq, c1, RS.nxt_nx]
  have c4 : mSeq la2 (mSeq la3 (mSeq la4 (mSeq la5 (mSeq la6 (mSeq la7 k))))) [some (.scr ns), some (.ref 0), none, none, none, none, none, none, none, none, none, none] [rowO ns 0 0 0] = mSeq la5 (mSeq la6 (mSeq la7 k)) [some (.scr ns), some (.ref 0), some (.ref 1), none, none, none, none, none, none, none, none, none] [rowO ns 0 0 0, .lst (t25.map stD)] := by
    rw [← l_25]
    rfl
  rw [c4]
  have c5 := app_step (s := [some (.scr ns), some (.ref 0), some (.ref 1), none, none, none, none, none, none, none, none, none]) (o := rowO ns 0 0 0) (ts := t25) (w := many 61 tEnd) (e := mMt "str" joinD (mc (.str "\n")) (mCons (mBin mulD (mLst (mCons (mc (.str "end")) mNil)) (mc (.int (61)))) mNil)) rfl (by
    simp only [e_mt, e_mc, kM1_0, ty_str, if_true, e_cons, e_bin, e_lst, e_nil, kC1_0, kC2_0, kLst_0, List.length_cons, List.length_nil, e_end, e_nl, kB1_0, kB2_0, mul_end61, kM2_0]
    simp only [show (0 + 1 ≤ 16777216) = True from eq_true (by decide), if_true, kB1_0, kB2_0, mul_end61, kC1_0, kC2_0, kM2_0, e_mc, e_nil, join_many (n := 61) (w := tEnd) (by decide) (by decide)]) (by decide)
  have c6 := app_step (s := [some (.scr ns), some (.ref 0), some (.ref 1), none, none, none, none, none, none, none, none, none]) (o := rowO ns 0 0 0) (ts := t25 ++ [many 61 tEnd]) (w := many 60 tEnd) (e := mMt "str" joinD (mc (.str "\n")) (mCons (mBin mulD (mLst (mCons (mc (.str "end")) mNil)) (mc (.int (60)))) mNil)) rfl (by
    simp only [e_mt, e_mc, kM1_0, ty_str, if_true, e_cons, e_bin, e_lst, e_nil, kC1_0, kC2_0, kLst_0, List.length_cons, List.length_nil, e_end, e_nl, kB1_0, kB2_0, mul_end60, kM2_0]
    simp only [show (0 + 1 ≤ 16777216) = True from eq_true (by decide), if_true, kB1_0, kB2_0, mul_end60, kC1_0, kC2_0, kM2_0, e_mc, e_nil, join_many (n := 60) (w := tEnd) (by decide) (by decide)]) (by rw [List.length_append]; decide)
  have c7 := app_step (s := [some (.scr ns), some (.ref 0), some (.ref 1), none, none, none, none, none, none, none, none, none]) (o := rowO ns 0 0 0) (ts := t25 ++ [many 61 tEnd] ++ [many 60 tEnd]) (w := many 61 tGo) (e := mMt "str" joinD (mc (.str "\n")) (mCons (mBin mulD (mLst (mCons (mc (.str "go 60")) mNil)) (mc (.int (61)))) mNil)) rfl (by
    simp only [e_mt, e_mc, kM1_0, ty_str, if_true, e_cons, e_bin, e_lst, e_nil, kC1_0, kC2_0, kLst_0, List.length_cons, List.length_nil, e_go60, e_nl, kB1_0, kB2_0, mul_go61, kM2_0]
    simp only [show (0 + 1 ≤ 16777216) = True from eq_true (by decide), if_true, kB1_0, kB2_0, mul_go61, kC1_0, kC2_0, kM2_0, e_mc, e_nil, join_many (n := 61) (w := tGo) (by decide) (by decide)]) (by rw [List.length_append, List.length_append]; decide)
  rw [e_seq, show la5 [some (.scr ns), some (.ref 0), some (.ref 1), none, none, none, none, none, none, none, none, none] [rowO ns 0 0 0, .lst (t25.map stD)] = _ from c5, RS.nxt_nx, e_seq, show la6 [some (.scr ns), some (.ref 0), some (.ref 1), none, none, none, none, none, none, none, none, none] [rowO ns 0 0 0, .lst ((t25 ++ [many 61 tEnd]).map stD)] = _ from c6, RS.nxt_nx, e_seq, show la7 [some (.scr ns), some (.ref 0), some (.ref 1), none, none, none, none, none, none, none, none, none] [rowO ns 0 0 0, .lst ((t25 ++ [many 61 tEnd] ++ [many 60 tEnd]).map stD)] = _ from c7, RS.nxt_nx]
  rw [List.append_assoc, List.append_assoc]
  rfl
/-! ### one text -/
theorem ne_tupF {ds es : List D} {A : AH} (h : (ds.all Tg.okF && es.all Tg.okF) = true) : neD (.tup ds) (.tup es) A = .ok (.bl (!(feqs ds es))) A := by
  obtain ⟨h1, h2⟩ := Bool.and_eq_true_iff.mp h
  obtain ⟨a1, a2, a3⟩ := pys_flat (n := 10) (A := A) h1
  obtain ⟨b1, b2, b3⟩ := pys_flat (n := 10) (A := A) h2
  have e1 : pyOf 12 A (.tup ds) = some (.tuple (ds.map pyF)) := by
    show (pysOf (pyOf 11 A) ds).map PyData.tuple = _
    rw [a1]
    rfl
  have e2 : pyOf 12 A (.tup es) = some (.tuple (es.map pyF)) := by
    show (pysOf (pyOf 11 A) es).map PyData.tuple = _
    rw [b1]
    rfl
  unfold neD
  rw [e1, e2, show scEq (.tup ds) (.tup es) = none from rfl]
  simp only [shaped_tup a2 a3, shaped_tup b2 b3, Bool.and_self, if_true, PyData.eqv, eqv_flat h1 h2]
theorem word_bad {b : Nat} : wordX (xBad b) = some (.tup [.str "text", .int (b : Int)]) := by
  show (if ("BadText" : Str) = "BadProgram" then _ else if ("BadText" : Str) = "BadWord" then _ else if ("BadText" : Str) = "BadText" then _ else _) = _
  rw [if_neg (by decide), if_neg (by decide), if_pos rfl]
  rfl
theorem ne_bad {b : Nat} {A : AH} : neD (.tup [.str "text", .int (b : Int)]) (.tup [.str "text", .int (b : Int)]) A = .ok (.bl false) A := by
  rw [ne_tupF (by show (PyData.strOk "text" && true && (PyData.strOk "text" && true)) = true; decide +kernel)]
  have : feqs [.str "text", .int (b : Int)] [.str "text", .int (b : Int)] = true := by simp [feqs, feq]
  rw [this]
  rfl
theorem pOf_flat {w : List Nat} {c n : Nat} (h : okP w c n = true) : (∃ i, pOf w c = .int i) ∨ ∃ z, pOf w c = .str z := by
  have hn := ok_not_non h
  unfold pOf at hn ⊢
  split
  · split
    · exact .inr ⟨_, rfl⟩
    · split
      · exact .inr ⟨_, rfl⟩
      · rename_i q1 q2 q3
        rw [if_pos q1, if_neg q2, if_neg q3] at hn
        cases hn
  · rename_i q
    rw [if_neg q] at hn
    cases hv : numOf w with
    | none =>
      rw [hv] at hn
      cases hn
    | some i => exact .inl ⟨i, rfl⟩
theorem alike_row2 {k n : Nat} {l : List Nat} {A : AH} (h : Tg.isNon (lineD l n) = false) : m_alike (k + 2) [lineD l n, lineD l n] A = .ok (.bl true) A := by
  unfold lineD at h ⊢
  cases hs : words l with
  | nil =>
    rw [hs] at h
    cases h
  | cons w ps =>
    rw [hs] at h
    dsimp only at h ⊢
    cases hf : forms.lookup w with
    | none =>
      rw [hf] at h
      cases h
    | some f =>
      rw [hf] at h
      dsimp only at h ⊢
      by_cases q : ps.length = f.length ∧ rowOk ps f n = true
      · rw [if_pos q]
        have hf3 := (fm_word _ (form_mem hf)).2.2.2.2.1
        dsimp only at hf3
        have hz : (List.zipWith pOf ps f).length = f.length := by rw [List.length_zipWith, q.1, Nat.min_self]
        refine alike_tup rfl (by rw [List.length_cons, hz]; omega) fun i hi => ?_
        cases i with
        | zero => exact alike_str
        | succ i =>
          have hi2 : i < f.length := by rw [List.length_cons, hz] at hi; omega
          have hi3 : i < ps.length := by omega
          have e : (List.zipWith pOf ps f)[i]'(by omega) = pOf ps[i] f[i] := List.getElem_zipWith
          show m_alike (k + 1) [(List.zipWith pOf ps f)[i]'(by omega), (List.zipWith pOf ps f)[i]'(by omega)] A = _
          rw [e]
          have hok : okP ps[i] f[i] n = true := by
            have := List.all_eq_true.mp q.2 i (List.mem_range.mpr hi2)
            unfold badAt at this
            rw [List.getElem?_eq_getElem hi3, List.getElem?_eq_getElem hi2] at this
            simpa using this
          rcases pOf_flat hok with ⟨z, e2⟩ | ⟨z, e2⟩
          · rw [e2]
            exact alike_int
          · rw [e2]
            exact alike_str
      · rw [if_neg q] at h
        cases h
theorem lcL_lines {w : Sl} {n : Nat} {te : ME} : ∀ {ls : List (List Nat)} {A : AH}, (∀ l ∈ ls, Tx l) → (∀ l A, Tx l → te (w.set 10 (some (stD l))) A = .ok (lineD l n) (A ++ [.dct kv3])) →
    ∃ X, lcL (gmN 10) mYes te w (ls.map stD) A = .ok (ls.map fun l => lineD l n) (A ++ X)
  | [], A, _, _ => ⟨[], by rw [List.append_nil]; rfl⟩
  | l :: ls, A, h, hk => by
    obtain ⟨X, e⟩ := lcL_lines (A := A ++ [.dct kv3]) (fun x hx => h x (List.mem_cons_of_mem _ hx)) hk
    refine ⟨[.dct kv3] ++ X, ?_⟩
    rw [List.map_cons, List.map_cons]
    unfold lcL
    have h2 : mYes (w.set 10 (some (stD l))) A = .ok true A := rfl
    simp only [gmN, h2, R.bindN_ok, if_true, hk l A (h l List.mem_cons_self), e, R.bind_ok, List.append_assoc]
def lT : ME := mCall m__law_line (mCons (mv 10) (mCons (mCall lenD (mCons (mv 7) mNil)) mNil))
theorem rows_len (l : List Nat) : (rowsD l).length = (lines l).length := by
  unfold rowsD
  rw [List.length_map]
theorem one_ok {ns : List Int} {A0 A : AH} {l : List Nat} {p3 p4 p5 p7 p8 p9 : Option D} (h : RB 0 ns A0 A) (hb : Bt 20000 l) :
    ∃ A', bB [some (.scr ns), some (.ref 0), some (.ref 1), p3, p4, p5, some (.str (S l)), p7, p8, p9, none, none] A = .nx [some (.scr ns), some (.ref 0), some (.ref 1), p3, p4, p5, some (.str (S l)), some (lsD (lines l)), some (.lst (rowsD l)), some (.lst ((bads l).map fun k : Nat => D.int (k : Int))), none, none] A' ∧ RB 0 ns A0 A' := by
  have hT : Tx l := hb.tx (by omega)
  have hn : (lines l).length ≤ 20001 := by
    have h1 := wt_len (lines l)
    have h2 : Wt (lines l) ≤ l.length + 1 := spl_wt
    have := hb.1
    omega
  have es : splitD (.str (S l)) [.str (S [10])] A = .ok (lsD (lines l)) A := split_gen (c := 10) hT (by decide)
  have c1 : b1 [some (.scr ns), some (.ref 0), some (.ref 1), p3, p4, p5, some (.str (S l)), p7, p8, p9, none, none] A = .nx [some (.scr ns), some (.ref 0), some (.ref 1), p3, p4, p5, some (.str (S l)), some (lsD (lines l)), p8, p9, none, none] A := by
    simp [b1, e_nl, es, tyMD]
  obtain ⟨X, e2⟩ := lcL_lines (w := wpD [some (.scr ns), some (.ref 0), some (.ref 1), p3, p4, p5, some (.str (S l)), some (lsD (lines l)), p8, p9, none, none] [10]) (n := (lines l).length) (te := lT) (A := A) (spl_Tx (c := 10) hT) (fun x B hx => by
    have lz : lenD [lsD (lines l)] B = .ok (.int (lines l).length) B := len_l
    have := line_gen (n := (lines l).length) (A := B) hx
    simp [lT, wpD, lz, this])
  have hm : miAny (mv 7) [some (.scr ns), some (.ref 0), some (.ref 1), p3, p4, p5, some (.str (S l)), some (lsD (lines l)), p8, p9, none, none] A = .ok (.data ((lines l).map stD)) A := rfl
  have c2 : b2 [some (.scr ns), some (.ref 0), some (.ref 1), p3, p4, p5, some (.str (S l)), some (lsD (lines l)), p8, p9, none, none] A = .nx [some (.scr ns), some (.ref 0), some (.ref 1), p3, p4, p5, some (.str (S l)), some (lsD (lines l)), some (.lst (rowsD l)), p9, none, none] (A ++ X) := by
    show mAsg (mLc (miAny (mv 7)) (gmN 10) mYes lT [10] finF) (gmN 8) _ A = _
    rw [e_asgN, mLc_data hm (by rw [List.length_map]; omega)]
    show kAsg 8 _ ((lcL (gmN 10) mYes lT _ ((TL.spl [10] 0 [] l).map stD) A).bind finF) = _
    rw [e2]
    rfl
  generalize hB : A ++ X = B at c2
  have hRB : RB 0 ns A0 B := by rw [← hB]; exact h.app X
  have lz : lenD [.lst (rowsD l)] B = .ok (.int (rowsD l).length) B := rfl
  have er : (mCons (mCall lenD (mCons (mv 8) mNil)) mNil) [some (.scr ns), some (.ref 0), some (.ref 1), p3, p4, p5, some (.str (S l)), some (lsD (lines l)), some (.lst (rowsD l)), p9, none, none] B = .ok [.int ((rowsD l).length : Int)] B := by simp [lz]
  have c3 : b3 [some (.scr ns), some (.ref 0), some (.ref 1), p3, p4, p5, some (.str (S l)), some (lsD (lines l)), some (.lst (rowsD l)), p9, none, none] B = .nx [some (.scr ns), some (.ref 0), some (.ref 1), p3, p4, p5, some (.str (S l)), some (lsD (lines l)), some (.lst (rowsD l)), some (.lst ((bads l).map fun k : Nat => D.int (k : Int))), none, none] B := by
    have := lc_pure (g := gmN 11) (tt := (mOr (mTb (mBin isD (mBin ixD (mv 8) (mv 11)) (mc .non))) (mTb (mBin gtD (mv 11) (mc (.int (59))))))) (te := mv 11) (vs := [11]) (fun d => match d with
      | .int i => badL (rowsD l) i.toNat
      | _ => false) (fun d => d) (rng1 er (by rw [rows_len]; omega)) (by rw [List.length_map, List.length_range, rows_len]; omega) (fun d hd => by
      obtain ⟨i, hi', rfl⟩ := List.mem_map.mp hd
      have hi := List.mem_range.mp hi'
      have x1 : ixD (.lst (rowsD l)) (.int (i : Int)) B = .ok ((rowsD l).getD i .non) B := by
        refine ix_lst (atI_ok ?_)
        rw [List.getD_eq_getElem?_getD, List.getElem?_eq_getElem hi]
        rfl
      refine ⟨_, rfl, ?_, fun q => rfl⟩
      show _ = R.ok (badL (rowsD l) i) B
      unfold badL
      have eI : ∀ x : D, isD x .non B = .ok (.bl (Tg.isNon x)) B := fun x => rfl
      generalize (rowsD l).getD i .non = dd at x1 ⊢
      cases hq : Tg.isNon dd with
      | true => simp [wpD, x1, eI, hq]
      | false =>
        have : ((i : Int) > 59) = (59 < i) := by
          apply propext
          omega
        simp [wpD, x1, eI, hq]
        try omega)
    rw [List.map_id'' (fun _ => rfl), List.filter_map] at this
    show mAsg _ (gmN 9) _ B = _
    rw [e_asgN, this]
    rfl
  have hne : neD (.lst ((bads l).map fun k : Nat => D.int (k : Int))) (.lst []) B = .ok (.bl (!(bads l).isEmpty)) B := by
    rw [ne_lstF]
    · cases bads l <;> rfl
    · rw [Bool.and_eq_true]
      refine ⟨List.all_eq_true.mpr fun d hd => ?_, rfl⟩
      obtain ⟨i, _, rfl⟩ := List.mem_map.mp hd
      rfl
  have rg := fun C => read_gen (A := C) hT
  refine ⟨B ++ [.lst (match bads l with
    | [] => rowsD l
    | b :: _ => (rowsD l).take b)], ?_, hRB.app _⟩
  show mSeq b1 (mSeq b2 (mSeq b3 b4)) _ A = _
  rw [e_seq, c1, RS.nxt_nx, e_seq, c2, RS.nxt_nx, e_seq, c3, RS.nxt_nx]
  cases hbd : bads l with
  | nil =>
    rw [hbd] at hne rg
    rw [List.map_nil] at hne
    have ra : m__law_alike 4 [.tup (rowsD l), .tup (rowsD l)] (B ++ [.lst (rowsD l)]) = .ok (.bl true) (B ++ [.lst (rowsD l)]) := by
      rw [alike_eq]
      refine alike_tup rfl (by rw [rows_len]; omega) fun i hi => ?_
      have hi2 : i < (lines l).length := by rw [← rows_len]; exact hi
      have e : (rowsD l)[i] = lineD (lines l)[i] (lines l).length := by
        simp only [rowsD, List.getElem_map]
      rw [e]
      refine alike_row2 ?_
      have z := List.filter_eq_nil_iff.mp hbd i (List.mem_range.mpr hi)
      have z2 : badL (rowsD l) i = false := by
        cases q : badL (rowsD l) i with
        | false => rfl
        | true => exact absurd q z
      unfold badL at z2
      rw [Bool.or_eq_false_iff] at z2
      have z3 := z2.1
      rw [List.getD_eq_getElem?_getD, List.getElem?_eq_getElem hi] at z3
      rw [← e]
      exact z3
    have tu : tupD [.lst (rowsD l)] (B ++ [.lst (rowsD l)]) = .ok (.tup (rowsD l)) (B ++ [.lst (rowsD l)]) := rfl
    simp [b4, hne, rg, tu, ra]
  | cons b r =>
    rw [hbd] at hne rg
    have x0 : ∀ C, ixD (.lst ((b :: r).map fun k : Nat => D.int (k : Int))) (.int 0) C = .ok (.int (b : Int)) C := fun C => ix_lst at0
    have lam : ∀ q9, (mLamW (mCall m_read (mCons (mv 6) mNil))) [some (.scr ns), some (.ref 0), some (.ref 1), p3, p4, p5, some (.str (S l)), some (lsD (lines l)), some (.lst (rowsD l)), q9, none, none] B = .ok (.tup [.str "text", .int (b : Int)]) (B ++ [.lst ((rowsD l).take b)]) := fun q9 => by
      have e : (mCall m_read (mCons (mv 6) mNil)) [some (.scr ns), some (.ref 0), some (.ref 1), p3, p4, p5, some (.str (S l)), some (lsD (lines l)), some (.lst (rowsD l)), q9, none, none] B = .exc (xBad b) (B ++ [.lst ((rowsD l).take b)]) := by simp [rg]
      unfold mLamW
      rw [e]
      unfold wordR
      dsimp only
      rw [word_bad]
    rw [List.map_cons] at hne x0
    have nb : ∀ C, neD (.tup [.str "text", .int (b : Int)]) (.tup [.str "text", .int (b : Int)]) C = .ok (.bl false) C := fun C => ne_bad
    simp [b4, hne, lam, x0, nb]
/-! ### the law -/
theorem numC_ch (i : Int) : Ch (numC i) := fun c hc => by
  unfold numC at hc
  split at hc
  · have := TL.numL_digits _ c hc
    omega
  · rcases List.mem_cons.mp hc with rfl | hc
    · decide
    · have := TL.numL_digits _ c hc
      omega
theorem r16_ch : ∀ l ∈ R16, ∀ c ∈ l, c < 1114112 := by decide +kernel
theorem fm_ch : ∀ e ∈ forms, ∀ c ∈ e.1, c < 1114112 := by decide +kernel
theorem part_ch {rows c : Nat} {p : PT} (h : PT.Ok rows c p) : Ch p.s := by
  cases p with
  | n i => exact numC_ch i
  | t l =>
    cases h with
    | t hl =>
      cases l with
      | nil => exact fun c hc => by rw [List.mem_singleton.mp hc]; decide
      | cons x l => exact r16_ch _ hl
theorem txt_ch {prog : List RW} {rows : Nat} (h : ∀ r ∈ prog, r.Ok rows) : Ch (txt prog) := by
  refine join_ch (by decide) fun w hw => ?_
  obtain ⟨r, hr, rfl⟩ := List.mem_map.mp hw
  refine join_ch (by decide) fun p hp => ?_
  obtain ⟨f, hf, h2⟩ := h r hr
  rcases List.mem_cons.mp hp with rfl | hp
  · exact fm_ch _ hf
  · obtain ⟨q, hq, rfl⟩ := List.mem_map.mp hp
    obtain ⟨i, hi, rfl⟩ := List.mem_iff_getElem.mp hq
    exact part_ch (h2.get i (by rw [h2.len]; exact hi) hi)
def bnd : Nat → Nat
  | 0 => 1740
  | n + 1 => 2 * bnd n + 20
theorem bnd_mono : ∀ {n m : Nat}, n ≤ m → bnd n ≤ bnd m
  | n, 0, h => by
    rw [Nat.le_zero.mp h]
    exact Nat.le_refl _
  | n, m + 1, h => by
    rcases Nat.lt_or_ge n (m + 1) with q | q
    · have := bnd_mono (Nat.le_of_lt_succ q)
      show bnd n ≤ 2 * bnd m + 20
      omega
    · rw [Nat.le_antisymm h q]
      exact Nat.le_refl _
section
variable {ns : List Int} {A : AH} {p3 p4 p5 p6 p7 p8 p9 : Option D}
theorem lw1_ok (h : RB 0 ns (aH ns) A) : ∃ l A', lw1 [some (.scr ns), some (.ref 0), some (.ref 1), p3, p4, p5, p6, p7, p8, p9, none, none] A = .nx [some (.scr ns), some (.ref 0), some (.ref 1), p3, some (.str (S l)), p5, p6, p7, p8, p9, none, none] A' ∧ RB 0 ns (aH ns) A' ∧ Bt 1740 l := by
  obtain ⟨w, A1, e1, h1, w1⟩ := takenN 2 h ⟨by omega, by omega⟩
  have hk : ∃ i : Int, 0 < i ∧ i ≤ 60 ∧ atI [D.int 6, D.int 30] (w : Int) = some (.int i) := by
    have hk : w = 0 ∨ w = 1 := by omega
    rcases hk with rfl | rfl
    · exact ⟨6, by omega, by omega, at0⟩
    · exact ⟨30, by omega, by omega, at1⟩
  obtain ⟨i, i0, i1, hi⟩ := hk
  obtain ⟨prog, A2, e2, h2, hP, h0, hn⟩ := prog_made h1 ⟨i0, i1⟩
  have ew := written_is hP h0 hn (A := A2)
  refine ⟨txt prog, A2, by simp [lw1, tk, e1, hi, e2, ew], h2, Nat.le_trans (txt_len hP hn) (by omega), txt_ch hP⟩
theorem lwS_ok {l : List Nat} {L : Nat} (h : RB 0 ns (aH ns) A) (hb : Bt L l) (hL : L ≤ 100000) : ∃ l' A', lwS [some (.scr ns), some (.ref 0), some (.ref 1), p3, some (.str (S l)), p5, p6, p7, p8, p9, none, none] A = .nx [some (.scr ns), some (.ref 0), some (.ref 1), p3, some (.str (S l')), p5, p6, p7, p8, p9, none, none] A' ∧ RB 0 ns (aH ns) A' ∧ Bt (2 * L + 20) l' := by
  obtain ⟨l', A', e, h1, h2⟩ := spoilt_gen h hb hL
  exact ⟨l', A', by simp [lwS, e], h1, h2⟩
theorem changes_ok {l : List Nat} (h : RB 0 ns (aH ns) A) (hb : Bt 1740 l) : ∃ l' q5 A', mFor lwI (gmN 5) lwS [some (.scr ns), some (.ref 0), some (.ref 1), p3, some (.str (S l)), p5, p6, p7, p8, p9, none, none] A = .nx [some (.scr ns), some (.ref 0), some (.ref 1), p3, some (.str (S l')), q5, p6, p7, p8, p9, none, none] A' ∧ RB 0 ns (aH ns) A' ∧ Bt 20000 l' := by
  obtain ⟨w, A1, e1, h1, w1⟩ := takenN 4 h ⟨by omega, by omega⟩
  have er : (mCons (mCall m__law_taken (mCons (mv 1) (mCons (mc (.int (4))) mNil))) mNil) [some (.scr ns), some (.ref 0), some (.ref 1), p3, some (.str (S l)), p5, p6, p7, p8, p9, none, none] A = .ok [.int (w : Int)] A1 := by simp [tk, e1]
  obtain ⟨s', A', e, q1, q2, q3, q4, q5⟩ := forL_at (g := gmN 5) (b := lwS) (ds := (List.range w).map fun i : Nat => D.int (i : Int)) (s := [some (.scr ns), some (.ref 0), some (.ref 1), p3, some (.str (S l)), p5, p6, p7, p8, p9, none, none]) (A := A1)
    (fun j s B => RB 0 ns (aH ns) B ∧ ∃ l' q5, s = [some (.scr ns), some (.ref 0), some (.ref 1), p3, some (.str (S l')), q5, p6, p7, p8, p9, none, none] ∧ Bt (bnd j) l') 0 ⟨h1, l, p5, rfl, hb⟩ (fun j d s B hj hI => by
      obtain ⟨hB, l', q5, rfl, hb'⟩ := hI
      have hjw : j < w := by
        have := (List.getElem?_eq_some_iff.mp hj).1
        simpa using this
      have hbn : bnd (0 + j) ≤ bnd 3 := bnd_mono (by omega)
      have b3 : bnd 3 = 14060 := rfl
      obtain ⟨l2, B', e, hB', hb2⟩ := lwS_ok (p3 := p3) (p5 := some d) (p6 := p6) (p7 := p7) (p8 := p8) (p9 := p9) hB hb' (by omega)
      exact ⟨_, _, B', rfl, e, hB', l2, some d, rfl, hb2⟩)
  refine ⟨q2, q3, A', ?_, q1, ?_⟩
  · rw [show lwI = mRng1 (mCons (mCall m__law_taken (mCons (mv 1) (mCons (mc (.int (4))) mNil))) mNil) from rfl, mFor_data (rng1 er (by omega)), e, q4]
  · have hbn : bnd (0 + ((List.range w).map fun i : Nat => D.int (i : Int)).length) ≤ bnd 3 := bnd_mono (by rw [List.length_map, List.length_range]; omega)
    have b3 : bnd 3 = 14060 := rfl
    exact ⟨Nat.le_trans q5.1 (by omega), q5.2⟩
theorem both_ok {l : List Nat} (h : RB 0 ns (aH ns) A) (hb : Bt 20000 l) : ∃ q6 q7 q8 q9 A', mFor lwJ (gmN 6) bB [some (.scr ns), some (.ref 0), some (.ref 1), p3, some (.str (S l)), p5, p6, p7, p8, p9, none, none] A = .nx [some (.scr ns), some (.ref 0), some (.ref 1), p3, some (.str (S l)), p5, q6, q7, q8, q9, none, none] A' ∧ RB 0 ns (aH ns) A' := by
  obtain ⟨w, A1, e1, h1, w1⟩ := takenN 28 h ⟨by omega, by omega⟩
  have hw : w < t28.length := by rw [t28_len]; omega
  have h28 : A1[1]? = some (.lst (t28.map stD)) := (h1.oth 1 (Nat.lt_succ_self 1) (by decide)).trans rfl
  have x1 : ixD (.ref 1) (.int (w : Int)) A1 = .ok (stD t28[w]) A1 := ix_ref h28 (atI_ok (by rw [List.getElem?_map, List.getElem?_eq_getElem hw]; rfl))
  have ei : lwJ [some (.scr ns), some (.ref 0), some (.ref 1), p3, some (.str (S l)), p5, p6, p7, p8, p9, none, none] A = .ok (.data [stD l, stD t28[w]]) A1 := by simp [lwJ, tk, e1, x1]
  obtain ⟨s', A', e, hI, q6, q7, q8, q9, rfl⟩ := forL_inv (g := gmN 6) (b := bB) (ds := [stD l, stD t28[w]]) (s := [some (.scr ns), some (.ref 0), some (.ref 1), p3, some (.str (S l)), p5, p6, p7, p8, p9, none, none]) (A := A1)
    (fun s B => RB 0 ns (aH ns) B ∧ ∃ q6 q7 q8 q9, s = [some (.scr ns), some (.ref 0), some (.ref 1), p3, some (.str (S l)), p5, q6, q7, q8, q9, none, none]) ⟨h1, p6, p7, p8, p9, rfl⟩ (fun d hd s B hI => by
      obtain ⟨hB, q6, q7, q8, q9, rfl⟩ := hI
      have : ∃ x, d = stD x ∧ Bt 20000 x := by
        rcases List.mem_cons.mp hd with rfl | hd
        · exact ⟨l, rfl, hb⟩
        · rw [List.mem_singleton.mp hd]
          exact ⟨_, rfl, t28_ok _ (List.getElem_mem hw)⟩
      obtain ⟨x, rfl, hx⟩ := this
      obtain ⟨B', e, hB'⟩ := one_ok (p3 := p3) (p4 := some (stD l)) (p5 := p5) (p7 := q7) (p8 := q8) (p9 := q9) hB hx
      exact ⟨_, _, B', rfl, e, hB', _, _, _, _, rfl⟩)
  exact ⟨q6, q7, q8, q9, A', by rw [mFor_data ei, e], hI⟩
theorem turn_ok (h : RB 0 ns (aH ns) A) : ∃ q4 q5 q6 q7 q8 q9 A', lwB [some (.scr ns), some (.ref 0), some (.ref 1), p3, p4, p5, p6, p7, p8, p9, none, none] A = .nx [some (.scr ns), some (.ref 0), some (.ref 1), p3, q4, q5, q6, q7, q8, q9, none, none] A' ∧ RB 0 ns (aH ns) A' := by
  obtain ⟨l, A1, e1, h1, b1⟩ := lw1_ok (p3 := p3) (p4 := p4) (p5 := p5) (p6 := p6) (p7 := p7) (p8 := p8) (p9 := p9) h
  obtain ⟨l2, q5, A2, e2, h2, b2⟩ := changes_ok (p3 := p3) (p5 := p5) (p6 := p6) (p7 := p7) (p8 := p8) (p9 := p9) h1 b1
  obtain ⟨q6, q7, q8, q9, A3, e3, h3⟩ := both_ok (p3 := p3) (p5 := q5) (p6 := p6) (p7 := p7) (p8 := p8) (p9 := p9) h2 b2
  refine ⟨some (.str (S l2)), q5, q6, q7, q8, q9, A3, ?_, h3⟩
  unfold lwB
  rw [e_seq, e1, RS.nxt_nx, e_seq, e2, RS.nxt_nx, e3]
end
theorem law_holds : ∀ ns : List Int, ns.length ≤ 63 → ∃ A, m_law [.scr ns] [] = .ok (.bl true) A := fun ns _ => by
  have e0 : m_law [.scr ns] [] = finS (mSeq la1 (mSeq la2 (mSeq la3 (mSeq la4 (mSeq la5 (mSeq la6 (mSeq la7 (mSeq (mFor (mRng1 (mCons (mc (.int (5))) mNil)) (gmN 3) lwB) (mRet (mc (.bl true)))))))))) [some (.scr ns), none, none, none, none, none, none, none, none, none, none, none] []) := rfl
  have h0 : RB 0 ns (aH ns) (aH ns) := RB.refl ⟨0, 0, 0, rfl, Int.le_refl _⟩
  obtain ⟨s', A', e, hI, p3, p4, p5, p6, p7, p8, p9, rfl⟩ := forL_inv (g := gmN 3) (b := lwB) (ds := (List.range 5).map fun i : Nat => D.int (i : Int)) (s := [some (.scr ns), some (.ref 0), some (.ref 1), none, none, none, none, none, none, none, none, none]) (A := aH ns)
    (fun s B => RB 0 ns (aH ns) B ∧ ∃ p3 p4 p5 p6 p7 p8 p9, s = [some (.scr ns), some (.ref 0), some (.ref 1), p3, p4, p5, p6, p7, p8, p9, none, none]) ⟨h0, _, _, _, _, _, _, _, rfl⟩ (fun d _ s B hB => by
      obtain ⟨hB, p3, p4, p5, p6, p7, p8, p9, rfl⟩ := hB
      obtain ⟨q4, q5, q6, q7, q8, q9, A', e, z⟩ := turn_ok (p3 := some d) (p4 := p4) (p5 := p5) (p6 := p6) (p7 := p7) (p8 := p8) (p9 := p9) hB
      exact ⟨_, _, A', rfl, e, z, _, _, _, _, _, _, _, rfl⟩)
  refine ⟨A', ?_⟩
  rw [e0, set_ok, e_seq, mFor_data (ds := (List.range 5).map fun i : Nat => D.int (i : Int)) (A1 := aH ns) (rng1 (j := 5) rfl (by decide)), e, RS.nxt_nx]
  rfl
end K19

set_option Elab.async false
set_option linter.all false
set_option maxRecDepth 100000
set_option maxHeartbeats 4000000
namespace K19
open PySem L2 Tg
theorem finE {l : PySem.W.OpenLaw} {w : World} {K : PySem.W.Frag} {mg : Str → Option Value} {fa : Addr} (hfa : mg "law" = some (.ref fa))
    (t_are_rights : TF K mg "are_rights" "are_rights" s_are_rights p_are_rights)
    (t_is_number : TF K mg "is_number" "is_number" s_is_number p_is_number)
    (t_is_within : TF K mg "is_within" "is_within" s_is_within p_is_within)
    (t_is_part : TF K mg "is_part" "is_part" s_is_part p_is_part)
    (t_is_row : TF K mg "is_row" "is_row" s_is_row p_is_row)
    (t_need_program : TF K mg "need_program" "need_program" s_need_program p_need_program)
    (t_word_of : TF K mg "word_of" "word_of" s_word_of p_word_of)
    (t_written : TF K mg "written" "written" s_written p_written)
    (t__law_taken : TF K mg "_law_taken" "_law_taken" s__law_taken p__law_taken)
    (t__law_number : TF K mg "_law_number" "_law_number" s__law_number p__law_number)
    (t__law_rights : TF K mg "_law_rights" "_law_rights" s__law_rights p__law_rights)
    (t__law_row : TF K mg "_law_row" "_law_row" s__law_row p__law_row)
    (t__law_program : TF K mg "_law_program" "_law_program" s__law_program p__law_program)
    (t__law_spoilt : TF K mg "_law_spoilt" "_law_spoilt" s__law_spoilt p__law_spoilt)
    (t__law_forms : TF K mg "_law_forms" "_law_forms" s__law_forms p__law_forms)
    (t__law_part : TF K mg "_law_part" "_law_part" s__law_part p__law_part)
    (t__law_line : TF K mg "_law_line" "_law_line" s__law_line p__law_line)
    (t_number_of : TF K mg "number_of" "number_of" s_number_of p_number_of)
    (t_part_of : TF K mg "part_of" "part_of" s_part_of p_part_of)
    (t_row_of : TF K mg "row_of" "row_of" s_row_of p_row_of)
    (t_BadText___init__ : TX K mg "BadText" "TagError" "line" "BadText.__init__" s_BadText___init__ p_BadText___init__)
    (t_read : TF K mg "read" "read" s_read p_read)
    (t__law_alike : TF K mg "_law_alike" "_law_alike" s__law_alike p__law_alike)
    (t_law : TL K mg "law" s_law "_law_script")
    (g_BOXES : GDat K mg "BOXES" g_BOXES)
    (g_FIGURES : GDat K mg "FIGURES" g_FIGURES)
    (g_FORMS : GTab K w mg "FORMS" tb_FORMS)
    (g_HALF : GDat K mg "HALF" g_HALF)
    (g_MOST_FIGURES : GDat K mg "MOST_FIGURES" g_MOST_FIGURES)
    (g_MOST_ROWS : GDat K mg "MOST_ROWS" g_MOST_ROWS)
    (g_NONE : GDat K mg "NONE" g_NONE)
    (g_OFFSET : GDat K mg "OFFSET" g_OFFSET)
    (g_RIGHTS : GDat K mg "RIGHTS" g_RIGHTS)
    (t__law_word : TF K mg "_law_word" "_law_word" s__law_word p__law_word)
    (wc : WordC K mg)
    (lt_law : LamT K mg "law")
    (z_ValueError : mg "ValueError" = none)
    (z_bool : mg "bool" = none)
    (z_dict : mg "dict" = none)
    (z_int : mg "int" = none)
    (z_isinstance : mg "isinstance" = none)
    (z_len : mg "len" = none)
    (z_list : mg "list" = none)
    (z_range : mg "range" = none)
    (z_str : mg "str" = none)
    (z_tuple : mg "tuple" = none)
    (z_zip : mg "zip" = none)
    {cs : List (Addr × Addr)} (hcs : ∀ x ∈ lamDefs, ∀ P, tabA K mg x = some P → ∃ c, codeA K mg x = some c ∧ (c, P) ∈ cs)
    : ∃ fd : FuncData, (∀ (s : Shared) (v : Value), BindsTo s fd ⟨[v], []⟩ [("_law_script", v)]) ∧ ∀ base : Heap, K.In base → base.Ns mainGlobals mg → (∀ z ∈ cs, LamX.TabB base mg z.1 z.2) → FnOk l.prog w K mg base (L2.CX l.prog w) 10 fa fd ["_law_script"] (spLawT K cs) :=
  lawEnd hfa t_law sc_law hcs (fun base LB => y_law ⟨t_are_rights, t_is_number, t_is_within, t_is_part, t_is_row, t_need_program, t_word_of, t_written, t__law_taken, t__law_number, t__law_rights, t__law_row, t__law_program, t__law_spoilt, t__law_forms, t__law_part, t__law_line, t_number_of, t_part_of, t_row_of, t_BadText___init__, t_read, t__law_alike, t_law, g_BOXES, g_FIGURES, g_FORMS, g_HALF, g_MOST_FIGURES, g_MOST_ROWS, g_NONE, g_OFFSET, g_RIGHTS, t__law_word, wc, lt_law, z_ValueError, z_bool, z_dict, z_int, z_isinstance, z_len, z_list, z_range, z_str, z_tuple, z_zip⟩ LB) law_holds
theorem facts {w : World} {K : PySem.W.Frag} {h : Heap} {mg : Str → Option Value} {f : Addr} (X : K.In h) (G : h.Ns mainGlobals mg) (hfa : mg "law" = some (.ref f)) (c : SaysX hFc hFn hTs w K) (tt : TabIn hXs K h) :
    ∃ fd : FuncData, (∀ (s : Shared) (v : Value), BindsTo s fd ⟨[v], []⟩ [("_law_script", v)]) ∧ ∀ base : Heap, K.In base → base.Ns mainGlobals mg → (∀ z ∈ csOf hXs K, LamX.TabB base mg z.1 z.2) → FnOk PySem.Challenge.rw_tagmachine_k19_texts_refused.prog w K mg base (L2.CX PySem.Challenge.rw_tagmachine_k19_texts_refused.prog w) 10 f fd ["_law_script"] (spLawT K (csOf hXs K)) :=
  finE (l := PySem.Challenge.rw_tagmachine_k19_texts_refused) hfa
    (tfH X G (c.fact 0 rfl) (c.df 0 rfl) (c.fact 1 rfl) (fun _ _ _ _ _ _ us hl => match us, hl with | [_], _ => rfl))
    (tfH X G (c.fact 2 rfl) (c.df 1 rfl) (c.fact 3 rfl) (fun _ _ _ _ _ _ us hl => match us, hl with | [_], _ => rfl))
    (tfH X G (c.fact 4 rfl) (c.df 2 rfl) (c.fact 5 rfl) (fun _ _ _ _ _ _ us hl => match us, hl with | [_, _, _], _ => rfl))
    (tfH X G (c.fact 6 rfl) (c.df 3 rfl) (c.fact 7 rfl) (fun _ _ _ _ _ _ us hl => match us, hl with | [_, _, _], _ => rfl))
    (tfH X G (c.fact 8 rfl) (c.df 4 rfl) (c.fact 9 rfl) (fun _ _ _ _ _ _ us hl => match us, hl with | [_, _], _ => rfl))
    (tfH X G (c.fact 10 rfl) (c.df 5 rfl) (c.fact 11 rfl) (fun _ _ _ _ _ _ us hl => match us, hl with | [_], _ => rfl))
    (tfH X G (c.fact 12 rfl) (c.df 6 rfl) (c.fact 13 rfl) (fun _ _ _ _ _ _ us hl => match us, hl with | [_], _ => rfl))
    (tfH X G (c.fact 14 rfl) (c.df 7 rfl) (c.fact 15 rfl) (fun _ _ _ _ _ _ us hl => match us, hl with | [_], _ => rfl))
    (tfH X G (c.fact 16 rfl) (c.df 8 rfl) (c.fact 17 rfl) (fun _ _ _ _ _ _ us hl => match us, hl with | [_, _], _ => rfl))
    (tfH X G (c.fact 18 rfl) (c.df 9 rfl) (c.fact 19 rfl) (fun _ _ _ _ _ _ us hl => match us, hl with | [_], _ => rfl))
    (tfH X G (c.fact 20 rfl) (c.df 10 rfl) (c.fact 21 rfl) (fun _ _ _ _ _ _ us hl => match us, hl with | [_], _ => rfl))
    (tfH X G (c.fact 22 rfl) (c.df 11 rfl) (c.fact 23 rfl) (fun _ _ _ _ _ _ us hl => match us, hl with | [_, _, _], _ => rfl))
    (tfH X G (c.fact 24 rfl) (c.df 12 rfl) (c.fact 25 rfl) (fun _ _ _ _ _ _ us hl => match us, hl with | [_, _], _ => rfl))
    (tfH X G (c.fact 26 rfl) (c.df 13 rfl) (c.fact 27 rfl) (fun _ _ _ _ _ _ us hl => match us, hl with | [_, _], _ => rfl))
    (tfH X G (c.fact 28 rfl) (c.df 14 rfl) (c.fact 29 rfl) (fun _ _ _ _ _ _ us hl => match us, hl with | [], _ => rfl))
    (tfH X G (c.fact 30 rfl) (c.df 15 rfl) (c.fact 31 rfl) (fun _ _ _ _ _ _ us hl => match us, hl with | [_, _, _], _ => rfl))
    (tfH X G (c.fact 32 rfl) (c.df 16 rfl) (c.fact 33 rfl) (fun _ _ _ _ _ _ us hl => match us, hl with | [_, _], _ => rfl))
    (tfH X G (c.fact 34 rfl) (c.df 17 rfl) (c.fact 35 rfl) (fun _ _ _ _ _ _ us hl => match us, hl with | [_], _ => rfl))
    (tfH X G (c.fact 36 rfl) (c.df 18 rfl) (c.fact 37 rfl) (fun _ _ _ _ _ _ us hl => match us, hl with | [_, _], _ => rfl))
    (tfH X G (c.fact 38 rfl) (c.df 19 rfl) (c.fact 39 rfl) (fun _ _ _ _ _ _ us hl => match us, hl with | [_, _], _ => rfl))
    (txVH X G (c.fact 40 rfl) (c.fact 41 rfl) (c.fact 42 rfl) (c.df 20 rfl) (c.fact 43 rfl) (fun _ _ _ _ _ _ us hl => match us, hl with | [_, _], _ => rfl) (xbH X G (c.fact 44 rfl) (c.fact 45 rfl) (c.fact 46 rfl) (by decide +kernel)))
    (tfH X G (c.fact 47 rfl) (c.df 21 rfl) (c.fact 48 rfl) (fun _ _ _ _ _ _ us hl => match us, hl with | [_], _ => rfl))
    (tfH X G (c.fact 49 rfl) (c.df 22 rfl) (c.fact 50 rfl) (fun _ _ _ _ _ _ us hl => match us, hl with | [_, _], _ => rfl))
    (tlH X G (c.fact 51 rfl) (c.df 23 rfl) (c.fact 52 rfl) (fun _ _ _ _ _ _ us hl => match us, hl with | [_], _ => rfl))
    (intH X G (c.fact 53 rfl))
    (strH X G (c.fact 54 rfl))
    (tabH X G (c.fact 55 rfl) (c.tab 0 rfl) (c.fact 56 rfl))
    (intH X G (c.fact 57 rfl))
    (intH X G (c.fact 58 rfl))
    (intH X G (c.fact 59 rfl))
    (strH X G (c.fact 60 rfl))
    (intH X G (c.fact 61 rfl))
    (strH X G (c.fact 62 rfl))
    (tfH X G (c.fact 63 rfl) (c.df 24 rfl) (c.fact 64 rfl) (fun _ _ _ _ _ _ us hl => match us, hl with | [_], _ => rfl))
    (wordC_of X G (fun z hz => List.all_eq_true.mp (c.fact 65 rfl) z hz) (c.fact 66 rfl) (c.fact 67 rfl))
    (lamT_of X tt (c.fact 68 rfl) (by decide) (by decide) (lamG_ok X G (c.fact 69 rfl)) (lamN_ok X G (c.fact 70 rfl)))
    (noneH X G (c.fact 71 rfl))
    (noneH X G (c.fact 72 rfl))
    (noneH X G (c.fact 73 rfl))
    (noneH X G (c.fact 74 rfl))
    (noneH X G (c.fact 75 rfl))
    (noneH X G (c.fact 76 rfl))
    (noneH X G (c.fact 77 rfl))
    (noneH X G (c.fact 78 rfl))
    (noneH X G (c.fact 79 rfl))
    (noneH X G (c.fact 80 rfl))
    (noneH X G (c.fact 81 rfl))
    (csOf_has tt (lamG_ok X G (c.fact 69 rfl)) (lamN_ok X G (c.fact 70 rfl)))
end K19
open PySem PySem.W PyProof.Rows in
set_option maxRecDepth 100000 in
set_option maxHeartbeats 0 in
theorem PySem.Challenge.cw_tagmachine_k19_texts_refused_holds : PySem.Challenge.rw_tagmachine_k19_texts_refused.Holds := by
  w_on; o_law
  refine HandSHeadRun.head_any (r := K19.hR) (q := K19.hQ) (H := K19.hK) (ob := fun s => Tg.obsTG K19.hFc K19.hFn K19.hTs K19.hXs (HandSHeadRun.getT s)) (M := 20000) (loose := K19.hNm) (d := HandSHeadRun.topDef K19.hR.prog 45) (kwd := []) Tg.obsT_eq
    (by kernel_rfl) (fun _ => by kernel_rfl) K19.hRun (by kernel_rfl) (by kernel_rfl) (by kernel_rfl) (by rfl) (by first | assumption | decide +kernel) (by decide +kernel) ⟨rfl, rfl, rfl, rfl, rfl, by decide +kernel⟩ ?hw ?hc
  case hw => w_witness2
  case hc =>
    refine Tg.walkT (l := PySem.Challenge.rw_tagmachine_k19_texts_refused) (k := 10) (p := "_law_script") rfl (by kernel_rfl) ⟨rfl, by decide, by decide⟩ ?_
    intro v mg fa hp Y G hm0
    obtain ⟨K, KX, c, tt⟩ := Y
    have hm : mg ("law" : PySem.Str) = some (.ref fa) := by
      have e : (HandSHeadRun.topDef K19.hR.prog 45).name = ("law" : PySem.Str) := by kernel_rfl
      rw [← e]
      exact hm0
    obtain ⟨fd, hb, hF⟩ := K19.facts KX G hm c tt
    exact ⟨K, K19.hXs, fd, KX, tt, hb, hF⟩
