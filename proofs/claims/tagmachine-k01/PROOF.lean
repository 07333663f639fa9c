import PyProof.Rows.All
import Wide.All
import OpenK.AllK
import Wide.FinOn
import HandS.ForMost
import HandS.Exc
import HandS.TryOnly
import HandS.ExcOwn
import HandS.WordsExc
import HandS.Lambda
import HandS.TupAny
import HandS.TupMul
import HandS.Deep
import HandS.IsInst
import HandS.RaiseMore
import HandS.SortInts
import HandS.SetFor
import HandS.Conv
import KE.KDictPairs
import PyProof.WalksMore
import PyProof.WalkInts
import HandS.Style
import HandS.ExcField
import HandS.HeadHook3
import KE.GoesEnum
import HandS.Codes
import HandS.ExcInit
import HandS.ExcSuper
import HandS.ExcIs
import HandS.NoneIn
import HandS.Rev
import HandS.RevTup
import HandS.Sort
import KE.KStateDown
import HandS.Head0
import HandS.Head1
import HandS.Head2
import HandS.HeadHook1
import HandS.HeadHook2
import HandS.EndTab
import PyProof.DictUpdate
import HandS.HeadWalk
import KE.KDflt
import PyProof.DefCall
import PyProof.MakeMany
import PySem.Challenge.RW_tagmachine_k01_programs_refused
set_option Elab.async false
set_option linter.all false
set_option maxRecDepth 100000
/-! TgBase: data as trees, a numbered heap of the things that change, and how both lie in the layer's heap. -/
namespace Tg
open PySem L2

/-- a value: data as trees; ref n: the n-th thing that changes -/
inductive D where
  | non | bl (b : Bool) | int (i : Int) | str (s : Str) | tup (ds : List D) | lst (ds : List D) | dct (ks : List Key) (ds : List D) | ref (n : Nat) | scr (ns : List Int)

/-- a thing that changes -/
inductive AO where
  | lst (ds : List D) | dct (kvs : List (Key × D)) | ins (c : Str) (fs : List (Str × D)) | lck (kvs : List (Key × D)) | lam
/-- a dict that is read by a comprehension: locked -/
def AO.isL : AO → Bool
  | .lck _ => true
  | _ => false
abbrev AH := List AO
abbrev Sl := List (Option D)
/-- an exception: its class's name, its own fields if it has any -/
structure XV where
  c : Str
  fs : Option (List (Str × D))

inductive R (α : Type) where
  | ok (a : α) (A : AH)
  | exc (x : XV) (A : AH)
  | bad
def R.bind {α β : Type} (r : R α) (f : α → AH → R β) : R β := match r with
  | .ok a A => f a A
  | .exc x A => .exc x A
  | .bad => .bad
@[simp] theorem R.bind_ok {α β : Type} (a : α) (A : AH) (f : α → AH → R β) : (R.ok a A).bind f = f a A := rfl
@[simp] theorem R.bind_exc {α β : Type} (x : XV) (A : AH) (f : α → AH → R β) : (R.exc x A).bind f = .exc x A := rfl
@[simp] theorem R.bind_bad {α β : Type} (f : α → AH → R β) : (R.bad : R α).bind f = .bad := rfl

/-- F: what lies still; m: where the things that change lie, by number -/
structure Wd where
  F : Hp
  m : List Addr
/-- W' knows all that W knows -/
structure Le (W W' : Wd) : Prop where
  f : ∀ a o, W.F a = some o → W'.F a = some o
  m : ∃ r, W'.m = W.m ++ r
theorem Le.refl (W : Wd) : Le W W := ⟨fun _ _ h => h, [], (List.append_nil _).symm⟩
theorem Le.trans {W W1 W2 : Wd} (a : Le W W1) (b : Le W1 W2) : Le W W2 := ⟨fun x o h => b.f x o (a.f x o h), by
  obtain ⟨r, e⟩ := a.m
  obtain ⟨r', e'⟩ := b.m
  exact ⟨r ++ r', by rw [e', e, List.append_assoc]⟩⟩
theorem Le.at {W W' : Wd} (l : Le W W') {n : Nat} {a : Addr} (h : W.m[n]? = some a) : W'.m[n]? = some a := by
  obtain ⟨r, e⟩ := l.m
  rw [e, List.getElem?_append_left (List.getElem?_eq_some_iff.mp h).1]
  exact h

mutual
def Rep (K : PySem.W.Frag) (W : Wd) : D → V → Prop
  | .non, v => v = .non
  | .bl b, v => v = .bl b
  | .int i, v => v = .int i
  | .str s, v => v = .str s
  | .tup ds, v => ∃ a xs, v = .ref a ∧ SqT K W.F a xs ∧ Reps K W ds xs
  | .lst ds, v => ∃ a xs, v = .ref a ∧ W.F a = some (.lst xs) ∧ Reps K W ds xs
  | .dct ks ds, v => ∃ a kvs, v = .ref a ∧ W.F a = some (.dK kvs) ∧ kvs.map (·.1) = ks ∧ Reps K W ds (kvs.map (·.2))
  | .ref n, v => ∃ a, v = .ref a ∧ W.m[n]? = some a
  | .scr ns, v => ∃ a, v = .ref a ∧ SqL K W.F a (ns.map V.int)
def Reps (K : PySem.W.Frag) (W : Wd) : List D → List V → Prop
  | [], vs => vs = []
  | d :: ds, vs => ∃ v r, vs = v :: r ∧ Rep K W d v ∧ Reps K W ds r
end

theorem rd_le {W W' : Wd} (l : Le W W') {a : Addr} {u : HO} (h : Rd W.F a u) : Rd W'.F a u := by
  rcases h with h | ⟨o, h⟩
  · exact .inl (l.f a _ h)
  · exact .inr ⟨o, l.f a _ h⟩
theorem sqT_le {K : PySem.W.Frag} {W W' : Wd} (l : Le W W') {a : Addr} {xs : List V} (h : SqT K W.F a xs) : SqT K W'.F a xs := h.elim (fun z => .inl (rd_le l z)) .inr
theorem sqL_le {K : PySem.W.Frag} {W W' : Wd} (l : Le W W') {a : Addr} {xs : List V} (h : SqL K W.F a xs) : SqL K W'.F a xs := h.elim (fun z => .inl (rd_le l z)) .inr

mutual
theorem Rep.le {K : PySem.W.Frag} {W W' : Wd} (l : Le W W') : ∀ {d : D} {v : V}, Rep K W d v → Rep K W' d v
  | .non, _, h => h
  | .bl _, _, h => h
  | .int _, _, h => h
  | .str _, _, h => h
  | .tup _, _, h => by
    obtain ⟨a, xs, e, s, r⟩ := h
    exact ⟨a, xs, e, sqT_le l s, Reps.le l r⟩
  | .lst _, _, h => by
    obtain ⟨a, xs, e, s, r⟩ := h
    exact ⟨a, xs, e, l.f _ _ s, Reps.le l r⟩
  | .dct _ _, _, h => by
    obtain ⟨a, xs, e, s, k, r⟩ := h
    exact ⟨a, xs, e, l.f _ _ s, k, Reps.le l r⟩
  | .ref _, _, h => by
    obtain ⟨a, e, s⟩ := h
    exact ⟨a, e, l.at s⟩
  | .scr _, _, h => by
    obtain ⟨a, e, s⟩ := h
    exact ⟨a, e, sqL_le l s⟩
theorem Reps.le {K : PySem.W.Frag} {W W' : Wd} (l : Le W W') : ∀ {ds : List D} {vs : List V}, Reps K W ds vs → Reps K W' ds vs
  | [], _, h => h
  | _ :: _, _, h => by
    obtain ⟨v, r, e, h1, h2⟩ := h
    exact ⟨v, r, e, Rep.le l h1, Reps.le l h2⟩
end

section
variable {K : PySem.W.Frag} {W : Wd}
theorem Reps.length : ∀ {ds : List D} {vs : List V}, Reps K W ds vs → vs.length = ds.length
  | [], _, h => by
    have e : _ = [] := h
    rw [e]
    rfl
  | d :: ds, _, h => by
    obtain ⟨v, r, rfl, _, h2⟩ := h
    simp only [List.length_cons, Reps.length h2]
theorem Reps.get : ∀ {ds : List D} {vs : List V} {i : Nat} {d : D}, Reps K W ds vs → ds[i]? = some d → ∃ v, vs[i]? = some v ∧ Rep K W d v
  | [], _, _, _, _, e => by simp at e
  | _ :: _, _, 0, d, h, e => by
    obtain ⟨v, r, rfl, h1, _⟩ := h
    simp at e
    subst e
    exact ⟨v, rfl, h1⟩
  | _ :: _, _, i + 1, d, h, e => by
    obtain ⟨v, r, rfl, _, h2⟩ := h
    obtain ⟨u, e1, h3⟩ := Reps.get (i := i) (d := d) h2 (by simpa using e)
    exact ⟨u, by simpa using e1, h3⟩
theorem Reps.append : ∀ {ds es : List D} {vs us : List V}, Reps K W ds vs → Reps K W es us → Reps K W (ds ++ es) (vs ++ us)
  | [], _, _, _, h, h' => by
    have e : _ = [] := h
    rw [e]
    exact h'
  | _ :: _, _, _, _, h, h' => by
    obtain ⟨v, r, rfl, h1, h2⟩ := h
    exact ⟨v, _, rfl, h1, Reps.append h2 h'⟩
theorem Reps.one {d : D} {v : V} (h : Rep K W d v) : Reps K W [d] [v] := ⟨v, [], rfl, h, rfl⟩
theorem Reps.nil : Reps K W [] [] := rfl
theorem Reps.cons {d : D} {v : V} {ds : List D} {vs : List V} (h : Rep K W d v) (h' : Reps K W ds vs) : Reps K W (d :: ds) (v :: vs) := ⟨v, vs, rfl, h, h'⟩
theorem Reps.set : ∀ {ds : List D} {vs : List V} {d : D} {v : V} (i : Nat), Reps K W ds vs → Rep K W d v → Reps K W (ds.set i d) (vs.set i v)
  | [], _, _, _, _, h, _ => by
    have e : _ = [] := h
    rw [e]
    exact rfl
  | _ :: _, _, _, _, 0, h, h' => by
    obtain ⟨v, r, rfl, _, h2⟩ := h
    exact ⟨_, r, rfl, h', h2⟩
  | _ :: _, _, _, _, i + 1, h, h' => by
    obtain ⟨v, r, rfl, h1, h2⟩ := h
    exact ⟨v, _, rfl, h1, Reps.set i h2 h'⟩
theorem Reps.take : ∀ {ds : List D} {vs : List V} (n : Nat), Reps K W ds vs → Reps K W (ds.take n) (vs.take n)
  | [], _, n, h => by
    have e : _ = [] := h
    rw [e]
    simp only [List.take_nil]
    exact rfl
  | _ :: _, _, 0, h => rfl
  | _ :: _, _, n + 1, h => by
    obtain ⟨v, r, rfl, h1, h2⟩ := h
    exact ⟨v, _, rfl, h1, Reps.take n h2⟩
theorem Reps.drop : ∀ {ds : List D} {vs : List V} (n : Nat), Reps K W ds vs → Reps K W (ds.drop n) (vs.drop n)
  | [], _, n, h => by
    have e : _ = [] := h
    rw [e]
    simp only [List.drop_nil]
    exact rfl
  | _ :: _, _, 0, h => h
  | _ :: _, _, n + 1, h => by
    obtain ⟨v, r, rfl, h1, h2⟩ := h
    exact Reps.drop n h2
end

/-- the slots' values -/
def SlR (K : PySem.W.Frag) (W : Wd) : Sl → L2.St → Prop
  | [], σ => σ = []
  | none :: s, σ => ∃ o r, σ = o :: r ∧ SlR K W s r
  | some d :: s, σ => ∃ v r, σ = some v :: r ∧ Rep K W d v ∧ SlR K W s r
section
variable {K : PySem.W.Frag} {W W' : Wd}
theorem SlR.le (l : Le W W') : ∀ {s : Sl} {σ : L2.St}, SlR K W s σ → SlR K W' s σ
  | [], _, h => h
  | none :: _, _, h => by
    obtain ⟨o, r, e, h2⟩ := h
    exact ⟨o, r, e, SlR.le l h2⟩
  | some _ :: _, _, h => by
    obtain ⟨v, r, e, h1, h2⟩ := h
    exact ⟨v, r, e, h1.le l, SlR.le l h2⟩
theorem SlR.get : ∀ {s : Sl} {σ : L2.St} {i : Nat} {d : D}, SlR K W s σ → s[i]? = some (some d) → ∃ v, σ[i]? = some (some v) ∧ Rep K W d v
  | [], _, _, _, _, e => by simp at e
  | none :: _, _, 0, _, _, e => by simp at e
  | none :: _, _, i + 1, d, h, e => by
    obtain ⟨o, r, rfl, h2⟩ := h
    obtain ⟨v, e1, h3⟩ := SlR.get (i := i) (d := d) h2 (by simpa using e)
    exact ⟨v, by simpa using e1, h3⟩
  | some _ :: _, _, 0, d, h, e => by
    obtain ⟨v, r, rfl, h1, _⟩ := h
    simp at e
    subst e
    exact ⟨v, rfl, h1⟩
  | some _ :: _, _, i + 1, d, h, e => by
    obtain ⟨v, r, rfl, _, h2⟩ := h
    obtain ⟨v, e1, h3⟩ := SlR.get (i := i) (d := d) h2 (by simpa using e)
    exact ⟨v, by simpa using e1, h3⟩
theorem SlR.set : ∀ {s : Sl} {σ : L2.St} {d : D} {v : V} (i : Nat), SlR K W s σ → Rep K W d v → SlR K W (s.set i (some d)) (σ.set i (some v))
  | [], _, _, _, _, h, _ => by
    have e : _ = [] := h
    rw [e]
    exact rfl
  | none :: _, _, _, _, 0, h, h' => by
    obtain ⟨o, r, rfl, h2⟩ := h
    exact ⟨_, r, rfl, h', h2⟩
  | some _ :: _, _, _, _, 0, h, h' => by
    obtain ⟨o, r, rfl, _, h2⟩ := h
    exact ⟨_, r, rfl, h', h2⟩
  | none :: _, _, _, _, i + 1, h, h' => by
    obtain ⟨o, r, rfl, h2⟩ := h
    exact ⟨o, _, rfl, SlR.set i h2 h'⟩
  | some _ :: _, _, _, _, i + 1, h, h' => by
    obtain ⟨v, r, rfl, h1, h2⟩ := h
    exact ⟨v, _, rfl, h1, SlR.set i h2 h'⟩
theorem SlR.unset : ∀ {s : Sl} {σ : L2.St} {o : Option V} (i : Nat), SlR K W s σ → SlR K W (s.set i none) (σ.set i o)
  | [], _, _, _, h => by
    have e : _ = [] := h
    rw [e]
    exact rfl
  | none :: _, _, o, 0, h => by
    obtain ⟨_, r, rfl, h2⟩ := h
    exact ⟨_, r, rfl, h2⟩
  | some _ :: _, _, o, 0, h => by
    obtain ⟨_, r, rfl, _, h2⟩ := h
    exact ⟨_, r, rfl, h2⟩
  | none :: _, _, _, i + 1, h => by
    obtain ⟨o, r, rfl, h2⟩ := h
    exact ⟨o, _, rfl, SlR.unset i h2⟩
  | some _ :: _, _, _, i + 1, h => by
    obtain ⟨v, r, rfl, h1, h2⟩ := h
    exact ⟨v, _, rfl, h1, SlR.unset i h2⟩
theorem SlR.of : ∀ {ds : List D} {vs : List V} {n : Nat}, Reps K W ds vs → SlR K W (ds.map some ++ List.replicate n none) (vs.map some ++ List.replicate n none)
  | [], _, n, h => by
    have e : _ = [] := h
    rw [e]
    show SlR K W (List.replicate n none) (List.replicate n none)
    induction n with
    | zero => exact rfl
    | succ n ih => exact ⟨none, _, rfl, ih⟩
  | _ :: _, _, n, h => by
    obtain ⟨v, r, rfl, h1, h2⟩ := h
    exact ⟨v, _, rfl, h1, SlR.of h2⟩
end
def clA (mg : Str → Option Value) (x : Str) : Addr := match mg x with
  | some (.ref a) => a
  | _ => 0
theorem clA_of {mg : Str → Option Value} {x : Str} {a : Addr} (h : mg x = some (.ref a)) : clA mg x = a := by
  unfold clA
  rw [h]

/-- a thing that changes, as it lies there -/
def ObR (K : PySem.W.Frag) (mg : Str → Option Value) (W : Wd) : AO → Option HO → Prop
  | .lst ds, h => ∃ xs, h = some (.lst xs) ∧ Reps K W ds xs
  | .dct kvs, h => ∃ vs, h = some (.dK vs) ∧ vs.map (·.1) = kvs.map (·.1) ∧ Reps K W (kvs.map (·.2)) (vs.map (·.2))
  | .ins c fs, h => ∃ dx vs, h = some (.ins (clA mg c) dx vs) ∧ vs.map (·.1) = fs.map (·.1) ∧ Reps K W (fs.map (·.2)) (vs.map (·.2))
  | .lck kvs, h => ∃ od vs, h = some (.frz od (.dK vs)) ∧ vs.map (·.1) = kvs.map (·.1) ∧ Reps K W (kvs.map (·.2)) (vs.map (·.2))
  | .lam, h => ∃ o φ, h = some (.frz o (.ext φ))
theorem ObR.le {K : PySem.W.Frag} {mg : Str → Option Value} {W W' : Wd} (l : Le W W') : ∀ {o : AO} {h : Option HO}, ObR K mg W o h → ObR K mg W' o h
  | .lst _, _, z => by
    obtain ⟨xs, e, r⟩ := z
    exact ⟨xs, e, r.le l⟩
  | .dct _, _, z => by
    obtain ⟨xs, e, k, r⟩ := z
    exact ⟨xs, e, k, r.le l⟩
  | .ins _ _, _, z => by
    obtain ⟨dx, xs, e, k, r⟩ := z
    exact ⟨dx, xs, e, k, r.le l⟩
  | .lck _, _, z => by
    obtain ⟨dx, xs, e, k, r⟩ := z
    exact ⟨dx, xs, e, k, r.le l⟩
  | .lam, _, z => z
theorem ObR.there {K : PySem.W.Frag} {mg : Str → Option Value} {W : Wd} : ∀ {o : AO} {h : Option HO}, ObR K mg W o h → h ≠ none
  | .lst _, _, z => by
    obtain ⟨xs, e, r⟩ := z
    rw [e]
    exact fun q => nomatch q
  | .dct _, _, z => by
    obtain ⟨xs, e, k, r⟩ := z
    rw [e]
    exact fun q => nomatch q
  | .ins _ _, _, z => by
    obtain ⟨dx, xs, e, k, r⟩ := z
    rw [e]
    exact fun q => nomatch q
  | .lck _, _, z => by
    obtain ⟨dx, xs, e, k, r⟩ := z
    rw [e]
    exact fun q => nomatch q
  | .lam, _, z => by
    obtain ⟨o, φ, e⟩ := z
    rw [e]
    exact fun q => nomatch q
/-- what lies still and what changes are apart, but for what is locked -/
def SepR (W : Wd) (H : Hp) (a : Addr) : AO → Prop
  | .lck _ => W.F a = H a
  | _ => W.F a = none
theorem SepR.no {W : Wd} {H : Hp} {a : Addr} : ∀ {o : AO}, o.isL = false → SepR W H a o → W.F a = none
  | .lst _, _, h => h
  | .dct _, _, h => h
  | .ins _ _, _, h => h
  | .lam, _, h => h
theorem SepR.of {W : Wd} {H : Hp} {a : Addr} : ∀ {o : AO}, o.isL = false → W.F a = none → SepR W H a o
  | .lst _, _, h => h
  | .dct _, _, h => h
  | .ins _ _, _, h => h
  | .lam, _, h => h
theorem SepR.at {W W' : Wd} {H H' : Hp} {a : Addr} (f : W'.F a = W.F a) (g : H' a = H a) : ∀ {o : AO}, SepR W H a o → SepR W' H' a o
  | .lst _, h => f.trans h
  | .dct _, h => f.trans h
  | .ins _ _, h => f.trans h
  | .lam, h => f.trans h
  | .lck _, h => (f.trans (show W.F a = H a from h)).trans g.symm
/-- no locked thing -/
def NL (A : AH) (n : Nat) : Prop := ∀ o, A[n]? = some o → o.isL = false
theorem nl_of {A : AH} {n : Nat} {o : AO} (h : A[n]? = some o) (ho : o.isL = false) : NL A n := fun u e => by
  rw [h] at e
  cases e
  exact ho
/-- the defs that make lambdas: the tables of their code objects are told -/
def lamDefs : List Str := ["law", "_law_works", "_law_are_places"]
def lamQ (x : Str) : Str := x ++ ".<locals>." ++ "<lambda>"
/-- a def's code object, and that one's table, by what the top left -/
def codeA (K : PySem.W.Frag) (mg : Str → Option Value) (x : Str) : Option Addr := match mg x with
  | some (.ref f) => (match K.lookup f with
    | some o => (match o.data with
      | .func fd => (match fd.code with
        | .ref c => some c
        | _ => none)
      | _ => none)
    | none => none)
  | _ => none
def tabA (K : PySem.W.Frag) (mg : Str → Option Value) (x : Str) : Option Addr := match codeA K mg x with
  | some c => (match K.lookup c with
    | some o => (match o.data with
      | .fields vs => (match vs[11]? with
        | some (Value.ref P) => some P
        | _ => none)
      | _ => none)
    | none => none)
  | none => none
structure TabW (W : Wd) (H : Hp) (P : Addr) (q : Str) : Prop where
  at_ : ∃ tb : Array Value, H P = some (.tbl tb) ∧ TriplesOk tb.toList ∧ ∀ (p : Pos) (cv : Value), codeAmong p tb.toList = some cv → ∃ c, cv = .ref c ∧ W.F c = some (LamX.CodeO c q)
  nm : P ∉ W.m
  nF : W.F P = none
theorem TabW.ne {W : Wd} {H : Hp} {P p : Addr} {q : Str} (t : TabW W H P q) (h : H p = none) : P ≠ p := fun z => by
  obtain ⟨tb, e, _⟩ := t.at_
  rw [z, h] at e
  cases e
theorem TabW.keep {W W' : Wd} {H H' : Hp} {P : Addr} {q : Str} (t : TabW W H P q) (f : ∀ c o, W.F c = some o → W'.F c = some o) (e : H' P = H P) (nm : P ∉ W'.m) (nF : W'.F P = none) : TabW W' H' P q := by
  obtain ⟨tb, e1, e2, e3⟩ := t.at_
  refine ⟨⟨tb, e.trans e1, e2, fun p cv h => ?_⟩, nm, nF⟩
  obtain ⟨c, h1, h2⟩ := e3 p cv h
  exact ⟨c, h1, f _ _ h2⟩
structure Ok (K : PySem.W.Frag) (mg : Str → Option Value) (W : Wd) (A : AH) (H : Hp) : Prop where
  frz : ∀ a o, W.F a = some o → H a = some o
  sep : ∀ (n : Nat) (a : Addr) (o : AO), W.m[n]? = some a → A[n]? = some o → SepR W H a o
  nd : W.m.Nodup
  len : W.m.length = A.length
  obj : ∀ (n : Nat) (a : Addr) (o : AO), W.m[n]? = some a → A[n]? = some o → ObR K mg W o (H a)
  tab : ∀ x ∈ lamDefs, ∀ P, tabA K mg x = some P → TabW W H P (lamQ x)

/-- from (W, H) on, to (W', H') -/
structure Ext (W : Wd) (H : Hp) (W' : Wd) (H' : Hp) : Prop where
  le : Le W W'
  out : ∀ a o, H a = some o → (∀ tb, o ≠ .tbl tb) → a ∉ W.m → H' a = some o
  dom : ∀ a, H' a = none → H a = none
  fF : ∀ a o, W'.F a = some o → W.F a = none → H a = none
  fm : ∀ a, a ∈ W'.m → a ∉ W.m → H a = none
theorem Ext.refl (W : Wd) (H : Hp) : Ext W H W H := ⟨Le.refl W, fun _ _ h _ _ => h, fun _ h => h, fun _ _ h h' => (by rw [h'] at h; cases h), fun _ h h' => absurd h h'⟩
theorem Ext.trans {W W1 W2 : Wd} {H H1 H2 : Hp} (a : Ext W H W1 H1) (b : Ext W1 H1 W2 H2) : Ext W H W2 H2 where
  le := a.le.trans b.le
  out := fun x o h t n => b.out x o (a.out x o h t n) t fun q => by
    have z := a.fm x q n
    rw [h] at z
    cases z
  dom := fun x h => a.dom x (b.dom x h)
  fF := fun x o h n => by
    cases e : W1.F x with
    | none => exact a.dom x (b.fF x o h e)
    | some u => exact a.fF x u e n
  fm := fun x h n => by
    by_cases q : x ∈ W1.m
    · exact a.fm x q n
    · exact a.dom x (b.fm x h q)

section
variable {K : PySem.W.Frag} {mg : Str → Option Value} {W : Wd} {A : AH} {H : Hp}
theorem Ok.at (k : Ok K mg W A H) {n : Nat} {a : Addr} (h : W.m[n]? = some a) : ∃ o, A[n]? = some o ∧ ObR K mg W o (H a) := by
  have hl := (List.getElem?_eq_some_iff.mp h).1
  rw [k.len] at hl
  exact ⟨A[n], by simp [hl], k.obj n a _ h (by simp [hl])⟩
theorem Ok.notm (k : Ok K mg W A H) {p : Addr} (h : H p = none) : p ∉ W.m := fun q => by
  obtain ⟨n, e⟩ := List.getElem?_of_mem q
  obtain ⟨o, _, z⟩ := k.at e
  exact z.there h
theorem Ok.notF (k : Ok K mg W A H) {p : Addr} (h : H p = none) : W.F p = none := by
  cases e : W.F p with
  | none => rfl
  | some o =>
    rw [k.frz p o e] at h
    cases h
/-- a new thing that lies still -/
theorem Ok.frozen (k : Ok K mg W A H) {p : Addr} (h : H p = none) (o : HO) : Ok K mg ⟨upd W.F p o, W.m⟩ A (upd H p o) ∧ Ext W H ⟨upd W.F p o, W.m⟩ (upd H p o) := by
  have nm := k.notm h
  have nF := k.notF h
  have l : Le W ⟨upd W.F p o, W.m⟩ := ⟨fun a u e => by
    have n : a ≠ p := fun q => by
      rw [q, nF] at e
      cases e
    show upd W.F p o a = some u
    rw [upd_ne n]
    exact e, [], (List.append_nil _).symm⟩
  refine ⟨⟨fun a u e => ?_, fun n a u e1 e2 => ?_, k.nd, k.len, fun n a u e1 e2 => ?_, fun x hx P hP => (k.tab x hx P hP).keep l.f (upd_ne ((k.tab x hx P hP).ne h)) (k.tab x hx P hP).nm ((upd_ne ((k.tab x hx P hP).ne h)).trans (k.tab x hx P hP).nF)⟩, ⟨l, fun a u e _ _ => ?_, fun a e => ?_, fun a u e n => ?_, fun a h1 h2 => absurd h1 h2⟩⟩
  · have e' : upd W.F p o a = some u := e
    by_cases q : a = p
    · subst q
      rw [upd_same] at e'
      rw [upd_same]
      exact e'
    · rw [upd_ne q] at e'
      rw [upd_ne q]
      exact k.frz a u e'
  · have n' : a ≠ p := fun q => nm (q ▸ List.mem_of_getElem? e1)
    exact (k.sep n a u e1 e2).at (show upd W.F p o a = W.F a from upd_ne n') (upd_ne n')
  · have n' : a ≠ p := fun q => nm (q ▸ List.mem_of_getElem? e1)
    rw [upd_ne n']
    exact (k.obj n a u e1 e2).le l
  · have n : a ≠ p := fun q => by
      rw [q, h] at e
      cases e
    rw [upd_ne n]
    exact e
  · by_cases q : a = p
    · rw [q]
      exact h
    · rw [upd_ne q] at e
      exact e
  · by_cases q : a = p
    · rw [q]
      exact h
    · have e' : upd W.F p o a = some u := e
      rw [upd_ne q, n] at e'
      cases e'
/-- a cell beside, that nobody tells of -/
theorem Ok.aside (k : Ok K mg W A H) {p : Addr} (h : H p = none) (o : HO) : Ok K mg W A (upd H p o) ∧ Ext W H W (upd H p o) := by
  have nm := k.notm h
  have nF := k.notF h
  refine ⟨⟨fun a u e => ?_, fun n a u e1 e2 => (k.sep n a u e1 e2).at rfl (upd_ne (show a ≠ p from fun q => nm (q ▸ List.mem_of_getElem? e1))), k.nd, k.len, fun n a u e1 e2 => ?_, fun x hx P hP => (k.tab x hx P hP).keep (fun _ _ e => e) (upd_ne ((k.tab x hx P hP).ne h)) (k.tab x hx P hP).nm (k.tab x hx P hP).nF⟩, ⟨Le.refl W, fun a u e _ _ => ?_, fun a e => ?_, fun a u e n => ?_, fun a h1 h2 => absurd h1 h2⟩⟩
  · have n : a ≠ p := fun q => by
      rw [q, nF] at e
      cases e
    rw [upd_ne n]
    exact k.frz a u e
  · have n' : a ≠ p := fun q => nm (q ▸ List.mem_of_getElem? e1)
    rw [upd_ne n']
    exact k.obj n a u e1 e2
  · have n : a ≠ p := fun q => by
      rw [q, h] at e
      cases e
    rw [upd_ne n]
    exact e
  · by_cases q : a = p
    · rw [q]
      exact h
    · rw [upd_ne q] at e
      exact e
  · rw [n] at e
    cases e
/-- a new thing that changes; ob tells of it in the world behind -/
theorem Ok.fresh (k : Ok K mg W A H) {p : Addr} (h : H p = none) {o : HO} {u : AO} (ob : ObR K mg ⟨W.F, W.m ++ [p]⟩ u (some o)) (hu : u.isL = false := by rfl) :
    Ok K mg ⟨W.F, W.m ++ [p]⟩ (A ++ [u]) (upd H p o) ∧ Ext W H ⟨W.F, W.m ++ [p]⟩ (upd H p o) := by
  have nm := k.notm h
  have nF := k.notF h
  have l : Le W ⟨W.F, W.m ++ [p]⟩ := ⟨fun _ _ e => e, [p], rfl⟩
  refine ⟨⟨fun a u e => ?_, fun n a u' e1 e2 => ?_, ?_, ?_, fun n a u' e1 e2 => ?_, fun x hx P hP => (k.tab x hx P hP).keep (fun _ _ e => e) (upd_ne ((k.tab x hx P hP).ne h)) (fun z => (List.mem_append.mp z).elim (k.tab x hx P hP).nm fun z => (k.tab x hx P hP).ne h (List.mem_singleton.mp z)) (k.tab x hx P hP).nF⟩, ⟨l, fun a u e _ _ => ?_, fun a e => ?_, fun a u e n => ?_, fun a h1 h2 => ?_⟩⟩
  · have n : a ≠ p := fun q => by
      have e' : W.F a = some u := e
      rw [q, nF] at e'
      cases e'
    rw [upd_ne n]
    exact k.frz a u e
  · have e1' : (W.m ++ [p])[n]? = some a := e1
    by_cases q : n < W.m.length
    · rw [List.getElem?_append_left q] at e1'
      rw [List.getElem?_append_left (by rw [← k.len]; exact q)] at e2
      have n' : a ≠ p := fun z => nm (z ▸ List.mem_of_getElem? e1')
      exact (k.sep n a u' e1' e2).at rfl (upd_ne n')
    · have hn := (List.getElem?_eq_some_iff.mp e1').1
      have en : n = W.m.length := by
        rw [List.length_append] at hn
        simp at hn
        omega
      subst en
      rw [List.getElem?_append_right (Nat.le_refl _)] at e1'
      rw [List.getElem?_append_right (by rw [k.len]; exact Nat.le_refl _)] at e2
      rw [k.len] at e2
      simp at e1' e2
      subst e1' e2
      exact SepR.of hu nF
  · refine List.nodup_append.mpr ⟨k.nd, by simp, fun a ha b hb => ?_⟩
    rw [List.mem_singleton.mp hb]
    exact fun q => nm (q ▸ ha)
  · show (W.m ++ [p]).length = (A ++ [u]).length
    rw [List.length_append, List.length_append, k.len]
    rfl
  · have e1' : (W.m ++ [p])[n]? = some a := e1
    by_cases q : n < W.m.length
    · rw [List.getElem?_append_left q] at e1'
      rw [List.getElem?_append_left (by rw [← k.len]; exact q)] at e2
      have n' : a ≠ p := fun z => nm (z ▸ List.mem_of_getElem? e1')
      rw [upd_ne n']
      exact (k.obj n a u' e1' e2).le l
    · have hn := (List.getElem?_eq_some_iff.mp e1').1
      have en : n = W.m.length := by
        rw [List.length_append] at hn
        simp at hn
        omega
      subst en
      rw [List.getElem?_append_right (Nat.le_refl _)] at e1'
      rw [List.getElem?_append_right (by rw [k.len]; exact Nat.le_refl _)] at e2
      rw [k.len] at e2
      simp at e1' e2
      subst e1' e2
      rw [upd_same]
      exact ob
  · have n : a ≠ p := fun q => by
      rw [q, h] at e
      cases e
    rw [upd_ne n]
    exact e
  · by_cases q : a = p
    · rw [q]
      exact h
    · rw [upd_ne q] at e
      exact e
  · have e' : W.F a = some u := e
    rw [n] at e'
    cases e'
  · rcases List.mem_append.mp h1 with q | q
    · exact absurd q h2
    · rw [List.mem_singleton.mp q]
      exact h
/-- a thing changes -/
theorem Ok.write (k : Ok K mg W A H) {n : Nat} {a : Addr} (ha : W.m[n]? = some a) {o : HO} {u : AO} (ob : ObR K mg W u (some o)) (nl : NL A n := by (first | exact nl_of ‹_› rfl | (apply nl_of <;> first | assumption | rfl))) (hu : u.isL = false := by rfl) :
    Ok K mg W (A.set n u) (upd H a o) ∧ Ext W H W (upd H a o) := by
  obtain ⟨u0, hu0, ob0⟩ := k.at ha
  have nF := (k.sep n a u0 ha hu0).no (nl u0 hu0)
  have hn : n < A.length := (List.getElem?_eq_some_iff.mp hu0).1
  refine ⟨⟨fun b v e => ?_, fun j b v e1 e2 => ?_, k.nd, ?_, fun j b v e1 e2 => ?_, fun x hx P hP => (k.tab x hx P hP).keep (fun _ _ e => e) (upd_ne fun z => (k.tab x hx P hP).nm (z ▸ List.mem_of_getElem? ha)) (k.tab x hx P hP).nm (k.tab x hx P hP).nF⟩, ⟨Le.refl W, fun b v e _ nb => ?_, fun b e => ?_, fun b v e z => ?_, fun b h1 h2 => absurd h1 h2⟩⟩
  · have z : b ≠ a := fun q => by
      rw [q, nF] at e
      cases e
    rw [upd_ne z]
    exact k.frz b v e
  · by_cases q : j = n
    · subst q
      rw [ha] at e1
      cases e1
      rw [List.getElem?_set_self hn] at e2
      cases e2
      exact SepR.of hu nF
    · rw [List.getElem?_set_ne (fun z => q z.symm)] at e2
      have z : b ≠ a := fun z => by
        subst z
        have h1 := (List.getElem?_eq_some_iff.mp e1).1
        have h2 := (List.getElem?_eq_some_iff.mp ha).1
        rcases Nat.lt_or_gt_of_ne q with z | z
        · exact List.pairwise_iff_getElem.mp k.nd j n h1 h2 z ((List.getElem?_eq_some_iff.mp e1).2.trans (List.getElem?_eq_some_iff.mp ha).2.symm)
        · exact List.pairwise_iff_getElem.mp k.nd n j h2 h1 z ((List.getElem?_eq_some_iff.mp ha).2.trans (List.getElem?_eq_some_iff.mp e1).2.symm)
      exact (k.sep j b v e1 e2).at rfl (upd_ne z)
  · rw [List.length_set]
    exact k.len
  · by_cases q : j = n
    · subst q
      rw [ha] at e1
      cases e1
      rw [List.getElem?_set_self hn] at e2
      cases e2
      rw [upd_same]
      exact ob
    · rw [List.getElem?_set_ne (fun z => q z.symm)] at e2
      have z : b ≠ a := fun z => by
        subst z
        have h1 := (List.getElem?_eq_some_iff.mp e1).1
        have h2 := (List.getElem?_eq_some_iff.mp ha).1
        rcases Nat.lt_or_gt_of_ne q with z | z
        · exact List.pairwise_iff_getElem.mp k.nd j n h1 h2 z ((List.getElem?_eq_some_iff.mp e1).2.trans (List.getElem?_eq_some_iff.mp ha).2.symm)
        · exact List.pairwise_iff_getElem.mp k.nd n j h2 h1 z ((List.getElem?_eq_some_iff.mp ha).2.trans (List.getElem?_eq_some_iff.mp e1).2.symm)
      rw [upd_ne z]
      exact k.obj j b v e1 e2
  · have z : b ≠ a := fun q => nb (q ▸ List.mem_of_getElem? ha)
    rw [upd_ne z]
    exact e
  · by_cases q : b = a
    · rw [q, upd_same] at e
      cases e
    · rw [upd_ne q] at e
      exact e
  · rw [z] at e
    cases e
theorem Ok.lookL (k : Ok K mg W A H) {n : Nat} {a : Addr} {ds : List D} (ha : W.m[n]? = some a) (e : A[n]? = some (.lst ds)) : ∃ xs, H a = some (.lst xs) ∧ Reps K W ds xs := k.obj n a _ ha e
theorem Ok.sqT (k : Ok K mg W A H) {a : Addr} {xs : List V} (h : SqT K W.F a xs) : SqT K H a xs := by
  rcases h with (h | ⟨o, h⟩) | h
  · exact .inl (.inl (k.frz _ _ h))
  · exact .inl (.inr ⟨o, k.frz _ _ h⟩)
  · exact .inr h
theorem Ok.sqL (k : Ok K mg W A H) {a : Addr} {xs : List V} (h : SqL K W.F a xs) : SqL K H a xs := by
  rcases h with (h | ⟨o, h⟩) | h
  · exact .inl (.inl (k.frz _ _ h))
  · exact .inl (.inr ⟨o, k.frz _ _ h⟩)
  · exact .inr h
end
end Tg

set_option Elab.async false
set_option linter.all false
set_option maxRecDepth 100000
/-! TgPost: what is wanted behind an expression, a test, arguments, a statement; how readings meet it. -/
namespace Tg
open PySem L2

/-- an exception as it lies behind -/
def XRep (K : PySem.W.Frag) (mg : Str → Option Value) (W : Wd) (x : XV) (c : Value) (d : Option Addr) (H : Hp) : Prop :=
  c = .ref (clA mg x.c) ∧ match x.fs with
    | none => d = none
    | some fs => ∃ dd vs, d = some dd ∧ H dd = some (.xd vs) ∧ vs.map (·.1) = fs.map (·.1) ∧ Reps K W (fs.map (·.2)) (vs.map (·.2)) ∧ W.F dd = none ∧ dd ∉ W.m

def Post {α β : Type} (K : PySem.W.Frag) (mg : Str → Option Value) (rel : Wd → α → β → Prop) (W : Wd) (H : Hp) (E : XK) (Q : β → Hp → Prop) : R α → Prop
  | .ok a A' => ∀ W' H' b, Ext W H W' H' → Ok K mg W' A' H' → rel W' a b → Q b H'
  | .exc x A' => ∀ W' H' c d, Ext W H W' H' → Ok K mg W' A' H' → XRep K mg W' x c d H' → E c d H'
  | .bad => False
section
variable {α β γ δ : Type} {K : PySem.W.Frag} {mg : Str → Option Value} {rel : Wd → α → β → Prop} {rel2 : Wd → γ → δ → Prop} {W W1 : Wd} {H H1 : Hp} {E : XK} {Q Q' : β → Hp → Prop} {A : AH}
theorem Post.ext {r : R α} (e : Ext W H W1 H1) (h : Post K mg rel W H E Q r) : Post K mg rel W1 H1 E Q r := by
  cases r with
  | ok a A' => exact fun W' H' b x k z => h W' H' b (e.trans x) k z
  | exc x A' => exact fun W' H' c d y k z => h W' H' c d (e.trans y) k z
  | bad => exact h
theorem Post.mono {r : R α} (h : Post K mg rel W H E Q r) (f : ∀ b H', Q b H' → Q' b H') : Post K mg rel W H E Q' r := by
  cases r with
  | ok a A' => exact fun W' H' b x k z => f _ _ (h W' H' b x k z)
  | exc x A' => exact h
  | bad => exact h
theorem Post.bind {r : R α} {f : α → AH → R γ} {Q2 : δ → Hp → Prop} (h : Post K mg rel2 W H E Q2 (r.bind f))
    (g : ∀ a A1 b W1 H1, Ext W H W1 H1 → Ok K mg W1 A1 H1 → rel W1 a b → Post K mg rel2 W1 H1 E Q2 (f a A1) → Q b H1) : Post K mg rel W H E Q r := by
  cases r with
  | ok a A' => exact fun W' H' b x k z => g a A' b W' H' x k z (Post.ext x h)
  | exc x A' => exact h
  | bad => exact h
/-- as bind, told at what stood ahead -/
theorem Post.bind0 {r : R α} {f : α → AH → R γ} {Q2 : δ → Hp → Prop} (h : Post K mg rel2 W H E Q2 (r.bind f)) (e0 : Ext W H W1 H1)
    (g : ∀ a A1 b W2 H2, Ext W1 H1 W2 H2 → Ok K mg W2 A1 H2 → rel W2 a b → Post K mg rel2 W H E Q2 (f a A1) → Q b H2) : Post K mg rel W1 H1 E Q r := by
  cases r with
  | ok a A' => exact fun W' H' b x k z => g a A' b W' H' x k z h
  | exc x A' => exact fun W' H' c d y k z => h W' H' c d (e0.trans y) k z
  | bad => exact h
theorem Post.ok_at {a : α} {b : β} (h : Post K mg rel W H E Q (.ok a A)) (k : Ok K mg W A H) (z : rel W a b) : Q b H := h W H b (Ext.refl W H) k z
end

abbrev ME := Sl → AH → R D
abbrev MT := Sl → AH → R Bool
abbrev MA := Sl → AH → R (List D)
abbrev relB : Wd → Bool → Bool → Prop := fun _ a b => b = a
abbrev relO : Wd → Option Int → Option Int → Prop := fun _ a b => b = a

def SimE (K : PySem.W.Frag) (mg : Str → Option Value) (Wx : WX) (t : TE) (m : ME) : Prop :=
  ∀ (W : Wd) (σ : L2.St) (s : Sl) (A : AH) (H : Hp) (Q : VK), Ok K mg W A H → SlR K W s σ → Post K mg (Rep K) W H (fun c d H' => Wx c d σ H') Q (m s A) → t σ H Q
def SimT (K : PySem.W.Frag) (mg : Str → Option Value) (Wx : WX) (t : TT) (m : MT) : Prop :=
  ∀ (W : Wd) (σ : L2.St) (s : Sl) (A : AH) (H : Hp) (Q : Bool → Hp → Prop), Ok K mg W A H → SlR K W s σ → Post K mg relB W H (fun c d H' => Wx c d σ H') Q (m s A) → t σ H Q
def SimA (K : PySem.W.Frag) (mg : Str → Option Value) (Wx : WX) (t : TA) (m : MA) : Prop :=
  ∀ (W : Wd) (σ : L2.St) (s : Sl) (A : AH) (H : Hp) (Q : List V → Hp → Prop), Ok K mg W A H → SlR K W s σ → Post K mg (Reps K) W H (fun c d H' => Wx c d σ H') Q (m s A) → t σ H Q
def SimO (K : PySem.W.Frag) (mg : Str → Option Value) (Wx : WX) (t : TO) (m : Sl → AH → R (Option Int)) : Prop :=
  ∀ (W : Wd) (σ : L2.St) (s : Sl) (A : AH) (H : Hp) (Q : Option Int → Hp → Prop), Ok K mg W A H → SlR K W s σ → Post K mg relO W H (fun c d H' => Wx c d σ H') Q (m s A) → t σ H Q

structure SE (X : Cx) (Wx : WX) (e : Expr) (t : TE) (m : ME) : Prop where
  pe : PE X e t
  sim : SimE X.K X.mg Wx t m
structure ST (X : Cx) (Wx : WX) (e : Expr) (t : TT) (m : MT) : Prop where
  pt : PT X e t
  sim : SimT X.K X.mg Wx t m
structure SW (X : Cx) (Wx : WX) (e : Expr) (t : TT) (m : MT) : Prop where
  pw : PW X e t
  sim : SimT X.K X.mg Wx t m
structure SA (X : Cx) (Wx : WX) (es : List Expr) (t : TA) (m : MA) : Prop where
  pa : PA X es t
  sim : SimA X.K X.mg Wx t m
structure SO (X : Cx) (Wx : WX) (e : Option Expr) (t : TO) (m : Sl → AH → R (Option Int)) : Prop where
  po : PO X e t
  sim : SimO X.K X.mg Wx t m

/-! ### values by themselves -/
/-- an operation on two values, on one, on many -/
def OpS (K : PySem.W.Frag) (mg : Str → Option Value) (r : R2) (f : D → D → AH → R D) : Prop :=
  ∀ (W : Wd) (A : AH) (H : Hp) (E : XK) (Q : VK) (d e : D) (x y : V), Ok K mg W A H → Rep K W d x → Rep K W e y → Post K mg (Rep K) W H E Q (f d e A) → r x y H Q
def UnS (K : PySem.W.Frag) (mg : Str → Option Value) (r : V → Hp → VK → Prop) (f : D → AH → R D) : Prop :=
  ∀ (W : Wd) (A : AH) (H : Hp) (E : XK) (Q : VK) (d : D) (x : V), Ok K mg W A H → Rep K W d x → Post K mg (Rep K) W H E Q (f d A) → r x H Q
def CallS (K : PySem.W.Frag) (mg : Str → Option Value) (r : List V → Hp → VK → Prop) (f : List D → AH → R D) : Prop :=
  ∀ (W : Wd) (A : AH) (H : Hp) (E : XK) (Q : VK) (ds : List D) (xs : List V), Ok K mg W A H → Reps K W ds xs → Post K mg (Rep K) W H E Q (f ds A) → r xs H Q

def mv (i : Nat) : ME := fun s A => match s[i]? with
  | some (some d) => .ok d A
  | _ => .bad
def mc (d : D) : ME := fun _ A => .ok d A
def mBin (f : D → D → AH → R D) (a b : ME) : ME := fun s A => (a s A).bind fun x A1 => (b s A1).bind fun y A2 => f x y A2
def mUn (f : D → AH → R D) (a : ME) : ME := fun s A => (a s A).bind fun x A1 => f x A1
def mNil : MA := fun _ A => .ok [] A
def mCons (a : ME) (r : MA) : MA := fun s A => (a s A).bind fun x A1 => (r s A1).bind fun xs A2 => .ok (x :: xs) A2
def toB : D → AH → R Bool
  | .bl b, A => .ok b A
  | _, _ => .bad
def mTb (m : ME) : MT := fun s A => (m s A).bind toB
def mIf (c : MT) (a b : ME) : ME := fun s A => (c s A).bind fun k A1 => if k then a s A1 else b s A1
def mAnd (a b : MT) : MT := fun s A => (a s A).bind fun k A1 => if k then b s A1 else .ok false A1
def mOr (a b : MT) : MT := fun s A => (a s A).bind fun k A1 => if k then .ok true A1 else b s A1
def mNot (a : MT) : MT := fun s A => (a s A).bind fun k A1 => .ok (!k) A1

section
variable {X : Cx} {Wx : WX} {a b c e : Expr} {es : List Expr} {ta tb tc te : TE} {ma mb me : ME} {pos : Pos}
theorem sv (i : Nat) {x : Str} (hN : X.N[i]? = some x := by rfl) (hv : Vis X.env.scope x := by first | exact Or.inl rfl | exact Or.inr (Or.inl rfl) | exact Or.inr (Or.inr rfl)) (hd : (x == ("__debug__" : Str)) = false := by decide)
    (hcd : (x == ("__classdict__" : Str)) = false := by decide) : SE X Wx (.Name x pos) (tVar i) (mv i) := by
  refine ⟨pe_var hN hv hd hcd, fun W σ s A H Q k sr h => ?_⟩
  unfold mv at h
  split at h
  · rename_i d e
    obtain ⟨v, e1, r⟩ := sr.get e
    exact ⟨v, e1, h.ok_at k r⟩
  · exact h.elim
theorem sc {v : V} {d : D} (hp : PE X e (tC v)) (r : ∀ W, Rep X.K W d v) : SE X Wx e (tC v) (mc d) :=
  ⟨hp, fun W σ s A H Q k sr h => h.ok_at k (r W)⟩
theorem sint {i : Int} {j : Nat} : SE X Wx (.Constant (.int i) j pos) (tC (.int i)) (mc (.int i)) := sc pe_int fun _ => rfl
theorem sbl {x : Bool} {j : Nat} : SE X Wx (.Constant (.bool x) j pos) (tC (.bl x)) (mc (.bl x)) := sc pe_bl fun _ => rfl
theorem snon {j : Nat} : SE X Wx (.Constant .none j pos) (tC .non) (mc .non) := sc pe_non fun _ => rfl
theorem sstr {x : Str} {j : Nat} : SE X Wx (.Constant (.str x) j pos) (tC (.str x)) (mc (.str x)) := sc pe_str fun _ => rfl

theorem sim_bin {r : R2} {f : D → D → AH → R D} {K : PySem.W.Frag} {mg : Str → Option Value} (hs : OpS K mg r f) (ha : SimE K mg Wx ta ma) (hb : SimE K mg Wx tb mb) : SimE K mg Wx (tOp r ta tb) (mBin f ma mb) :=
  fun W σ s A H Q k sr h => ha W σ s A H _ k sr (h.bind fun x A1 v W1 H1 e1 k1 r1 h1 =>
    hb W1 σ s A1 H1 _ k1 (sr.le e1.le) (h1.bind fun y A2 u W2 H2 e2 k2 r2 h2 => hs W2 A2 H2 _ Q x y v u k2 (r1.le e2.le) r2 h2))
theorem sop {op : Operator} {r : R2} {f : D → D → AH → R D} (ho : OpR X (binaryOp op) r) (hs : OpS X.K X.mg r f) (ha : SE X Wx a ta ma) (hb : SE X Wx b tb mb) : SE X Wx (.BinOp a op b pos) (tOp r ta tb) (mBin f ma mb) :=
  ⟨pe_op ho ha.pe hb.pe, sim_bin hs ha.sim hb.sim⟩
theorem scmp {op : CmpOp} {r : R2} {f : D → D → AH → R D} (ho : OpR X (compareOp op) r) (hs : OpS X.K X.mg r f) (ha : SE X Wx a ta ma) (hb : SE X Wx b tb mb) (hm : behindInMarks op b = false) : SE X Wx (.Compare a [op] [b] pos) (tOp r ta tb) (mBin f ma mb) :=
  ⟨pe_cmpR ho ha.pe hb.pe hm, sim_bin hs ha.sim hb.sim⟩
theorem sun {op : UnaryOp} {r : V → Hp → VK → Prop} {f : D → AH → R D} (ho : UnR X (unaryOp op) r) (hs : UnS X.K X.mg r f) (ha : SE X Wx a ta ma) : SE X Wx (.UnaryOp op a pos) (tUn r ta) (mUn f ma) :=
  ⟨pe_un ho ha.pe, fun W σ s A H Q k sr h => ha.sim W σ s A H _ k sr (h.bind fun x A1 v W1 H1 e1 k1 r1 h1 => hs W1 A1 H1 _ Q x v k1 r1 h1)⟩

theorem sim_test (ha : SimE X.K X.mg Wx ta ma) : SimT X.K X.mg Wx (tTest ta) (mTb ma) := fun W σ s A H Q k sr h =>
  ha W σ s A H _ k sr (h.bind fun x A1 v W1 H1 e1 k1 r1 h1 => by
    cases x with
    | bl y => exact ⟨y, r1, h1.ok_at k1 rfl⟩
    | _ => exact h1.elim)
theorem tcmp {op : CmpOp} {r : R2} {f : D → D → AH → R D} (ho : OpR X (compareOp op) r) (hs : OpS X.K X.mg r f) (ha : SE X Wx a ta ma) (hb : SE X Wx b tb mb) (hm : behindInMarks op b = false) : ST X Wx (.Compare a [op] [b] pos) (tTest (tOp r ta tb)) (mTb (mBin f ma mb)) :=
  ⟨pt_cmpR ho ha.pe hb.pe hm, sim_test (sim_bin hs ha.sim hb.sim)⟩
/-- a value that is True or False, as a test -/
theorem tval (ha : SE X Wx a ta ma) (he : ∀ whole, isTrue a X.env whole = (do let v ← whole; standAt a.pos; holding [v] (truthy v)) := by intro _; rfl) : ST X Wx a (tB ta) (mTb ma) :=
  ⟨pt_val ha.pe he, fun W σ s A H Q k sr h => ha.sim W σ s A H _ k sr (h.bind fun x A1 v W1 H1 e1 k1 r1 h1 => by
    cases x with
    | bl y => exact ⟨y, r1, h1.ok_at k1 rfl⟩
    | _ => exact h1.elim)⟩
def mChain (f g : D → D → AH → R D) (a b c : ME) : ME := fun s A => (a s A).bind fun x A1 => (b s A1).bind fun y A2 => (f x y A2).bind fun z A3 => (toB z A3).bind fun k A4 =>
  if k then (c s A4).bind fun w A5 => g y w A5 else .ok (.bl false) A4
theorem sim_chain {r r' : R2} {f g : D → D → AH → R D} {K : PySem.W.Frag} {mg : Str → Option Value} {mc' : ME} (hs : OpS K mg r f) (hs' : OpS K mg r' g) (ha : SimE K mg Wx ta ma) (hb : SimE K mg Wx tb mb) (hc : SimE K mg Wx tc mc') :
    SimE K mg Wx (tChain r r' ta tb tc) (mChain f g ma mb mc') :=
  fun W σ s A H Q k sr h => ha W σ s A H _ k sr (h.bind fun x A1 v W1 H1 e1 k1 r1 h1 =>
    hb W1 σ s A1 H1 _ k1 (sr.le e1.le) (h1.bind fun y A2 u W2 H2 e2 k2 r2 h2 => hs W2 A2 H2 _ _ x y v u k2 (r1.le e2.le) r2 (h2.bind fun z A3 w W3 H3 e3 k3 r3 h3 => by
      cases z with
      | bl y' =>
        refine ⟨y', r3, ?_⟩
        have h3' : Post K mg (Rep K) W3 H3 (fun c d H' => Wx c d σ H') Q (if y' then (mc' s A3).bind fun w A5 => g y w A5 else .ok (.bl false) A3) := h3
        cases y' with
        | true =>
          rw [if_pos rfl]
          rw [if_pos rfl] at h3'
          exact hc W3 σ s A3 H3 _ k3 ((sr.le e1.le).le (e2.trans e3).le) (h3'.bind fun q A4 w' W4 H4 e4 k4 r4 h4 => hs' W4 A4 H4 _ Q y q u w' k4 (r2.le (e3.trans e4).le) r4 h4)
        | false =>
          rw [if_neg Bool.false_ne_true]
          rw [if_neg Bool.false_ne_true] at h3'
          exact h3'.ok_at k3 rfl
      | _ => exact h3.elim)))
theorem schain {op op' : CmpOp} {r r' : R2} {f g : D → D → AH → R D} {mc' : ME} (ho : OpR X (compareOp op) r) (ho' : OpR X (compareOp op') r') (hs : OpS X.K X.mg r f) (hs' : OpS X.K X.mg r' g) (ha : SE X Wx a ta ma) (hb : SE X Wx b tb mb) (hc : SE X Wx c tc mc') (hm : lastMarks [op, op'] [b, c] = false := by rfl) :
    SE X Wx (.Compare a [op, op'] [b, c] pos) (tChain r r' ta tb tc) (mChain f g ma mb mc') := ⟨pe_chain ho ho' ha.pe hb.pe hc.pe hm, sim_chain hs hs' ha.sim hb.sim hc.sim⟩
variable {t u : TT} {m n : MT}
theorem tnot (h : ST X Wx a t m) : ST X Wx (.UnaryOp .Not a pos) (tNot t) (mNot m) :=
  ⟨pt_not h.pt, fun W σ s A H Q k sr z => h.sim W σ s A H _ k sr (z.bind fun x A1 v W1 H1 e1 k1 r1 h1 => by
    cases r1
    exact h1.ok_at k1 rfl)⟩
theorem sim_and {K : PySem.W.Frag} {mg : Str → Option Value} (h : SimT K mg Wx t m) (h' : SimT K mg Wx u n) : SimT K mg Wx (tAnd t u) (mAnd m n) := fun W σ s A H Q k sr z => h W σ s A H _ k sr (z.bind fun x A1 v W1 H1 e1 k1 r1 h1 => by
  cases r1
  cases x with
  | true => exact h' W1 σ s A1 H1 _ k1 (sr.le e1.le) h1
  | false => exact h1.ok_at k1 rfl)
theorem sim_or {K : PySem.W.Frag} {mg : Str → Option Value} (h : SimT K mg Wx t m) (h' : SimT K mg Wx u n) : SimT K mg Wx (tOr t u) (mOr m n) := fun W σ s A H Q k sr z => h W σ s A H _ k sr (z.bind fun x A1 v W1 H1 e1 k1 r1 h1 => by
  cases r1
  cases x with
  | true => exact h1.ok_at k1 rfl
  | false => exact h' W1 σ s A1 H1 _ k1 (sr.le e1.le) h1)
theorem wand1 (h : ST X Wx a t m) : SW X Wx (.BoolOp .And [a] pos) t m := ⟨pw_and1 h.pt, h.sim⟩
theorem wor1 (h : ST X Wx a t m) : SW X Wx (.BoolOp .Or [a] pos) t m := ⟨pw_or1 h.pt, h.sim⟩
theorem wand (h : ST X Wx a t m) (h' : SW X Wx (.BoolOp .And (b :: es) pos) u n) : SW X Wx (.BoolOp .And (a :: b :: es) pos) (tAnd t u) (mAnd m n) := ⟨pw_and h.pt h'.pw, sim_and h.sim h'.sim⟩
theorem wor (h : ST X Wx a t m) (h' : SW X Wx (.BoolOp .Or (b :: es) pos) u n) : SW X Wx (.BoolOp .Or (a :: b :: es) pos) (tOr t u) (mOr m n) := ⟨pw_or h.pt h'.pw, sim_or h.sim h'.sim⟩
theorem twd (h : SW X Wx e t m) : ST X Wx e t m := ⟨h.pw.pt, h.sim⟩
/-- and, or, not as values: all but the last True or False -/
def mAndV (a b : ME) : ME := fun s A => (a s A).bind fun x A1 => (toB x A1).bind fun k A2 => if k then b s A2 else .ok (.bl false) A2
def mOrV (a b : ME) : ME := fun s A => (a s A).bind fun x A1 => (toB x A1).bind fun k A2 => if k then .ok (.bl true) A2 else b s A2
def mNotV (a : ME) : ME := fun s A => (a s A).bind fun x A1 => (toB x A1).bind fun k A2 => .ok (.bl (!k)) A2
theorem sone {op : BoolOp} (h : SE X Wx a ta ma) : SE X Wx (.BoolOp op [a] pos) ta ma := ⟨pe_one h.pe, h.sim⟩
theorem sand (h : SE X Wx a ta ma) (h' : SE X Wx (.BoolOp .And (b :: es) pos) tb mb) : SE X Wx (.BoolOp .And (a :: b :: es) pos) (tAndV ta tb) (mAndV ma mb) :=
  ⟨pe_and h.pe h'.pe, fun W σ s A H Q k sr z => h.sim W σ s A H _ k sr (z.bind fun x A1 v W1 H1 e1 k1 r1 h1 => by
    cases x with
    | bl y =>
      refine ⟨y, r1, ?_⟩
      cases y with
      | true => exact h'.sim W1 σ s A1 H1 _ k1 (sr.le e1.le) h1
      | false => exact h1.ok_at k1 rfl
    | _ => exact h1.elim)⟩
theorem snot (h : SE X Wx a ta ma) : SE X Wx (.UnaryOp .Not a pos) (tNotV ta) (mNotV ma) :=
  ⟨pe_not h.pe, fun W σ s A H Q k sr z => h.sim W σ s A H _ k sr (z.bind fun x A1 v W1 H1 e1 k1 r1 h1 => by
    cases x with
    | bl y => exact ⟨y, r1, h1.ok_at k1 rfl⟩
    | _ => exact h1.elim)⟩
theorem sif {mc' : MT} {tt : TT} (h : ST X Wx c tt mc') (ha : SE X Wx a ta ma) (hb : SE X Wx b tb mb) : SE X Wx (.IfExp c a b pos) (tIf tt ta tb) (mIf mc' ma mb) :=
  ⟨pe_ifExp h.pt ha.pe hb.pe, fun W σ s A H Q k sr z => h.sim W σ s A H _ k sr (z.bind fun x A1 v W1 H1 e1 k1 r1 h1 => by
    cases r1
    cases x with
    | true => exact ha.sim W1 σ s A1 H1 _ k1 (sr.le e1.le) h1
    | false => exact hb.sim W1 σ s A1 H1 _ k1 (sr.le e1.le) h1)⟩

variable {tr : TA} {mr : MA}
theorem anil : SA X Wx [] tNil mNil := ⟨pa_nil, fun W σ s A H Q k sr h => h.ok_at k rfl⟩
theorem acons (ha : SE X Wx e te me) (hr : SA X Wx es tr mr) (hs : starEach (e :: es) X.env = (false, eval e X.env) :: starEach es X.env := by rfl) : SA X Wx (e :: es) (tCons te tr) (mCons me mr) :=
  ⟨pa_cons ha.pe hr.pa hs, fun W σ s A H Q k sr h => ha.sim W σ s A H _ k sr (h.bind fun x A1 v W1 H1 e1 k1 r1 h1 =>
    hr.sim W1 σ s A1 H1 _ k1 (sr.le e1.le) (h1.bind fun xs A2 vs W2 H2 e2 k2 r2 h2 => h2.ok_at k2 (Reps.cons (r1.le e2.le) r2)))⟩
end
end Tg

set_option Elab.async false
set_option linter.all false
set_option maxRecDepth 100000
/-! TgOps: operators by values. -/
namespace Tg
open PySem L2

/-! ### lists, tuples by values -/
/-- a list that can be added to another: no script -/
def lstL (A : AH) : D → Option (List D)
  | .lst ds => some ds
  | .ref n => match A[n]? with
    | some (.lst ds) => some ds
    | _ => none
  | _ => none
/-- any list -/
def seqL (A : AH) : D → Option (List D)
  | .lst ds => some ds
  | .ref n => match A[n]? with
    | some (.lst ds) => some ds
    | _ => none
  | .scr ns => some (ns.map .int)
  | _ => none
section
variable {K : PySem.W.Frag} {mg : Str → Option Value} {W : Wd} {A : AH} {H : Hp}
theorem reps_ints (W : Wd) : ∀ ns : List Int, Reps K W (ns.map .int) (ns.map V.int)
  | [] => rfl
  | n :: ns => ⟨_, _, rfl, rfl, reps_ints W ns⟩
theorem lstL_at (k : Ok K mg W A H) {d : D} {v : V} (r : Rep K W d v) {ds : List D} (e : lstL A d = some ds) : ∃ a xs, v = .ref a ∧ H a = some (.lst xs) ∧ Reps K W ds xs := by
  cases d with
  | lst es =>
    obtain ⟨a, xs, ev, ha, rr⟩ := r
    cases (show some es = some ds from e)
    exact ⟨a, xs, ev, k.frz _ _ ha, rr⟩
  | ref n =>
    obtain ⟨a, ev, ha⟩ := r
    unfold lstL at e
    dsimp only at e
    split at e
    · rename_i es q
      cases e
      obtain ⟨xs, hx, rr⟩ := k.lookL ha q
      exact ⟨a, xs, ev, hx, rr⟩
    · cases e
  | _ => cases (show none = some ds from e)
theorem seqL_at (k : Ok K mg W A H) {d : D} {v : V} (r : Rep K W d v) {ds : List D} (e : seqL A d = some ds) : ∃ a xs, v = .ref a ∧ SqL K H a xs ∧ Reps K W ds xs := by
  cases d with
  | lst es =>
    obtain ⟨a, xs, ev, ha, rr⟩ := r
    cases (show some es = some ds from e)
    exact ⟨a, xs, ev, .of (k.frz _ _ ha), rr⟩
  | ref n =>
    obtain ⟨a, ev, ha⟩ := r
    unfold seqL at e
    dsimp only at e
    split at e
    · rename_i es q
      cases e
      obtain ⟨xs, hx, rr⟩ := k.lookL ha q
      exact ⟨a, xs, ev, .of hx, rr⟩
    · cases e
  | scr ns =>
    obtain ⟨a, ev, hs⟩ := r
    cases (show some (ns.map D.int) = some ds from e)
    exact ⟨a, _, ev, k.sqL hs, reps_ints W ns⟩
  | _ => cases (show none = some ds from e)
theorem tup_at (k : Ok K mg W A H) {ds : List D} {v : V} (r : Rep K W (.tup ds) v) : ∃ a xs, v = .ref a ∧ SqT K H a xs ∧ Reps K W ds xs := by
  obtain ⟨a, xs, ev, ha, rr⟩ := r
  exact ⟨a, xs, ev, k.sqT ha, rr⟩
variable {E : XK} {Q : VK} {ds : List D} {xs : List V} {p : Addr}
/-- a new list that lies still; a new tuple; a new list that will change -/
theorem post_lst (k : Ok K mg W A H) (h : Post K mg (Rep K) W H E Q (.ok (.lst ds) A)) (r : Reps K W ds xs) (hp : H p = none) : Q (.ref p) (upd H p (.lst xs)) := by
  obtain ⟨k1, e1⟩ := k.frozen hp (.lst xs)
  exact h _ _ _ e1 k1 ⟨p, xs, rfl, upd_same, r.le e1.le⟩
theorem post_tup (k : Ok K mg W A H) (h : Post K mg (Rep K) W H E Q (.ok (.tup ds) A)) (r : Reps K W ds xs) (hp : H p = none) : Q (.ref p) (upd H p (.tup xs)) := by
  obtain ⟨k1, e1⟩ := k.frozen hp (.tup xs)
  exact h _ _ _ e1 k1 ⟨p, xs, rfl, .inl (.inl upd_same), r.le e1.le⟩
theorem post_new (k : Ok K mg W A H) (h : Post K mg (Rep K) W H E Q (.ok (.ref A.length) (A ++ [.lst ds]))) (r : Reps K W ds xs) (hp : H p = none) : Q (.ref p) (upd H p (.lst xs)) := by
  have l : Le W ⟨W.F, W.m ++ [p]⟩ := ⟨fun _ _ e => e, [p], rfl⟩
  obtain ⟨k1, e1⟩ := k.fresh hp (o := .lst xs) (u := .lst ds) ⟨xs, rfl, r.le l⟩
  refine h _ _ _ e1 k1 ⟨p, rfl, ?_⟩
  rw [← k.len]
  exact List.getElem?_concat_length
end

/-! ### + - * // % ** -/
def rAddU (K : PySem.W.Frag) : R2 := fun x y H Q => (rI0 (fun i j => .int (i + j)) x y H Q ∨ (∃ i j, x = .str i ∧ y = .str j ∧ i.length + j.length ≤ sizeLine ∧ Q (.str (i ++ j)) H)) ∨ rCatA K x y H Q ∨ rCat x y H Q
theorem oAdd {X : Cx} : OpR X (binaryOp .Add) (rAddU X.K) := (op_add.or op_add_str).or (op_catA.or op_cat)
def addD : D → D → AH → R D
  | .int i, .int j, A => .ok (.int (i + j)) A
  | .str i, .str j, A => if i.length + j.length ≤ 16777216 then .ok (.str (i ++ j)) A else .bad
  | .tup ds, .tup es, A => if ds.length + es.length ≤ 16777216 then .ok (.tup (ds ++ es)) A else .bad
  | x, y, A => match lstL A x, lstL A y with
    | some ds, some es => if ds.length + es.length ≤ 16777216 then .ok (.lst (ds ++ es)) A else .bad
    | _, _ => .bad
/-- + of lists, the new one will change -/
def addN : D → D → AH → R D := fun x y A => match lstL A x, lstL A y with
  | some ds, some es => if ds.length + es.length ≤ 16777216 then .ok (.ref A.length) (A ++ [.lst (ds ++ es)]) else .bad
  | _, _ => .bad
theorem sz_of {n : Nat} (h : n ≤ 16777216) : n ≤ sizeLine := by
  rw [sizeLine_eq]
  exact h
section
variable {K : PySem.W.Frag} {mg : Str → Option Value}
theorem oAddS : OpS K mg (rAddU K) addD := fun W A H E Q d e x y k rx ry h => by
  unfold addD at h
  split at h
  · exact .inl (.inl ⟨_, _, rx, ry, h.ok_at k rfl⟩)
  · split at h
    · rename_i z
      exact .inl (.inr ⟨_, _, rx, ry, sz_of z, h.ok_at k rfl⟩)
    · exact h.elim
  · rename_i ds es
    split at h
    · rename_i z
      obtain ⟨a, xs, ex, sx, r1⟩ := tup_at k rx
      obtain ⟨b, ys, ey, sy, r2⟩ := tup_at k ry
      refine .inr (.inl ⟨a, b, xs, ys, ex, ey, sx, sy, ?_, fun hx => ?_, fun hx hy => ?_, fun hx hy p hp => post_tup k h (r1.append r2) hp⟩)
      · rw [r1.length, r2.length]
        exact sz_of z
      · subst hx
        have z1 := r1.length
        have z2 : ds = [] := List.length_eq_zero_iff.mp z1.symm
        subst z2
        rw [← ey]
        exact h.ok_at k ry
      · subst hy
        have z1 := r2.length
        have z2 : es = [] := List.length_eq_zero_iff.mp z1.symm
        subst z2
        rw [List.append_nil] at h
        rw [← ex]
        exact h.ok_at k rx
    · exact h.elim
  · split at h
    · rename_i ds es e1 e2
      split at h
      · rename_i z
        obtain ⟨a, xs, ex, hx, r1⟩ := lstL_at k rx e1
        obtain ⟨b, ys, ey, hy, r2⟩ := lstL_at k ry e2
        refine .inr (.inr ⟨a, b, xs, ys, ex, ey, hx, hy, ?_, fun p hp => post_lst k h (r1.append r2) hp⟩)
        rw [r1.length, r2.length]
        exact sz_of z
      · exact h.elim
    · exact h.elim
theorem oAddNS : OpS K mg (rAddU K) addN := fun W A H E Q d e x y k rx ry h => by
  unfold addN at h
  split at h
  · rename_i ds es e1 e2
    split at h
    · rename_i z
      obtain ⟨a, xs, ex, hx, r1⟩ := lstL_at k rx e1
      obtain ⟨b, ys, ey, hy, r2⟩ := lstL_at k ry e2
      refine .inr (.inr ⟨a, b, xs, ys, ex, ey, hx, hy, ?_, fun p hp => post_new k h (r1.append r2) hp⟩)
      rw [r1.length, r2.length]
      exact sz_of z
    · exact h.elim
  · exact h.elim
end
def subD : D → D → AH → R D
  | .int i, .int j, A => .ok (.int (i - j)) A
  | _, _, _ => .bad
theorem oSubS {K : PySem.W.Frag} {mg : Str → Option Value} : OpS K mg (rI0 fun i j => .int (i - j)) subD := fun W A H E Q d e x y k rx ry h => by
  unfold subD at h
  split at h
  · exact ⟨_, _, rx, ry, h.ok_at k rfl⟩
  · exact h.elim
def rMulU (K : PySem.W.Frag) : R2 := fun x y H Q => rI CMul (fun i j => .int (i * j)) x y H Q ∨ rRep x y H Q ∨ rRepT K x y H Q
theorem oMul {X : Cx} : OpR X (binaryOp .Mult) (rMulU X.K) := op_mul.or (op_rep.or op_repT)
def repD (k : Nat) (ds : List D) : List D := (List.replicate k ds).flatten
def mulD : D → D → AH → R D
  | .int i, .int j, A => if (-(2 ^ 64) < i ∧ i < 2 ^ 64) ∨ (-(2 ^ 64) < j ∧ j < 2 ^ 64) then .ok (.int (i * j)) A else .bad
  | .tup ds, .int k, A => if ds ≠ [] ∧ 2 ≤ k ∧ k ≤ 1000 ∧ ds.length ≤ 1000 then .ok (.tup (repD k.toNat ds)) A else .bad
  | x, .int k, A => match lstL A x with
    | some ds => if -(2 ^ 63) ≤ k ∧ k < 2 ^ 63 ∧ ds.length * k.toNat ≤ 16777216 then .ok (.lst (repD k.toNat ds)) A else .bad
    | none => .bad
  | _, _, _ => .bad
section
variable {K : PySem.W.Frag} {mg : Str → Option Value}
theorem Reps.rep {W : Wd} {ds : List D} {xs : List V} (r : Reps K W ds xs) : ∀ n : Nat, Reps K W (repD n ds) (List.replicate n xs).flatten
  | 0 => rfl
  | n + 1 => by
    show Reps K W (List.replicate (n + 1) ds).flatten _
    rw [List.replicate_succ, List.replicate_succ, List.flatten_cons, List.flatten_cons]
    exact r.append (Reps.rep r n)
theorem oMulS : OpS K mg (rMulU K) mulD := fun W A H E Q d e x y k rx ry h => by
  unfold mulD at h
  split at h
  · split at h
    · rename_i z
      exact .inl ⟨_, _, rx, ry, z, h.ok_at k rfl⟩
    · exact h.elim
  · split at h
    · rename_i z
      obtain ⟨z1, z2, z3, z4⟩ := z
      obtain ⟨a, xs, ex, sx, r1⟩ := tup_at k rx
      refine .inr (.inr ⟨a, _, xs, ex, ry, sx, fun q => z1 ?_, z2, z3, ?_, fun p hp => post_tup k h (r1.rep _) hp⟩)
      · subst q
        exact List.length_eq_zero_iff.mp r1.length.symm
      · rw [r1.length]
        exact z4
    · exact h.elim
  · split at h
    · rename_i ds e1
      split at h
      · rename_i z
        obtain ⟨a, xs, ex, sx, r1⟩ := lstL_at k rx e1
        refine .inr (.inl ⟨a, _, xs, ex, ry, sx, z.1, z.2.1, ?_, fun p hp => post_lst k h (r1.rep _) hp⟩)
        rw [r1.length]
        exact sz_of z.2.2
      · exact h.elim
    · exact h.elim
  · exact h.elim
end
def fdivD : D → D → AH → R D
  | .int i, .int j, A => if 0 < j ∧ j < 1073741824 then .ok (.int (i / j)) A else .bad
  | _, _, _ => .bad
def modD : D → D → AH → R D
  | .int i, .int j, A => if 0 < j then .ok (.int (i % j)) A else .bad
  | _, _, _ => .bad
def powD : D → D → AH → R D
  | .int i, .int j, A => if 0 ≤ j ∧ j ≤ 1000000 ∧ i.natAbs < 2 ^ 64 then .ok (.int (i ^ j.toNat)) A else .bad
  | _, _, _ => .bad
def negD : D → AH → R D
  | .int i, A => .ok (.int (-i)) A
  | _, _ => .bad
section
variable {K : PySem.W.Frag} {mg : Str → Option Value}
theorem oFdivS : OpS K mg (rI CDiv fun i j => .int (i / j)) fdivD := fun W A H E Q d e x y k rx ry h => by
  unfold fdivD at h
  split at h
  · split at h
    · rename_i z
      exact ⟨_, _, rx, ry, z, h.ok_at k rfl⟩
    · exact h.elim
  · exact h.elim
theorem oModS : OpS K mg (rI (fun _ j => 0 < j) fun i j => .int (i % j)) modD := fun W A H E Q d e x y k rx ry h => by
  unfold modD at h
  split at h
  · split at h
    · rename_i z
      exact ⟨_, _, rx, ry, z, h.ok_at k rfl⟩
    · exact h.elim
  · exact h.elim
theorem oPowS : OpS K mg (rI CPow fun i j => .int (i ^ j.toNat)) powD := fun W A H E Q d e x y k rx ry h => by
  unfold powD at h
  split at h
  · split at h
    · rename_i z
      exact ⟨_, _, rx, ry, z, h.ok_at k rfl⟩
    · exact h.elim
  · exact h.elim
theorem oNegS : UnS K mg (rU fun i => .int (-i)) negD := fun W A H E Q d x k rx h => by
  unfold negD at h
  split at h
  · exact ⟨_, rx, h.ok_at k rfl⟩
  · exact h.elim
end

/-! ### < <= > >= of ints, is None -/
def ltD : D → D → AH → R D
  | .int i, .int j, A => .ok (.bl (decide (i < j))) A
  | _, _, _ => .bad
def leD : D → D → AH → R D
  | .int i, .int j, A => .ok (.bl (decide (i ≤ j))) A
  | _, _, _ => .bad
def gtD : D → D → AH → R D
  | .int i, .int j, A => .ok (.bl (decide (j < i))) A
  | _, _, _ => .bad
def geD : D → D → AH → R D
  | .int i, .int j, A => .ok (.bl (decide (j ≤ i))) A
  | _, _, _ => .bad
def isNon : D → Bool
  | .non => true
  | _ => false
def isD : D → D → AH → R D
  | x, .non, A => .ok (.bl (isNon x)) A
  | _, _, _ => .bad
def isntD : D → D → AH → R D
  | x, .non, A => .ok (.bl (!isNon x)) A
  | _, _, _ => .bad
section
variable {K : PySem.W.Frag} {mg : Str → Option Value}
theorem oLtS : OpS K mg (rI0 fun i j => .bl (decide (i < j))) ltD := fun W A H E Q d e x y k rx ry h => by
  unfold ltD at h
  split at h
  · exact ⟨_, _, rx, ry, h.ok_at k rfl⟩
  · exact h.elim
theorem oLeS : OpS K mg (rI0 fun i j => .bl (decide (i ≤ j))) leD := fun W A H E Q d e x y k rx ry h => by
  unfold leD at h
  split at h
  · exact ⟨_, _, rx, ry, h.ok_at k rfl⟩
  · exact h.elim
theorem oGtS : OpS K mg (rI0 fun i j => .bl (decide (j < i))) gtD := fun W A H E Q d e x y k rx ry h => by
  unfold gtD at h
  split at h
  · exact ⟨_, _, rx, ry, h.ok_at k rfl⟩
  · exact h.elim
theorem oGeS : OpS K mg (rI0 fun i j => .bl (decide (j ≤ i))) geD := fun W A H E Q d e x y k rx ry h => by
  unfold geD at h
  split at h
  · exact ⟨_, _, rx, ry, h.ok_at k rfl⟩
  · exact h.elim
theorem rep_non {W : Wd} {d : D} {x : V} (r : Rep K W d x) : decide (x = .non) = isNon d := by
  cases d with
  | non =>
    cases (show x = .non from r)
    rfl
  | bl b =>
    cases (show x = .bl b from r)
    rfl
  | int b =>
    cases (show x = .int b from r)
    rfl
  | str b =>
    cases (show x = .str b from r)
    rfl
  | tup ds =>
    obtain ⟨a, xs, rfl, _⟩ := r
    rfl
  | lst ds =>
    obtain ⟨a, xs, rfl, _⟩ := r
    rfl
  | dct ks ds =>
    obtain ⟨a, xs, rfl, _⟩ := r
    rfl
  | ref n =>
    obtain ⟨a, rfl, _⟩ := r
    rfl
  | scr n =>
    obtain ⟨a, rfl, _⟩ := r
    rfl
theorem oIsS : OpS K mg (fun x y H Q => y = .non ∧ Q (.bl (decide (x = .non))) H) isD := fun W A H E Q d e x y k rx ry h => by
  unfold isD at h
  split at h
  · refine ⟨ry, ?_⟩
    rw [rep_non rx]
    exact h.ok_at k rfl
  · exact h.elim
end

/-! ### == != : scalars, then data at any depth -/
def scEq : D → D → Option Bool
  | .non, .non => some true
  | .bl a, .bl b => some (a == b)
  | .int a, .int b => some (a == b)
  | .str a, .str b => some (a == b)
  | .non, .int _ | .int _, .non | .non, .bl _ | .bl _, .non | .non, .str _ | .str _, .non => some false
  | .int _, .str _ | .str _, .int _ | .bl _, .str _ | .str _, .bl _ => some false
  | _, _ => none
def pysOf (f : D → Option PyData) : List D → Option (List PyData)
  | [] => some []
  | d :: ds => match f d, pysOf f ds with
    | some p, some ps => some (p :: ps)
    | _, _ => none
/-- data as it can be compared; what changes as it stands now -/
def pyOf : Nat → AH → D → Option PyData
  | 0, _, _ => none
  | n + 1, A, d => match d with
    | .non => some .none
    | .bl b => some (.bool b)
    | .int i => some (.int i)
    | .str s => some (.str s)
    | .tup ds => (pysOf (pyOf n A) ds).map .tuple
    | .lst ds => (pysOf (pyOf n A) ds).map .list
    | .ref k => match A[k]? with
      | some (.lst ds) => (pysOf (pyOf n A) ds).map .list
      | _ => none
    | .scr ns => some (.list (ns.map .int))
    | .dct _ _ => none
def eqD (x y : D) (A : AH) : R D := match scEq x y with
  | some b => .ok (.bl b) A
  | none => match pyOf 12 A x, pyOf 12 A y with
    | some p, some q => if SeqAt.shaped p && SeqAt.shaped q then .ok (.bl (PyData.eqv p q)) A else .bad
    | _, _ => .bad
def neD (x y : D) (A : AH) : R D := match scEq x y with
  | some b => .ok (.bl (!b)) A
  | none => match pyOf 12 A x, pyOf 12 A y with
    | some p, some q => if SeqAt.shaped p && SeqAt.shaped q then .ok (.bl (!PyData.eqv p q)) A else .bad
    | _, _ => .bad
section
variable {K : PySem.W.Frag} {mg : Str → Option Value} {W : Wd} {A : AH} {H : Hp}
theorem dps_of (f : D → Option PyData) (hf : ∀ d p v, f d = some p → Rep K W d v → Dp K H v p) : ∀ (ds : List D) (ps : List PyData) (vs : List V), pysOf f ds = some ps → Reps K W ds vs → DpAll K H vs ps
  | [], ps, vs, e, r => by
    cases (show some [] = some ps from e)
    cases (show vs = [] from r)
    exact .nil
  | d :: ds, ps, vs, e, r => by
    unfold pysOf at e
    split at e
    · rename_i p ps' e1 e2
      cases e
      obtain ⟨v, r', rfl, h1, h2⟩ := r
      exact .cons (hf d p v e1 h1) (dps_of f hf ds ps' r' e2 h2)
    · cases e
theorem dp_ints : ∀ ns : List Int, DpAll K H (ns.map V.int) (ns.map PyData.int)
  | [] => .nil
  | n :: ns => .cons (.int n) (dp_ints ns)
theorem dp_of (k : Ok K mg W A H) : ∀ (n : Nat) (d : D) (p : PyData) (v : V), pyOf n A d = some p → Rep K W d v → Dp K H v p
  | 0, _, _, _, e, _ => by cases (show none = some _ from e)
  | n + 1, d, p, v, e, r => by
    cases d with
    | non =>
      cases (show some PyData.none = some p from e)
      cases (show v = .non from r)
      exact .non
    | bl b =>
      cases (show some (PyData.bool b) = some p from e)
      cases (show v = .bl b from r)
      exact .bl b
    | int b =>
      cases (show some (PyData.int b) = some p from e)
      cases (show v = .int b from r)
      exact .int b
    | str b =>
      cases (show some (PyData.str b) = some p from e)
      cases (show v = .str b from r)
      exact .str b
    | tup ds =>
      obtain ⟨ps, e1, rfl⟩ := Option.map_eq_some_iff.mp (show (pysOf (pyOf n A) ds).map PyData.tuple = some p from e)
      obtain ⟨a, xs, rfl, sx, rr⟩ := tup_at k r
      exact .tup sx (dps_of _ (fun d p v => dp_of k n d p v) ds ps xs e1 rr)
    | lst ds =>
      obtain ⟨ps, e1, rfl⟩ := Option.map_eq_some_iff.mp (show (pysOf (pyOf n A) ds).map PyData.list = some p from e)
      obtain ⟨a, xs, rfl, sx, rr⟩ := seqL_at k r (ds := ds) rfl
      exact .lst sx (dps_of _ (fun d p v => dp_of k n d p v) ds ps xs e1 rr)
    | ref j =>
      unfold pyOf at e
      dsimp only at e
      split at e
      · rename_i ds q
        obtain ⟨ps, e1, rfl⟩ := Option.map_eq_some_iff.mp e
        obtain ⟨a, rfl, ha⟩ := r
        obtain ⟨xs, hx, rr⟩ := k.lookL ha q
        exact .lst (.of hx) (dps_of _ (fun d p v => dp_of k n d p v) ds ps xs e1 rr)
      · cases e
    | scr ns =>
      cases (show some (PyData.list (ns.map .int)) = some p from e)
      obtain ⟨a, rfl, hs⟩ := r
      exact .lst (k.sqL hs) (dp_ints ns)
    | dct ks ds => cases (show none = some p from e)
theorem scEq_at {d e : D} {x y : V} {b : Bool} (h : scEq d e = some b) (rx : Rep K W d x) (ry : Rep K W e y) : scal x y = true ∧ decide (x = y) = b := by
  unfold scEq at h
  split at h
  all_goals first
    | (cases h
       cases rx
       cases ry
       exact ⟨rfl, by first | rfl | exact dec_int | exact dec_bl | exact dec_str⟩)
    | cases h
end
def rEqU (K : PySem.W.Frag) : R2 := fun x y H Q => rEq x y H Q ∨ rEqD K x y H Q
def rNeU (K : PySem.W.Frag) : R2 := fun x y H Q => rNe x y H Q ∨ rNeD K x y H Q
theorem oEq {X : Cx} {k : Nat} (hr : Room k X.A) : OpR X (compareOp .Eq) (rEqU X.K) := op_eq.or (op_eqD hr.units)
theorem oNe {X : Cx} {k : Nat} (hr : Room k X.A) : OpR X (compareOp .NotEq) (rNeU X.K) := op_ne.or (op_neD hr.units)
section
variable {K : PySem.W.Frag} {mg : Str → Option Value}
theorem oEqS : OpS K mg (rEqU K) eqD := fun W A H E Q d e x y k rx ry h => by
  unfold eqD at h
  split at h
  · rename_i b hb
    obtain ⟨h1, h2⟩ := scEq_at hb rx ry
    refine .inl ⟨h1, ?_⟩
    rw [h2]
    exact h.ok_at k rfl
  · split at h
    · rename_i p q e1 e2
      split at h
      · rename_i z
        have z' := Bool.and_eq_true_iff.mp z
        exact .inr ⟨p, q, dp_of k _ _ _ _ e1 rx, dp_of k _ _ _ _ e2 ry, z'.1, z'.2, h.ok_at k rfl⟩
      · exact h.elim
    · exact h.elim
theorem oNeS : OpS K mg (rNeU K) neD := fun W A H E Q d e x y k rx ry h => by
  unfold neD at h
  split at h
  · rename_i b hb
    obtain ⟨h1, h2⟩ := scEq_at hb rx ry
    refine .inl ⟨h1, ?_⟩
    rw [h2]
    exact h.ok_at k rfl
  · split at h
    · rename_i p q e1 e2
      split at h
      · rename_i z
        have z' := Bool.and_eq_true_iff.mp z
        exact .inr ⟨p, q, dp_of k _ _ _ _ e1 rx, dp_of k _ _ _ _ e2 ry, z'.1, z'.2, h.ok_at k rfl⟩
      · exact h.elim
    · exact h.elim
end
end Tg

set_option Elab.async false
set_option linter.all false
set_option maxRecDepth 100000
set_option maxHeartbeats 1000000
/-! TgSeq: in, subscripts, slices, displays, fields, dicts, built-ins and methods by values. -/
namespace Tg
open PySem PySem.Spec PyProof.Rows L2

/-! ### dicts as tables -/
def lkK (kvs : List (Key × D)) (k : Key) : Option D := (kvs.find? fun kv => decide (kv.1 = k)).map (·.2)
def ptK (kvs : List (Key × D)) (k : Key) (d : D) : List (Key × D) :=
  if (kvs.any fun kv => decide (kv.1 = k)) = true then kvs.map (fun kv => if kv.1 = k then (kv.1, d) else kv) else kvs ++ [(k, d)]
def keyD : D → Option Key
  | .int i => some (.inl i)
  | .str s => some (.inr s)
  | _ => none
/-- a dict's pairs -/
def dctD (A : AH) : D → Option (List (Key × D))
  | .dct ks ds => some (ks.zip ds)
  | .ref n => match A[n]? with
    | some (.dct kvs) => some kvs
    | _ => none
  | _ => none
def KVR (K : PySem.W.Frag) (W : Wd) (kvs : List (Key × D)) (vs : List (Key × V)) : Prop := vs.map (·.1) = kvs.map (·.1) ∧ Reps K W (kvs.map (·.2)) (vs.map (·.2))
section
variable {K : PySem.W.Frag} {mg : Str → Option Value} {W : Wd} {A : AH} {H : Hp}
theorem KVR.le {W' : Wd} (l : Le W W') {kvs : List (Key × D)} {vs : List (Key × V)} (r : KVR K W kvs vs) : KVR K W' kvs vs := ⟨r.1, r.2.le l⟩
theorem KVR.cons_iff {p : Key × D} {kvs : List (Key × D)} {vs : List (Key × V)} (r : KVR K W (p :: kvs) vs) : ∃ v vs', vs = (p.1, v) :: vs' ∧ Rep K W p.2 v ∧ KVR K W kvs vs' := by
  obtain ⟨h1, h2⟩ := r
  cases vs with
  | nil => cases h1
  | cons q vs =>
    obtain ⟨v, r', e, h3, h4⟩ := h2
    obtain ⟨qk, qv⟩ := q
    simp only [List.map_cons, List.cons.injEq] at h1 e
    obtain ⟨e1, e2⟩ := h1
    obtain ⟨e3, e4⟩ := e
    subst e1 e3 e4
    exact ⟨_, _, rfl, h3, e2, h4⟩
theorem KVR.nil_iff {vs : List (Key × V)} (r : KVR K W [] vs) : vs = [] := by
  cases vs with
  | nil => rfl
  | cons q vs => cases r.1
theorem KVR.get {k : Key} {d : D} : ∀ {kvs : List (Key × D)} {vs : List (Key × V)}, KVR K W kvs vs → lkK kvs k = some d → ∃ v, valV vs k = some v ∧ Rep K W d v
  | [], _, _, e => by cases e
  | p :: kvs, vs, r, e => by
    obtain ⟨v, vs', rfl, h1, h2⟩ := r.cons_iff
    by_cases q : p.1 = k
    · have e' : lkK (p :: kvs) k = some p.2 := by simp [lkK, List.find?_cons, q]
      rw [e'] at e
      cases e
      exact ⟨v, valV_pos q, h1⟩
    · have e' : lkK (p :: kvs) k = lkK kvs k := by simp [lkK, List.find?_cons, q]
      rw [e'] at e
      obtain ⟨u, h3, h4⟩ := KVR.get h2 e
      exact ⟨u, by rw [valV_neg q]; exact h3, h4⟩
theorem KVR.none {k : Key} : ∀ {kvs : List (Key × D)} {vs : List (Key × V)}, KVR K W kvs vs → lkK kvs k = none → valV vs k = none
  | [], _, r, _ => by
    cases r.nil_iff
    rfl
  | p :: kvs, vs, r, e => by
    obtain ⟨v, vs', rfl, h1, h2⟩ := r.cons_iff
    by_cases q : p.1 = k
    · have e' : lkK (p :: kvs) k = some p.2 := by simp [lkK, List.find?_cons, q]
      rw [e'] at e
      cases e
    · have e' : lkK (p :: kvs) k = lkK kvs k := by simp [lkK, List.find?_cons, q]
      rw [e'] at e
      rw [valV_neg q]
      exact KVR.none h2 e
theorem KVR.isSome {k : Key} {kvs : List (Key × D)} {vs : List (Key × V)} (r : KVR K W kvs vs) : (valV vs k).isSome = (lkK kvs k).isSome := by
  cases e : lkK kvs k with
  | none =>
    rw [r.none e]
    rfl
  | some d =>
    obtain ⟨v, e1, _⟩ := r.get e
    rw [e1]
    rfl
theorem KVR.any {k : Key} : ∀ {kvs : List (Key × D)} {vs : List (Key × V)}, KVR K W kvs vs → (vs.any fun kv => decide (kv.1 = k)) = (kvs.any fun kv => decide (kv.1 = k))
  | [], _, r => by
    cases r.nil_iff
    rfl
  | p :: kvs, vs, r => by
    obtain ⟨v, vs', rfl, h1, h2⟩ := r.cons_iff
    simp only [List.any_cons, KVR.any h2]
theorem KVR.mk_cons {k : Key} {d : D} {v : V} {kvs : List (Key × D)} {vs : List (Key × V)} (h : Rep K W d v) (r : KVR K W kvs vs) : KVR K W ((k, d) :: kvs) ((k, v) :: vs) :=
  ⟨by simp only [List.map_cons, r.1], by simp only [List.map_cons]; exact Reps.cons h r.2⟩
theorem KVR.app {kvs lvs : List (Key × D)} {vs us : List (Key × V)} (r : KVR K W kvs vs) (r' : KVR K W lvs us) : KVR K W (kvs ++ lvs) (vs ++ us) :=
  ⟨by rw [List.map_append, List.map_append, r.1, r'.1], by rw [List.map_append, List.map_append]; exact r.2.append r'.2⟩
theorem KVR.over {k : Key} {d : D} {v : V} (h : Rep K W d v) : ∀ {kvs : List (Key × D)} {vs : List (Key × V)}, KVR K W kvs vs →
    KVR K W (kvs.map (fun kv => if kv.1 = k then (kv.1, d) else kv)) (vs.map (fun kv => if kv.1 = k then (kv.1, v) else kv))
  | [], _, r => by
    cases r.nil_iff
    exact ⟨rfl, rfl⟩
  | p :: kvs, vs, r => by
    obtain ⟨u, vs', rfl, h1, h2⟩ := r.cons_iff
    by_cases q : p.1 = k
    · simp only [List.map_cons, if_pos q]
      exact KVR.mk_cons h (KVR.over h h2)
    · simp only [List.map_cons, if_neg q]
      exact KVR.mk_cons (k := p.1) (d := p.2) h1 (KVR.over h h2)
theorem KVR.put {k : Key} {d : D} {v : V} {kvs : List (Key × D)} {vs : List (Key × V)} (r : KVR K W kvs vs) (h : Rep K W d v) : KVR K W (ptK kvs k d) (putK vs k v) := by
  unfold ptK putK
  rw [r.any]
  split
  · exact KVR.over h r
  · exact r.app ⟨rfl, Reps.one h⟩
theorem KVR.len {kvs : List (Key × D)} {vs : List (Key × V)} (r : KVR K W kvs vs) : vs.length = kvs.length := by
  have := congrArg List.length r.1
  simpa using this
theorem KVR.zip : ∀ {ks : List Key} {ds : List D} {vs : List (Key × V)}, vs.map (·.1) = ks → Reps K W ds (vs.map (·.2)) → KVR K W (ks.zip ds) vs
  | [], ds, vs, e, r => by
    cases vs with
    | nil => exact ⟨rfl, rfl⟩
    | cons q vs => cases e
  | k :: ks, ds, vs, e, r => by
    cases vs with
    | nil => cases e
    | cons q vs =>
      obtain ⟨qk, qv⟩ := q
      simp only [List.map_cons, List.cons.injEq] at e
      cases ds with
      | nil => cases (show _ = [] from r)
      | cons d ds =>
        obtain ⟨v, r', e2, h1, h2⟩ := r
        simp only [List.map_cons, List.cons.injEq] at e2
        obtain ⟨e3, e4⟩ := e2
        subst e3
        rw [← e4] at h2
        rw [← e.1]
        exact KVR.mk_cons h1 (KVR.zip e.2 h2)
theorem dctD_at (k : Ok K mg W A H) {d : D} {v : V} (r : Rep K W d v) {kvs : List (Key × D)} (e : dctD A d = some kvs) : ∃ a vs, v = .ref a ∧ H a = some (.dK vs) ∧ KVR K W kvs vs := by
  cases d with
  | dct ks ds =>
    obtain ⟨a, vs, ev, ha, hk, rr⟩ := r
    cases (show some (ks.zip ds) = some kvs from e)
    exact ⟨a, vs, ev, k.frz _ _ ha, KVR.zip hk rr⟩
  | ref n =>
    obtain ⟨a, ev, ha⟩ := r
    unfold dctD at e
    dsimp only at e
    split at e
    · rename_i es q
      cases e
      obtain ⟨vs, hx, hk, rr⟩ := k.obj n a _ ha q
      exact ⟨a, vs, ev, hx, hk, rr⟩
    · cases e
  | _ => cases (show none = some kvs from e)
theorem keyD_at {d : D} {v : V} {k : Key} (r : Rep K W d v) (e : keyD d = some k) : v = kV k := by
  cases d with
  | int i =>
    cases (show some (Sum.inl i) = some k from e)
    exact r
  | str s =>
    cases (show some (Sum.inr s) = some k from e)
    exact r
  | _ => cases (show none = some k from e)
end

/-! ### in, not in -/
def flatD : D → Bool
  | .non | .bl _ | .int _ | .str _ => true
  | _ => false
def feq : D → D → Bool
  | .non, .non => true
  | .bl a, .bl b => a == b
  | .bl a, .int b => (if a then 1 else 0) == b
  | .int a, .bl b => a == (if b then 1 else 0)
  | .int a, .int b => a == b
  | .str a, .str b => a == b
  | _, _ => false
section
variable {K : PySem.W.Frag} {mg : Str → Option Value} {W : Wd} {A : AH} {H : Hp}
theorem flat_at {d : D} {v : V} (r : Rep K W d v) (f : flatD d = true) : flatV v = true := by
  cases d <;> first
    | (cases r; rfl)
    | cases (show false = true from f)
theorem feq_at {d e : D} {v u : V} (r : Rep K W d v) (q : Rep K W e u) (f : flatD d = true) (g : flatD e = true) : eqV v u = feq d e := by
  cases d <;> first
    | cases (show false = true from f)
    | (cases e <;> first
        | cases (show false = true from g)
        | (cases r
           cases q
           rfl))
theorem flats_at : ∀ {ds : List D} {vs : List V}, Reps K W ds vs → ds.all flatD = true → vs.all flatV = true
  | [], _, r, _ => by
    cases (show _ = [] from r)
    rfl
  | d :: ds, _, r, f => by
    obtain ⟨v, r', rfl, h1, h2⟩ := r
    simp only [List.all_cons, Bool.and_eq_true] at f ⊢
    exact ⟨flat_at h1 f.1, flats_at h2 f.2⟩
theorem inV_at {d : D} {v : V} (r : Rep K W d v) (f : flatD d = true) : ∀ {ds : List D} {vs : List V}, Reps K W ds vs → ds.all flatD = true → inV v vs = ds.any fun y => feq y d
  | [], _, r', _ => by
    cases (show _ = [] from r')
    rfl
  | e :: ds, _, r', g => by
    obtain ⟨u, r2, rfl, h1, h2⟩ := r'
    simp only [List.all_cons, Bool.and_eq_true] at g
    have := inV_at r f h2 g.2
    unfold inV at this ⊢
    simp only [List.any_cons, this, feq_at h1 r g.1 f]
end
def itemsD (A : AH) : D → Option (List D)
  | .tup ds => some ds
  | d => seqL A d
def inB (x y : D) (A : AH) : Option Bool := match x, y with
  | .str s, .str t => some (!(Builtin.Str.occurrences t s 0 t.length 1).isEmpty)
  | x, y => match dctD A y with
    | some kvs => (keyD x).map fun k => (lkK kvs k).isSome
    | none => match itemsD A y with
      | some ds => if (flatD x && ds.all flatD) = true then some (ds.any fun z => feq z x) else
          match seqL A y, pyOf 12 A x, pyOf 12 A y with
          | some _, some p, some (.list qs) => if SeqAt.shaped p && SeqAt.shaped (.list qs) then some (qs.any fun z => PyData.eqv z p) else none
          | _, _, _ => none
      | none => none
def inD (x y : D) (A : AH) : R D := match inB x y A with
  | some b => .ok (.bl b) A
  | none => .bad
def ninD (x y : D) (A : AH) : R D := match inB x y A with
  | some b => .ok (.bl (!b)) A
  | none => .bad
def rInDct (neg : Bool) : R2 := fun x y H Q => ∃ a o, y = .ref a ∧ DGet H a x o ∧ Q (.bl (if neg then !o.isSome else o.isSome)) H
def rInAll (K : PySem.W.Frag) : R2 := fun x y H Q =>
  ((∃ i j, x = .str i ∧ y = .str j ∧ Q (.bl (!(Builtin.Str.occurrences j i 0 j.length 1).isEmpty)) H) ∨ rInDct false x y H Q) ∨ rIn K false x y H Q ∨ rInD K x y H Q
def rNInAll (K : PySem.W.Frag) : R2 := fun x y H Q =>
  ((∃ i j, x = .str i ∧ y = .str j ∧ Q (.bl (!(!(Builtin.Str.occurrences j i 0 j.length 1).isEmpty))) H) ∨ rInDct true x y H Q) ∨ rIn K true x y H Q ∨ rNotInD K x y H Q
section
variable {X : Cx}
theorem op_in_dct (hu : X.A.units + 1 < cLine) : OpR X (compareOp .In) (rInDct false) := by
  intro pn st sg Hh xv yv vv uu QQ II rx ry hh
  obtain ⟨a, o, rfl, g, q⟩ := hh
  obtain rfl : uu = Value.ref a := ry
  exact d_in hu II g rx fun s3 I3 => ⟨.bl o.isSome, Hh, I3, rfl, q⟩
theorem op_nin_dct (hu : X.A.units + 1 < cLine) : OpR X (compareOp .NotIn) (rInDct true) := by
  intro pn st sg Hh xv yv vv uu QQ II rx ry hh
  obtain ⟨a, o, rfl, g, q⟩ := hh
  obtain rfl : uu = Value.ref a := ry
  exact d_notIn hu II g rx fun s3 I3 => ⟨.bl (!o.isSome), Hh, I3, rfl, q⟩
theorem room_u1 {k : Nat} {B : Around} (r : Room k B) : B.units + 1 < cLine := by have := r.un; omega
theorem room_u65 {k : Nat} {B : Around} (r : Room k B) : B.units + 65 < cLine := by have := r.un; omega
theorem oIn {k : Nat} (hr : Room k X.A) : OpR X (compareOp .In) (rInAll X.K) := (op_in_str.or (op_in_dct (room_u1 hr))).or (op_in_seq.or (op_inD (room_u65 hr)))
theorem oNIn {k : Nat} (hr : Room k X.A) : OpR X (compareOp .NotIn) (rNInAll X.K) := (op_notin_str.or (op_nin_dct (room_u1 hr))).or (op_notIn_seq.or (op_notInD (room_u65 hr)))
end
section
variable {K : PySem.W.Frag} {mg : Str → Option Value} {W : Wd} {A : AH} {H : Hp}
theorem itemsD_at (k : Ok K mg W A H) {d : D} {v : V} (r : Rep K W d v) {ds : List D} (e : itemsD A d = some ds) : ∃ a xs, v = .ref a ∧ (SqL K H a xs ∨ SqT K H a xs) ∧ Reps K W ds xs := by
  cases d with
  | tup es =>
    cases (show some es = some ds from e)
    obtain ⟨a, xs, h1, h2, h3⟩ := tup_at k r
    exact ⟨a, xs, h1, .inr h2, h3⟩
  | _ =>
    obtain ⟨a, xs, h1, h2, h3⟩ := seqL_at k r e
    exact ⟨a, xs, h1, .inl h2, h3⟩
theorem inB_at (k : Ok K mg W A H) {d e : D} {x y : V} (rx : Rep K W d x) (ry : Rep K W e y) {b : Bool} (h : inB d e A = some b) :
    (∃ i j, x = .str i ∧ y = .str j ∧ b = (!(Builtin.Str.occurrences j i 0 j.length 1).isEmpty)) ∨ (∃ a o, y = .ref a ∧ DGet H a x o ∧ b = o.isSome) ∨
      (∃ p xs, y = .ref p ∧ (SqL K H p xs ∨ SqT K H p xs) ∧ flatV x = true ∧ xs.all flatV = true ∧ b = inV x xs) ∨
        ∃ d ds, Dp K H x d ∧ Dp K H y (.list ds) ∧ SeqAt.shaped d = true ∧ SeqAt.shaped (.list ds) = true ∧ b = ds.any fun z => PyData.eqv z d := by
  unfold inB at h
  split at h
  · cases h
    exact .inl ⟨_, _, rx, ry, rfl⟩
  · split at h
    · rename_i kvs e1
      obtain ⟨kk, e2, e3⟩ := Option.map_eq_some_iff.mp h
      obtain ⟨a, vs, rfl, h1, h2⟩ := dctD_at k ry e1
      refine .inr (.inl ⟨a, valV vs kk, rfl, ?_, ?_⟩)
      · rw [keyD_at rx e2]
        exact .k h1
      · rw [h2.isSome, e3]
    · split at h
      · rename_i ds e1
        obtain ⟨a, xs, rfl, h1, h2⟩ := itemsD_at k ry e1
        split at h
        · rename_i f
          cases h
          have f' := Bool.and_eq_true_iff.mp f
          exact .inr (.inr (.inl ⟨a, xs, rfl, h1, flat_at rx f'.1, flats_at h2 f'.2, (inV_at rx f'.1 h2 f'.2).symm⟩))
        · split at h
          · rename_i es p qs _ e4 e5
            split at h
            · rename_i z
              cases h
              have z' := Bool.and_eq_true_iff.mp z
              exact .inr (.inr (.inr ⟨p, qs, dp_of k _ _ _ _ e4 rx, dp_of k _ _ _ _ e5 ry, z'.1, z'.2, rfl⟩))
            · cases h
          · cases h
      · cases h
theorem oInS : OpS K mg (rInAll K) inD := fun W A H E Q d e x y k rx ry h => by
  unfold inD at h
  split at h
  · rename_i b hb
    rcases inB_at k rx ry hb with ⟨i, j, e1, e2, rfl⟩ | ⟨a, o, e1, g, rfl⟩ | ⟨p, xs, e1, h1, h2, h3, rfl⟩ | ⟨p, ds, h1, h2, h3, h4, rfl⟩
    · exact .inl (.inl ⟨i, j, e1, e2, h.ok_at k rfl⟩)
    · exact .inl (.inr ⟨a, o, e1, g, h.ok_at k rfl⟩)
    · exact .inr (.inl ⟨p, xs, e1, h1, h2, h3, h.ok_at k rfl⟩)
    · exact .inr (.inr ⟨p, ds, h1, h2, h3, h4, h.ok_at k rfl⟩)
  · exact h.elim
theorem oNInS : OpS K mg (rNInAll K) ninD := fun W A H E Q d e x y k rx ry h => by
  unfold ninD at h
  split at h
  · rename_i b hb
    rcases inB_at k rx ry hb with ⟨i, j, e1, e2, rfl⟩ | ⟨a, o, e1, g, rfl⟩ | ⟨p, xs, e1, h1, h2, h3, rfl⟩ | ⟨p, ds, h1, h2, h3, h4, rfl⟩
    · exact .inl (.inl ⟨i, j, e1, e2, h.ok_at k rfl⟩)
    · exact .inl (.inr ⟨a, o, e1, g, h.ok_at k rfl⟩)
    · exact .inr (.inl ⟨p, xs, e1, h1, h2, h3, h.ok_at k rfl⟩)
    · exact .inr (.inr ⟨p, ds, h1, h2, h3, h4, h.ok_at k rfl⟩)
  · exact h.elim
end

/-! ### subscripts -/
def ixD : D → D → AH → R D
  | .str z, .int i, A => match (if z.length ≤ 16777216 then atI z.cps.toList i else none) with
    | some c => .ok (.str ⟨#[c]⟩) A
    | none => .bad
  | x, y, A => match dctD A x with
    | some kvs => match (keyD y).bind (lkK kvs) with
      | some d => .ok d A
      | none => .bad
    | none => match itemsD A x, y with
      | some ds, .int i => match atI ds i with
        | some d => .ok d A
        | none => .bad
      | _, _ => .bad
def rIxDct : R2 := fun x y H Q => ∃ a v, x = .ref a ∧ DGet H a y (some v) ∧ Q v H
def rIxU (K : PySem.W.Frag) : R2 := fun x y H Q => rIxDct x y H Q ∨ rIx K x y H Q
section
variable {X : Cx}
theorem ix_dct (hu : X.A.units + 1 < cLine) : IxR X rIxDct := by
  intro val sl pn st sg Hh xv yv vv uu QQ II rx ry hh hs
  obtain ⟨a, z, rfl, g, q⟩ := hh
  obtain rfl : vv = Value.ref a := rx
  have hT := dict_typeIs II g
  unfold subscriptTail
  refine wpAny_bind ?_
  rw [getitemInPython_of_ne hT.not_modules]
  refine wpAny_bind (wpAny_specialOf hT PySem.F.slot_dict_getitem.lookup ?_)
  have fin : wpAny (model X.prog X.w) X.A (subscripted sl false (.ref a) uu) (fun r s3 => wpAny (model X.prog X.w) X.A (letTemporaryGo val (.ref a) r >>= fun _ => pure r) (EP X pn sg QQ) X.xe s3) X.xe st := by
    rw [hs]
    exact wpAny_operating (wpAny_mono (d_getItem (Q := EP X pn sg QQ) hu II g ry fun w2 s3 I3 rw2 => ⟨z, Hh, I3, rw2, q⟩) (fun r s3 h3 => wpAny_bind (wpAny_letTemporaryGo (wpAny_pure h3))) fun _ _ x => x)
  first
    | exact wpAny_pure (wpAny_bind fin)
    | exact wpAny_bind (wpAny_pure (wpAny_bind fin))
    | exact wpAny_bind fin
theorem oIx {k : Nat} (hr : Room k X.A) : IxR X (rIxU X.K) := (ix_dct (room_u1 hr)).or ix_seq
end
section
variable {K : PySem.W.Frag} {mg : Str → Option Value} {W : Wd} {A : AH} {H : Hp}
theorem Reps.atI {ds : List D} {xs : List V} {i : Int} {d : D} (r : Reps K W ds xs) (e : L2.atI ds i = some d) : ∃ v, L2.atI xs i = some v ∧ Rep K W d v := by
  unfold L2.atI at e ⊢
  rw [r.length]
  cases h : ixN ds.length i with
  | none =>
    rw [h] at e
    cases e
  | some j =>
    rw [h] at e
    exact r.get e
theorem oIxS : OpS K mg (rIxU K) ixD := fun W A H E Q d e x y k rx ry h => by
  unfold ixD at h
  split at h
  · split at h
    · rename_i c hc
      split at hc
      · rename_i z
        exact .inr (.inr (.inr ⟨_, _, c, rx, ry, sz_of z, hc, h.ok_at k rfl⟩))
      · cases hc
    · exact h.elim
  · split at h
    · rename_i kvs e1
      split at h
      · rename_i d' e2
        obtain ⟨kk, e3, e4⟩ := Option.bind_eq_some_iff.mp e2
        obtain ⟨a, vs, rfl, h1, h2⟩ := dctD_at k rx e1
        obtain ⟨v, h3, h4⟩ := h2.get e4
        refine .inl ⟨a, v, rfl, ?_, h.ok_at k h4⟩
        rw [keyD_at ry e3, ← h3]
        exact .k h1
      · exact h.elim
    · split at h
      · rename_i e1 _
        split at h
        · rename_i e2
          obtain ⟨a, xs, rfl, h1, h2⟩ := itemsD_at k rx e1
          obtain ⟨v, h3, h4⟩ := h2.atI e2
          rcases h1 with h1 | h1
          · exact .inr (.inl ⟨a, xs, _, v, rfl, ry, h1, h3, h.ok_at k h4⟩)
          · exact .inr (.inr (.inl ⟨a, xs, _, v, rfl, ry, h1, h3, h.ok_at k h4⟩))
        · exact h.elim
      · exact h.elim
end

/-! ### slices -/
def cutD (ds : List D) (lo hi : Option Int) : List D := (ds.drop (HT.sIx ds.length 0 lo)).take (HT.sIx ds.length ds.length hi - HT.sIx ds.length 0 lo)
def slD (x : D) (lo hi : Option Int) (A : AH) : R D := match x with
  | .str z => if z.length ≤ 16777216 then .ok (.str (cutS z lo hi)) A else .bad
  | .tup ds => .ok (.tup (cutD ds lo hi)) A
  | x => match seqL A x with
    | some ds => .ok (.lst (cutD ds lo hi)) A
    | none => .bad
def rSlU (K : PySem.W.Frag) : V → Option Int → Option Int → Hp → VK → Prop := fun x lo hi H Q => rSlS x lo hi H Q ∨ rSlA K x lo hi H Q ∨ rSlL K x lo hi H Q
theorem oSl {X : Cx} : L2.SlR X (rSlU X.K) := sl_str.or (sl_tupA.or sl_list)
section
variable {K : PySem.W.Frag} {mg : Str → Option Value} {W : Wd} {A : AH} {H : Hp}
theorem Reps.cut {ds : List D} {xs : List V} (r : Reps K W ds xs) (lo hi : Option Int) : Reps K W (cutD ds lo hi) (cutV xs lo hi) := by
  unfold cutD cutV
  rw [r.length]
  exact (r.drop _).take _
theorem oSlS {E : XK} {Q : VK} {d : D} {x : V} {lo hi : Option Int} (k : Ok K mg W A H) (rx : Rep K W d x) (h : Post K mg (Rep K) W H E Q (slD d lo hi A)) : rSlU K x lo hi H Q := by
  unfold slD at h
  split at h
  · split at h
    · rename_i z
      exact .inl ⟨_, rx, sz_of z, h.ok_at k rfl⟩
    · exact h.elim
  · rename_i ds
    obtain ⟨a, xs, rfl, h1, h2⟩ := tup_at k rx
    refine .inr (.inl ⟨a, xs, rfl, h1, fun q => ?_, fun _ p hp => post_tup k h (h2.cut lo hi) hp⟩)
    have e : cutD ds lo hi = ds := by
      unfold cutD
      rw [h2.length] at q
      rw [q.1, q.2]
      simp
    rw [e] at h
    exact h.ok_at k rx
  · split at h
    · rename_i ds e1
      obtain ⟨a, xs, rfl, h1, h2⟩ := seqL_at k rx e1
      exact .inr (.inr ⟨a, xs, rfl, h1, fun p hp => post_lst k h (h2.cut lo hi) hp⟩)
    · exact h.elim
end
end Tg

set_option Elab.async false
set_option linter.all false
set_option maxRecDepth 100000
set_option maxHeartbeats 1000000
/-! TgCall: subscripts, slices, displays, fields, calls as expressions. -/
namespace Tg
open PySem PySem.Spec PyProof.Rows L2

/-! ### a cell beside is taken in -/
def delH (H : Hp) (p : Addr) : Hp := fun b => if b = p then none else H b
theorem delH_same {H : Hp} {p : Addr} : delH H p p = none := if_pos rfl
theorem delH_ne {H : Hp} {p b : Addr} (h : b ≠ p) : delH H p b = H b := if_neg h
theorem upd_delH {H : Hp} {p : Addr} {o : HO} : upd (delH H p) p o = upd H p o := by
  funext b
  by_cases h : b = p
  · rw [h, upd_same, upd_same]
  · rw [upd_ne h, upd_ne h, delH_ne h]
section
variable {K : PySem.W.Frag} {mg : Str → Option Value} {W0 W1 : Wd} {A0 A1 : AH} {H0 H1 : Hp} {p : Addr} {u : HO}
theorem Ok.undo (hp : H0 p = none) (k0 : Ok K mg W0 A0 H0) (e : Ext W0 (upd H0 p u) W1 H1) (k1 : Ok K mg W1 A1 H1) (hu : ∀ tb, u ≠ .tbl tb := by intro _ h; cases h) :
    p ∉ W1.m ∧ W1.F p = none ∧ Ok K mg W1 A1 (delH H1 p) ∧ Ext W0 H0 W1 (delH H1 p) ∧ H1 p = some u := by
  have nm := k0.notm hp
  have nF := k0.notF hp
  have nm1 : p ∉ W1.m := fun q => by
    have z := e.fm p q nm
    rw [upd_same] at z
    cases z
  have nF1 : W1.F p = none := by
    cases q : W1.F p with
    | none => rfl
    | some o =>
      have z := e.fF p o q nF
      rw [upd_same] at z
      cases z
  refine ⟨nm1, nF1, ⟨fun a o h => ?_, fun n a o h1 h2 => (k1.sep n a o h1 h2).at rfl (delH_ne (show a ≠ p from fun q => nm1 (q ▸ List.mem_of_getElem? h1))), k1.nd, k1.len, fun n a o h1 h2 => ?_, fun x hx P hP => (k1.tab x hx P hP).keep (fun _ _ e => e) (delH_ne ((k0.tab x hx P hP).ne hp)) (k1.tab x hx P hP).nm (k1.tab x hx P hP).nF⟩, ⟨e.le, fun a o h t n => ?_, fun a h => ?_, fun a o h n => ?_, fun a h n => ?_⟩, e.out p u upd_same hu nm⟩
  · have z : a ≠ p := fun q => by
      rw [q, nF1] at h
      cases h
    rw [delH_ne z]
    exact k1.frz a o h
  · have z : a ≠ p := fun q => nm1 (q ▸ List.mem_of_getElem? h1)
    rw [delH_ne z]
    exact k1.obj n a o h1 h2
  · have z : a ≠ p := fun q => by
      rw [q, hp] at h
      cases h
    rw [delH_ne z]
    exact e.out a o (by rw [upd_ne z]; exact h) t n
  · by_cases q : a = p
    · rw [q]
      exact hp
    · rw [delH_ne q] at h
      have z := e.dom a h
      rw [upd_ne q] at z
      exact z
  · have z := e.fF a o h n
    by_cases q : a = p
    · rw [q]
      exact hp
    · rw [upd_ne q] at z
      exact z
  · have z := e.fm a h n
    by_cases q : a = p
    · rw [q]
      exact hp
    · rw [upd_ne q] at z
      exact z
end

/-! ### displays -/
def mTup (m : MA) : ME := fun s A => (m s A).bind fun ds A1 => if ds.length ≤ 16777216 then .ok (.tup ds) A1 else .bad
def mLst (m : MA) : ME := fun s A => (m s A).bind fun ds A1 => if ds.length ≤ 16777216 then .ok (.lst ds) A1 else .bad
/-- a list that will change -/
def mLstN (m : MA) : ME := fun s A => (m s A).bind fun ds A1 => if ds.length ≤ 16777216 then .ok (.ref A1.length) (A1 ++ [.lst ds]) else .bad
section
variable {X : Cx} {Wx : WX} {e : Expr} {es : List Expr} {te : TE} {t : TA} {me : ME} {m : MA} {pos : Pos}
theorem stup {j : Nat} (h : SA X Wx es t m) : SE X Wx (.Tuple es j pos) (tTup t) (mTup m) :=
  ⟨pe_tup h.pa, fun W σ s A H Q k sr z => h.sim W σ s A H _ k sr (z.bind fun ds A1 vs W1 H1 e1 k1 r1 h1 => by
    by_cases q : ds.length ≤ 16777216
    · rw [if_pos q] at h1
      exact ⟨by rw [r1.length]; exact sz_of q, fun p hp => post_tup k1 h1 r1 hp⟩
    · rw [if_neg q] at h1
      exact h1.elim)⟩
theorem slst (h : SA X Wx es t m) : SE X Wx (.List es pos) (tLst t) (mLst m) :=
  ⟨pe_lst h.pa, fun W σ s A H Q k sr z => h.sim W σ s A H _ k sr (z.bind fun ds A1 vs W1 H1 e1 k1 r1 h1 => by
    by_cases q : ds.length ≤ 16777216
    · rw [if_pos q] at h1
      exact ⟨by rw [r1.length]; exact sz_of q, fun p hp => post_lst k1 h1 r1 hp⟩
    · rw [if_neg q] at h1
      exact h1.elim)⟩
theorem slstN (h : SA X Wx es t m) : SE X Wx (.List es pos) (tLst t) (mLstN m) :=
  ⟨pe_lst h.pa, fun W σ s A H Q k sr z => h.sim W σ s A H _ k sr (z.bind fun ds A1 vs W1 H1 e1 k1 r1 h1 => by
    by_cases q : ds.length ≤ 16777216
    · rw [if_pos q] at h1
      exact ⟨by rw [r1.length]; exact sz_of q, fun p hp => post_new k1 h1 r1 hp⟩
    · rw [if_neg q] at h1
      exact h1.elim)⟩
end

/-! ### a[b], a[b:c] -/
def mPart (m : ME) : Sl → AH → R (Option Int) := fun s A => (m s A).bind fun x A1 => match x with
  | .int i => .ok (some i) A1
  | _ => .bad
def mNoPart : Sl → AH → R (Option Int) := fun _ A => .ok none A
def mSl (m : ME) (lo hi : Sl → AH → R (Option Int)) : ME := fun s A => (m s A).bind fun x A1 => (lo s A1).bind fun l A2 => (hi s A2).bind fun u A3 => slD x l u A3
section
variable {X : Cx} {Wx : WX} {a b e : Expr} {lo hi : Option Expr} {ta tb te : TE} {tl th : TO} {ma mb me : ME} {ml mh : Sl → AH → R (Option Int)} {pos p2 : Pos}
theorem six {k : Nat} (hr : Room k X.A) (ha : SE X Wx a ta ma) (hb : SE X Wx b tb mb) (hs : PlainIx b := by intro _ _; rfl) : SE X Wx (.Subscript a b pos) (tOp (rIxU X.K) ta tb) (mBin ixD ma mb) :=
  ⟨pe_ix (oIx hr) ha.pe hb.pe hs, sim_bin oIxS ha.sim hb.sim⟩
theorem onone : SO X Wx none tNoPart mNoPart := ⟨po_none, fun W σ s A H Q k sr h => h.ok_at k rfl⟩
theorem osome (h : SE X Wx e te me) : SO X Wx (some e) (tPart te) (mPart me) :=
  ⟨po_some h.pe, fun W σ s A H Q k sr z => h.sim W σ s A H _ k sr (z.bind fun x A1 v W1 H1 e1 k1 r1 h1 => by
    cases x with
    | int i => exact ⟨i, r1, h1.ok_at k1 rfl⟩
    | _ => exact h1.elim)⟩
theorem ssl (h : SE X Wx e te me) (hl : SO X Wx lo tl ml) (hh : SO X Wx hi th mh) : SE X Wx (.Subscript e (.Slice lo hi none p2) pos) (tSl (rSlU X.K) te tl th) (mSl me ml mh) :=
  ⟨pe_slice oSl h.pe hl.po hh.po, fun W σ s A H Q k sr z => h.sim W σ s A H _ k sr (z.bind fun x A1 v W1 H1 e1 k1 r1 h1 =>
    hl.sim W1 σ s A1 H1 _ k1 (sr.le e1.le) (h1.bind fun l A2 l' W2 H2 e2 k2 r2 h2 =>
      hh.sim W2 σ s A2 H2 _ k2 (sr.le (e1.trans e2).le) (h2.bind fun u A3 u' W3 H3 e3 k3 r3 h3 => by
        cases r2
        cases r3
        exact oSlS k3 (r1.le (e2.trans e3).le) h3)))⟩
end

/-! ### o.f -/
def fldD (cs : List Str) (f : Str) : D → AH → R D
  | .ref n, A => match A[n]? with
    | some (.ins c fs) => if c ∈ cs then match fs.lookup f with
      | some d => .ok d A
      | none => .bad
      else .bad
    | _ => .bad
  | _, _ => .bad
def mFld (cs : List Str) (f : Str) (m : ME) : ME := fun s A => (m s A).bind fun x A1 => fldD cs f x A1
section
variable {K : PySem.W.Frag} {mg : Str → Option Value} {W : Wd} {A : AH} {H : Hp}
theorem fld_at {f : Str} {d : D} : ∀ {fs : List (Str × D)} {vs : List (Str × V)}, vs.map (·.1) = fs.map (·.1) → Reps K W (fs.map (·.2)) (vs.map (·.2)) → fs.lookup f = some d → ∃ v, vs.lookup f = some v ∧ Rep K W d v
  | [], _, _, _, e => by cases e
  | (g, x) :: fs, vs, h1, h2, e => by
    cases vs with
    | nil => cases h1
    | cons q vs =>
      obtain ⟨qk, qv⟩ := q
      obtain ⟨v, r', e2, h3, h4⟩ := h2
      simp only [List.map_cons, List.cons.injEq] at h1 e2
      obtain ⟨e3, e4⟩ := h1
      obtain ⟨e5, e6⟩ := e2
      subst e3 e5 e6
      simp only [List.lookup] at e ⊢
      cases hb : (f == qk) with
      | true =>
        rw [hb] at e
        cases e
        exact ⟨_, rfl, h3⟩
      | false =>
        rw [hb] at e
        exact fld_at e4 h4 e
def putFD (f : Str) (d : D) : List (Str × D) → List (Str × D)
  | [] => [(f, d)]
  | (g, x) :: r => if g = f then (g, d) :: r else (g, x) :: putFD f d r
end
section
variable {X : Cx} {Wx : WX} {e : Expr} {te : TE} {me : ME} {pos : Pos}
end

/-! ### promises of defs -/
def spM (K : PySem.W.Frag) (mg : Str → Option Value) (g : List D → AH → R D) : Sp := fun vs H Q E => ∃ (W : Wd) (ds : List D) (A : AH), Ok K mg W A H ∧ Reps K W ds vs ∧ Post K mg (Rep K) W H E Q (g ds A)
/-- the def that the module's name x holds does as g says -/
def Dfn (P : Program) (w : World) (K : PySem.W.Frag) (mg : Str → Option Value) (base : Heap) (x : Str) (k : Nat) (g : List D → AH → R D) : Prop :=
  ∃ (f : Addr) (fd : FuncData) (ps : List Str), FnOk P w K mg base (L2.CX P w) k f fd ps (spM K mg g) ∧ mg x = some (.ref f) ∧ PySem.W.keepIn K (.ref f) = true ∧ Binds K fd ps []
/-- the class named c can be made; its __init__ does as g says -/
def Mkr (P : Program) (w : World) (K : PySem.W.Frag) (mg : Str → Option Value) (base : Heap) (c : Str) (k : Nat) (g : List D → AH → R D) : Prop :=
  ∃ (C f : Addr) (fd : FuncData) (ps : List Str), FnOk P w K mg base (L2.CX P w) k f fd ps (spM K mg g) ∧ mg c = some (.ref C) ∧ Mk K C f ∧ Binds K fd ps []
def mCall (g : List D → AH → R D) (m : MA) : ME := fun s A => (m s A).bind fun ds A1 => g ds A1
def mMeth (c m : Str) (g : List D → AH → R D) (o : ME) (ma : MA) : ME := fun s A => (o s A).bind fun x A1 => match x with
  | .ref n => match A1[n]? with
    | some (.ins c' fs) => if c' = c ∧ fs.lookup m = none then (ma s A1).bind fun ds A2 => g (.ref n :: ds) A2 else .bad
    | _ => .bad
  | _ => .bad
def mMake (c : Str) (g : List D → AH → R D) (ma : MA) : ME := fun s A => (ma s A).bind fun ds A1 => (g (.ref A1.length :: ds) (A1 ++ [.ins c []])).bind fun r A2 => match r with
  | .non => .ok (.ref A1.length) A2
  | _ => .bad
abbrev WxF : WX := fun _ _ _ _ => False

section
variable {X : Cx} {Wx : WX} {e o : Expr} {es : List Expr} {to : TE} {t : TA} {mo : ME} {m : MA} {p pos apos : Pos} {x c mn : Str} {k j : Nat} {g : List D → AH → R D}
theorem sim_call {K : PySem.W.Frag} {mg : Str → Option Value} (h : SimA K mg Wx t m) : SimE K mg Wx (tCallS (spM K mg g) (WE Wx) t) (mCall g m) := fun W σ s A H Q k sr z =>
  h W σ s A H _ k sr (z.bind fun ds A1 vs W1 H1 e1 k1 r1 h1 => ⟨W1, ds, A1, k1, r1, h1⟩)
theorem scall (d : Dfn X.prog X.w X.K X.mg X.base x k g) (hr : Room j X.A) (hk : k ≤ j) (tk : Takes X Wx) (ha : SA X Wx (e :: es) t m) (hg : Gl X x := by rfl) (hdb : (x == ("__debug__" : Str)) = false := by decide)
    (he : starEach (e :: es) X.env = (false, eval e X.env) :: starEach es X.env := by rfl) (hpl : (backTo pos (starEach es X.env)).any (·.1) = false := by rfl) :
    SE X Wx (.Call (.Name x p) (e :: es) [] pos) (tCallS (spM X.K X.mg g) (WE Wx) t) (mCall g m) := by
  obtain ⟨f, fd, ps, F, hm, kp, hb⟩ := d
  exact ⟨pe_callS F (hr.mono hk) hg hm kp hb (fun σ => passAt tk σ) ha.pa hdb he hpl, sim_call ha.sim⟩
/-- C(..), what is raised wished for at the slots -/
def tMakeS (C : Addr) (sp : Sp) (E : L2.St → XK) (t : TA) : TE := fun σ H Q => t σ H fun vs H1 => ∀ x dx, H1 x = none → H1 dx = none → dx ≠ x →
  sp (.ref x :: vs) (upd (upd H1 dx (.own x)) x (.ins C dx [])) (fun v H2 => v = .non ∧ Q (.ref x) H2) (E σ)
theorem run_makeS {CX : CXT} {C f : Addr} {fd : FuncData} {ps : List Str} {sp : Sp} {E : L2.St → XK} {pn : List (Addr × Obj)} {sg : L2.St} {Hh : Hp} {st : Shared} {QQ : VK} {us : List Value} {vs : List V} (M : Mk X.K C f)
    (F : FnOk X.prog X.w X.K X.mg X.base CX k f fd ps sp) (hr : Room (k + 1) X.A) (hb : Binds X.K fd ps []) (hx : ∀ σ, PassesAt CX X σ (E σ)) (II : Inv X pn sg Hh st) (r : Vals vs us)
    (h : ∀ x dx, Hh x = none → Hh dx = none → dx ≠ x → sp (.ref x :: vs) (upd (upd Hh dx (.own x)) x (.ins C dx [])) (fun v H2 => v = .non ∧ QQ (.ref x) H2) (E sg)) :
    wpAny (model X.prog X.w) X.A (call (.ref C) us) (EP X pn sg QQ) X.xe st := by
  have hq := h (st.heap.objs.size + 1) st.heap.objs.size (II.hok.fresh (Nat.le_succ _)) (II.hok.fresh (Nat.le_refl _)) (Nat.ne_of_lt (Nat.lt_succ_self _))
  have I2 := Inv.made (C := C) II
  have r2 : Vals (V.ref (st.heap.objs.size + 1) :: vs) (Value.ref (st.heap.objs.size + 1) :: us) := .cons rfl r
  have hl : (Value.ref (st.heap.objs.size + 1) :: us).length = ps.length := by
    have e := r2.length
    rw [F.len _ _ _ _ hq] at e
    exact e.symm
  have hbb := hb _ (Value.ref (st.heap.objs.size + 1) :: us) I2.kIn (by rw [List.append_nil]; exact hl)
  rw [List.append_nil] at hbb
  refine wpAny_call (make_map (f := f) II.kIn M.makes M.init (beq_iff_eq.mp M.fn) (codeAny_mono (F.run _ X.stack _ _ ⟨Value.ref (st.heap.objs.size + 1) :: us, []⟩ _ _ _ (E sg) (hr.make C us []) (I2.env0.make C us []) hbb r2 hq) fun r s' hq' => ?_))
  cases r with
  | error e => exact hx sg pn _ _ e s' I2 hq'
  | ok fl =>
    cases fl with
    | ret u =>
      obtain ⟨v, H', I3, rv, ev, q3⟩ := I2.after hq'
      subst ev
      exact ⟨rv, ⟨V.ref (st.heap.objs.size + 1), H', I3, rfl, q3⟩⟩
    | next => exact False.elim hq'
    | brk => exact False.elim hq'
    | cont => exact False.elim hq'
theorem smake (d : Mkr X.prog X.w X.K X.mg X.base c k g) (hr : Room j X.A) (hk : k + 1 ≤ j) (tk : Takes X Wx) (ha : SA X Wx (e :: es) t m) (hg : Gl X c := by rfl) (hdb : (c == ("__debug__" : Str)) = false := by decide)
    (he : starEach (e :: es) X.env = (false, eval e X.env) :: starEach es X.env := by rfl) (hpl : (backTo pos (starEach es X.env)).any (·.1) = false := by rfl) :
    SE X Wx (.Call (.Name c p) (e :: es) [] pos) (tMakeS (clA X.mg c) (spM X.K X.mg g) (WE Wx) t) (mMake c g m) := by
  obtain ⟨C, f, fd, ps, F, hm, M, hb⟩ := d
  rw [clA_of hm]
  refine ⟨⟨fun pn st sg Hh QQ II hh => ?_⟩, fun W σ s A H Q k sr z => ?_⟩
  · refine wpAny_Call_Name_kw (ld_glob II hg hm ?_ hdb)
    refine PySem.W.callWith_K (h₀ := X.base) II.ok.mod.kin M.kp (thn (ha.pa.run pos pn st sg Hh _ II hh) fun us s1 ⟨vs, H1, I1, r, q⟩ => ⟨I1.kIn, ?_⟩) he hpl
    exact run_makeS (E := WE Wx) M F (hr.mono hk) hb (fun σ => passAt tk σ) I1 r q
  · refine ha.sim W σ s A H _ k sr (z.bind fun ds A1 vs W1 H1 e1 k1 r1 h1 => fun x dx hx hdx ne => ?_)
    obtain ⟨k2, e2⟩ := k1.aside hdx (.own x)
    have hx2 : upd H1 dx (.own x) x = none := by
      rw [upd_ne (Ne.symm ne)]
      exact hx
    obtain ⟨k3, e3⟩ := k2.fresh hx2 (o := .ins C dx []) (u := .ins c []) ⟨dx, [], by rw [clA_of hm], rfl, rfl⟩
    have hn : (W1.m ++ [x])[A1.length]? = some x := by
      rw [← k1.len]
      exact List.getElem?_concat_length
    refine ⟨_, .ref A1.length :: ds, _, k3, Reps.cons ⟨x, rfl, hn⟩ (r1.le (e2.trans e3).le), ?_⟩
    have h2 := Post.ext (e2.trans e3) h1
    exact h2.bind fun r A2 v W4 H4 e4 k4 r4 h4 => by
      cases r with
      | non => exact ⟨r4, h4.ok_at k4 ⟨x, rfl, e4.le.at hn⟩⟩
      | _ => exact h4.elim
end
end Tg

set_option Elab.async false
set_option linter.all false
set_option maxRecDepth 100000
set_option maxHeartbeats 2000000
/-! TgBuilt: built-in functions and methods. -/
namespace Tg
open PySem PySem.Spec PyProof.Rows L2

/-! ### a built-in by its name -/
section
variable {X : Cx} {Wx : WX} {e o : Expr} {es : List Expr} {to : TE} {t : TA} {mo : ME} {m : MA} {p pos apos : Pos} {x : Str} {id T : String} {r : List V → Hp → VK → Prop} {f : List D → AH → R D}
theorem sim_cb {K : PySem.W.Frag} {mg : Str → Option Value} (hs : CallS K mg r f) (ha : SimA K mg Wx t m) : SimE K mg Wx (tCB r t) (mCall f m) := fun W σ s A H Q k sr z =>
  ha W σ s A H _ k sr (z.bind fun ds A1 vs W1 H1 e1 k1 r1 h1 => hs W1 A1 H1 _ Q ds vs k1 r1 h1)
theorem sbuilt (hc : CallR X (.builtin id) r) (hs : CallS X.K X.mg r f) (hm : X.mg x = none) (ha : SA X Wx (e :: es) t m) (hg : Gl X x := by rfl) (hv : bootBuiltins x = some (.builtin id) := by decide +kernel) (hn : x ≠ "__name__" := by decide) (hdb : (x == ("__debug__" : Str)) = false := by decide)
    (he : starEach (e :: es) X.env = (false, eval e X.env) :: starEach es X.env := by rfl) (hpl : (backTo pos (starEach es X.env)).any (·.1) = false := by rfl) : SE X Wx (.Call (.Name x p) (e :: es) [] pos) (tCB r t) (mCall f m) :=
  ⟨pe_callB hc hg hm hv ha.pa hn hdb he hpl, sim_cb hs ha.sim⟩
theorem styp (hc : CallR X (.type T) r) (hs : CallS X.K X.mg r f) (hm : X.mg x = none) (ha : SA X Wx (e :: es) t m) (hg : Gl X x := by rfl) (hv : bootBuiltins x = some (.type T) := by decide +kernel) (hn : x ≠ "__name__" := by decide) (hdb : (x == ("__debug__" : Str)) = false := by decide)
    (he : starEach (e :: es) X.env = (false, eval e X.env) :: starEach es X.env := by rfl) (hpl : (backTo pos (starEach es X.env)).any (·.1) = false := by rfl) : SE X Wx (.Call (.Name x p) (e :: es) [] pos) (tCB r t) (mCall f m) :=
  ⟨pe_callTy hc hg hm hv ha.pa hn hdb he hpl, sim_cb hs ha.sim⟩
end

/-! ### len, int, str, abs, max, min, sum, sorted, tuple, list, dict -/
def lenD : List D → AH → R D
  | [.str z], A => if z.length ≤ 16777216 then .ok (.int z.length) A else .bad
  | [d], A => match dctD A d with
    | some kvs => .ok (.int kvs.length) A
    | none => match itemsD A d with
      | some ds => .ok (.int ds.length) A
      | none => .bad
  | _, _ => .bad
def intD : List D → AH → R D
  | [.int i], A => .ok (.int i) A
  | [.bl k], A => .ok (.int (if k then 1 else 0)) A
  | [.str a], A => match PySem.intText? a with
    | some n => if a.length ≤ 640 then .ok (.int n) A else .bad
    | none => .bad
  | _, _ => .bad
def strD : List D → AH → R D
  | [.int i], A => if i.natAbs.log2 < 1920 then .ok (.str (toString i)) A else .bad
  | [.str a], A => .ok (.str a) A
  | _, _ => .bad
def intsD : List D → Option (List Int)
  | [] => some []
  | .int i :: ds => (intsD ds).map (i :: ·)
  | _ :: _ => none
def maxI : List Int → Option Int
  | [] => none
  | i :: is => some (is.foldl (fun m j => if m < j then j else m) i)
def maxD : List D → AH → R D
  | [.int i, .int j], A => .ok (.int (if j > i then j else i)) A
  | [d], A => match (itemsD A d).bind intsD with
    | some ns => match maxI ns with
      | some m => .ok (.int m) A
      | none => .bad
    | none => .bad
  | _, _ => .bad
def tupD : List D → AH → R D
  | [.tup ds], A => .ok (.tup ds) A
  | [d], A => match seqL A d with
    | some ds => .ok (.tup ds) A
    | none => .bad
  | _, _ => .bad
section
variable {K : PySem.W.Frag} {mg : Str → Option Value} {W : Wd} {A : AH} {H : Hp}
theorem reps1 {d : D} {xs : List V} (r : Reps K W [d] xs) : ∃ v, xs = [v] ∧ Rep K W d v := by
  obtain ⟨v, r', rfl, h1, h2⟩ := r
  cases (show r' = [] from h2)
  exact ⟨v, rfl, h1⟩
theorem reps2 {d e : D} {xs : List V} (r : Reps K W [d, e] xs) : ∃ v u, xs = [v, u] ∧ Rep K W d v ∧ Rep K W e u := by
  obtain ⟨v, r', rfl, h1, h2⟩ := r
  obtain ⟨u, rfl, h3⟩ := reps1 h2
  exact ⟨v, u, rfl, h1, h3⟩
theorem intsD_at : ∀ {ds : List D} {ns : List Int} {xs : List V}, intsD ds = some ns → Reps K W ds xs → xs = ns.map V.int
  | [], ns, xs, e, r => by
    cases (show some [] = some ns from e)
    exact r
  | d :: ds, ns, xs, e, r => by
    cases d with
    | int i =>
      obtain ⟨ns', e1, rfl⟩ := Option.map_eq_some_iff.mp (show (intsD ds).map (i :: ·) = some ns from e)
      obtain ⟨v, r', rfl, h1, h2⟩ := r
      rw [intsD_at e1 h2, (show v = .int i from h1)]
      rfl
    | _ => cases (show none = some ns from e)
theorem maxI_mem : ∀ (is : List Int) (i : Int), is.foldl (fun m j => if m < j then j else m) i ∈ i :: is ∧ ∀ y ∈ i :: is, y ≤ is.foldl (fun m j => if m < j then j else m) i
  | [], i => ⟨by simp, fun y h => by
      have e : y = i := by simpa using h
      rw [e]
      exact Int.le_refl i⟩
  | j :: is, i => by
    rw [List.foldl_cons]
    generalize hk : (if i < j then j else i) = k
    have hk1 : i ≤ k ∧ j ≤ k ∧ (k = i ∨ k = j) := by
      rw [← hk]
      split
      · exact ⟨by omega, by omega, .inr rfl⟩
      · exact ⟨by omega, by omega, .inl rfl⟩
    obtain ⟨h1, h2⟩ := maxI_mem is k
    have h3 := h2 k (by simp)
    refine ⟨?_, fun y h => ?_⟩
    · rcases List.mem_cons.mp h1 with e | e
      · rw [e]
        rcases hk1.2.2 with z | z
        · rw [z]
          simp
        · rw [z]
          simp
      · exact List.mem_cons_of_mem _ (List.mem_cons_of_mem _ e)
    · rcases List.mem_cons.mp h with e | e
      · rw [e]
        exact Int.le_trans hk1.1 h3
      · rcases List.mem_cons.mp e with e | e
        · rw [e]
          exact Int.le_trans hk1.2.1 h3
        · exact h2 y (List.mem_cons_of_mem _ e)
theorem maxI_eq {ns : List Int} {m n : Int} (h : maxI ns = some m) (h1 : n ∈ ns) (h2 : ∀ y, y ∈ ns → y ≤ n) : n = m := by
  cases ns with
  | nil => cases h1
  | cons i is =>
    have e : is.foldl (fun m j => if m < j then j else m) i = m := Option.some.inj h
    obtain ⟨q1, q2⟩ := maxI_mem is i
    rw [e] at q1 q2
    have z1 := h2 m q1
    have z2 := q2 n h1
    omega
def rLenU (K : PySem.W.Frag) : List V → Hp → VK → Prop := fun xs H Q => (∃ x n, xs = [x] ∧ LenV K x H n ∧ Q (.int n) H) ∨ ∃ a kvs, xs = [V.ref a] ∧ H a = some (.dK kvs) ∧ Q (.int kvs.length) H
theorem oLen {X : Cx} : CallR X (.builtin "len") (rLenU X.K) := call_len.or call_lenD
theorem oLenS : CallS K mg (rLenU K) lenD := fun W A H E Q ds xs k r h => by
  unfold lenD at h
  split at h
  · split at h
    · rename_i z
      obtain ⟨v, rfl, h1⟩ := reps1 r
      cases (show v = _ from h1)
      exact .inl ⟨_, _, rfl, ⟨sz_of z, rfl⟩, h.ok_at k rfl⟩
    · exact h.elim
  · obtain ⟨v, rfl, h1⟩ := reps1 r
    split at h
    · rename_i kvs e1
      obtain ⟨a, vs, rfl, h2, h3⟩ := dctD_at k h1 e1
      refine .inr ⟨a, vs, rfl, h2, ?_⟩
      rw [h3.len]
      exact h.ok_at k rfl
    · split at h
      · rename_i es e1
        obtain ⟨a, ys, rfl, h2, h3⟩ := itemsD_at k h1 e1
        refine .inl ⟨_, ys.length, rfl, ?_, ?_⟩
        · rcases h2 with h2 | h2
          · exact .inl ⟨ys, h2, rfl⟩
          · exact .inr ⟨ys, h2, rfl⟩
        · rw [h3.length]
          exact h.ok_at k rfl
      · exact h.elim
  · exact h.elim
def rIntU : List V → Hp → VK → Prop := fun xs H Q => ((∃ i, xs = [.int i] ∧ Q (.int i) H) ∨ ∃ k, xs = [.bl k] ∧ Q (.int (if k then 1 else 0)) H) ∨ ∃ a n, xs = [.str a] ∧ PySem.intText? a = some n ∧ a.length ≤ 640 ∧ Q (.int n) H
theorem oInt {X : Cx} : CallR X (.type "int") rIntU := call_int1.or call_int_str
theorem oIntS : CallS K mg rIntU intD := fun W A H E Q ds xs k r h => by
  unfold intD at h
  split at h
  · obtain ⟨v, rfl, h1⟩ := reps1 r
    cases (show v = _ from h1)
    exact .inl (.inl ⟨_, rfl, h.ok_at k rfl⟩)
  · obtain ⟨v, rfl, h1⟩ := reps1 r
    cases (show v = _ from h1)
    exact .inl (.inr ⟨_, rfl, h.ok_at k rfl⟩)
  · obtain ⟨v, rfl, h1⟩ := reps1 r
    cases (show v = _ from h1)
    split at h
    · rename_i n e1
      split at h
      · rename_i z
        exact .inr ⟨_, n, rfl, e1, z, h.ok_at k rfl⟩
      · exact h.elim
    · exact h.elim
  · exact h.elim
def rStrU : List V → Hp → VK → Prop := fun xs H Q => (∃ i : Int, xs = [.int i] ∧ i.natAbs.log2 < 1920 ∧ Q (.str (toString i)) H) ∨ ∃ a, xs = [.str a] ∧ Q (.str a) H
theorem oStr {X : Cx} : CallR X (.type "str") rStrU := call_str_int.or SkE.call_str_str
theorem oStrS : CallS K mg rStrU strD := fun W A H E Q ds xs k r h => by
  unfold strD at h
  split at h
  · obtain ⟨v, rfl, h1⟩ := reps1 r
    cases (show v = _ from h1)
    split at h
    · rename_i z
      exact .inl ⟨_, rfl, z, h.ok_at k rfl⟩
    · exact h.elim
  · obtain ⟨v, rfl, h1⟩ := reps1 r
    cases (show v = _ from h1)
    exact .inr ⟨_, rfl, h.ok_at k rfl⟩
  · exact h.elim
end

/-- max of a tuple of ints -/
theorem iter_intTup {prog : Program} {w : World} {B : Around} {E : Value → Shared → Prop} {s : Shared} {l : Addr} {items : Array Value} {Q : Value → Shared → Prop} (hl : s.heap.IsTuple l items)
    (h : ∀ s2 : Shared, s2 = { s with heap := s.heap.push { cls := .type "tuple_iterator", data := .fields #[.ref l, .int 0 0] } } →
      (s2.heap.IsTupleIter s.heap.objs.size l 0 ∧ s2.heap.IsTuple l items) → (∀ b ∈ [s.heap.objs.size, l], b < s2.heap.objs.size) → l ≠ s.heap.objs.size → Q (.ref s.heap.objs.size) s2) : wpAny (model prog w) B (pyIter (.ref l)) Q E s := by
  have hlt : l < s.heap.objs.size := by obtain ⟨_, e, _⟩ := hl; exact Heap.lt_size e
  refine wpAny_pyIter_tuple hl (h _ rfl ⟨⟨_, Heap.get?_push_size _ rfl, rfl, rfl⟩, hl.push _⟩ (fun b hb => ?_) (Nat.ne_of_lt hlt))
  rw [Heap.size_push]
  rcases List.mem_cons.mp hb with z | z
  · rw [z]
    exact Nat.lt_succ_self _
  · rw [List.mem_singleton.mp z]
    exact Nat.lt_succ_of_lt hlt
def rMaxT (K : PySem.W.Frag) : List V → Hp → VK → Prop := fun vs H Q => ∃ (a : Addr) (ns : List Int), vs = [V.ref a] ∧ SqT K H a (ns.map V.int) ∧ 0 < ns.length ∧ ∀ m, m ∈ ns → (∀ y, y ∈ ns → y ≤ m) → Q (.int m) H
theorem cr_maxT {X : Cx} (hc : X.calm = true) : CallR X (.builtin "max") (rMaxT X.K) := by
  intro pn st sg Hh vs us QQ II r hh
  obtain ⟨a, ns, rfl, hs, hne, q⟩ := hh
  obtain ⟨its, rv, ⟨o0, ho, hcl, n, hdat⟩, _⟩ := II.tuple hs
  rw [Vals.ref1 r]
  have hi := rv.ints
  obtain ⟨ys, e⟩ := hi.allInts.items
  have hn : numsOf (intItems ys).toList = ns := by rw [← e]; exact hi.numsOf
  rw [nums_intItems] at hn
  subst hn
  have hT : st.heap.IsTuple a (intItems ys) := ⟨o0, ho, hcl, n, by rw [hdat, ← e]⟩
  have hsz : 0 < ys.size := by simpa using hne
  refine call_max_walk (iter_intTup hT fun s2 e2 st2 hfp hlI => ?_)
  subst e2
  refine ⟨_, _, _, _, _, _, _, rfl, Walks.tuple (A := X.A.in1) (II.ok.hd hc) _ a hlI (intItems ys), st2, hfp, by simpa [intItems] using hsz, CmpOf.ints_gt (numAt ys) (fun _ _ => intItems_at), fun v h' tk hP hk => ?_⟩
  have hP' : (intItems ys)[argBest (fun i j => decide (numAt ys i > numAt ys j)) (ys.size - 1)]? = some v := by simpa [intItems] using hP
  have hk' : ∀ b o, st.heap.get? b = some o → h'.get? b = some o := fun b o e => by
    refine hk b o (fun hm => ?_) (Heap.get?_push_of_some _ e)
    rw [List.mem_singleton.mp hm] at e
    exact absurd (Heap.lt_size e) (Nat.lt_irrefl _)
  obtain ⟨t, rfl⟩ := intItems_at hP'
  obtain ⟨h1, h2⟩ := argBest_gt (numAt ys) (ys.size - 1)
  refine ⟨.int _, Hh, II.kept hk', ⟨_, rfl⟩, q _ ?_ fun y hy => ?_⟩
  · rw [numAt_eq]
    exact PySem.getD_mem (by rw [List.length_map, Array.length_toList]; omega)
  · obtain ⟨j, hj, rfl⟩ := mem_getD hy
    rw [List.length_map, Array.length_toList] at hj
    rw [← numAt_eq]
    exact h2 j (by omega)
def rMaxU (K : PySem.W.Frag) : List V → Hp → VK → Prop := fun xs H Q => (∃ i j, xs = [.int i, .int j] ∧ Q (.int (if j > i then j else i)) H) ∨ rMax K xs H Q ∨ rMaxT K xs H Q
theorem oMax {X : Cx} (hc : X.calm = true) : CallR X (.builtin "max") (rMaxU X.K) := (call_max2 hc).or ((cr_max hc).or (cr_maxT hc))
def rTupU (K : PySem.W.Frag) : List V → Hp → VK → Prop := fun xs H Q => ∃ p ys, xs = [.ref p] ∧ ((SqL K H p ys ∧ ∀ l, H l = none → Q (.ref l) (upd H l (.tup ys))) ∨ (SqT K H p ys ∧ Q (.ref p) H))
section
variable {K : PySem.W.Frag} {mg : Str → Option Value} {W : Wd} {A : AH} {H : Hp}
theorem oMaxS : CallS K mg (rMaxU K) maxD := fun W A H E Q ds xs k r h => by
  unfold maxD at h
  split at h
  · obtain ⟨v, u, rfl, h1, h2⟩ := reps2 r
    cases (show v = _ from h1)
    cases (show u = _ from h2)
    exact .inl ⟨_, _, rfl, h.ok_at k rfl⟩
  · obtain ⟨v, rfl, h1⟩ := reps1 r
    split at h
    · rename_i ns e1
      obtain ⟨es, e2, e3⟩ := Option.bind_eq_some_iff.mp e1
      split at h
      · rename_i mx e4
        obtain ⟨a, ys, rfl, h2, h3⟩ := itemsD_at k h1 e2
        have ey := intsD_at e3 h3
        subst ey
        have hne : 0 < ns.length := by
          cases ns with
          | nil => cases e4
          | cons _ _ => exact Nat.succ_pos _
        have go : ∀ m, m ∈ ns → (∀ y, y ∈ ns → y ≤ m) → Q (.int m) H := fun m q1 q2 => by
          rw [maxI_eq e4 q1 q2]
          exact h.ok_at k rfl
        rcases h2 with h2 | h2
        · exact .inr (.inl ⟨a, ns, rfl, h2, hne, go⟩)
        · exact .inr (.inr ⟨a, ns, rfl, h2, hne, go⟩)
      · exact h.elim
    · exact h.elim
  · exact h.elim
theorem oTupS : CallS K mg (rTupU K) tupD := fun W A H E Q ds xs k r h => by
  unfold tupD at h
  split at h
  · obtain ⟨v, rfl, h1⟩ := reps1 r
    obtain ⟨a, ys, rfl, h2, h3⟩ := tup_at k h1
    exact ⟨a, ys, rfl, .inr ⟨h2, h.ok_at k h1⟩⟩
  · obtain ⟨v, rfl, h1⟩ := reps1 r
    split at h
    · rename_i es e1
      obtain ⟨a, ys, rfl, h2, h3⟩ := seqL_at k h1 e1
      exact ⟨a, ys, rfl, .inl ⟨h2, fun l hl => post_tup k h h3 hl⟩⟩
    · exact h.elim
  · exact h.elim
end

/-! ### isinstance -/
def tyD (A : AH) : D → Option String
  | .non => some "NoneType"
  | .bl _ => some "bool"
  | .int _ => some "int"
  | .str _ => some "str"
  | .tup _ => some "tuple"
  | .lst _ => some "list"
  | .scr _ => some "list"
  | .dct _ _ => some "dict"
  | .ref n => match A[n]? with
    | some (.lst _) => some "list"
    | some (.dct _) => some "dict"
    | _ => none
/-- is a thing of the type a one of T? -/
def subTy (a T : String) : Bool := a == T || (a == "bool" && T == "int")
def isiD (T : String) (d : D) (A : AH) : R D := match tyD A d with
  | some a => .ok (.bl (subTy a T)) A
  | none => .bad
def isiD2 (T U : String) (d : D) (A : AH) : R D := match tyD A d with
  | some a => .ok (.bl (subTy a T || subTy a U)) A
  | none => .bad
/-- the types that are asked about -/
def askTy : List String := ["int", "bool", "str", "tuple", "list", "dict"]
theorem kit_all : ∀ a ∈ ["NoneType", "bool", "int", "str", "tuple", "list", "dict"], ∀ T ∈ askTy, kitB a T = some (subTy a T) := by decide +kernel
section
variable {K : PySem.W.Frag} {mg : Str → Option Value} {W : Wd} {A : AH} {H : Hp}
theorem tyD_at (k : Ok K mg W A H) {d : D} {v : V} (r : Rep K W d v) {a : String} (e : tyD A d = some a) : TyX K H v (.type a) ∧ a ∈ ["NoneType", "bool", "int", "str", "tuple", "list", "dict"] := by
  cases d with
  | non =>
    cases (show some "NoneType" = some a from e)
    cases (show v = .non from r)
    exact ⟨.base .non, by simp⟩
  | bl b =>
    cases (show some "bool" = some a from e)
    cases (show v = .bl b from r)
    exact ⟨.base (.bl b), by simp⟩
  | int b =>
    cases (show some "int" = some a from e)
    cases (show v = .int b from r)
    exact ⟨.base (.int b), by simp⟩
  | str b =>
    cases (show some "str" = some a from e)
    cases (show v = .str b from r)
    exact ⟨.base (.str b), by simp⟩
  | tup ds =>
    cases (show some "tuple" = some a from e)
    obtain ⟨p, xs, rfl, h1, _⟩ := tup_at k r
    rcases h1 with (h1 | ⟨o, h1⟩) | ⟨o, its, n, h1, h2, _⟩
    · exact ⟨.base (.tup h1), by simp⟩
    · exact ⟨.fTuple h1, by simp⟩
    · exact ⟨.kTuple h1 h2, by simp⟩
  | lst ds =>
    cases (show some "list" = some a from e)
    obtain ⟨p, xs, rfl, h1, _⟩ := r
    exact ⟨.base (.lst (k.frz _ _ h1)), by simp⟩
  | scr ns =>
    cases (show some "list" = some a from e)
    obtain ⟨p, rfl, h1⟩ := r
    rcases k.sqL h1 with (h1 | ⟨o, h1⟩) | ⟨o, its, n, h1, h2, _⟩
    · exact ⟨.base (.lst h1), by simp⟩
    · exact ⟨.base (.frz h1), by simp⟩
    · exact ⟨.kList h1 h2, by simp⟩
  | dct ks ds =>
    cases (show some "dict" = some a from e)
    obtain ⟨p, xs, rfl, h1, _⟩ := r
    exact ⟨.base (.dK (k.frz _ _ h1)), by simp⟩
  | ref n =>
    obtain ⟨p, rfl, hp⟩ := r
    unfold tyD at e
    dsimp only at e
    split at e
    · rename_i ds q
      cases e
      obtain ⟨xs, h1, _⟩ := k.obj n p _ hp q
      exact ⟨.base (.lst h1), by simp⟩
    · rename_i ds q
      cases e
      obtain ⟨xs, h1, _⟩ := k.obj n p _ hp q
      exact ⟨.base (.dK h1), by simp⟩
    · cases e
end
section
variable {X : Cx} {Wx : WX} {e : Expr} {te : TE} {me : ME} {p pos : Pos}
theorem sisi {T : String} {y : Str} {p2 : Pos} (hT : T ∈ askTy) (hm : X.mg "isinstance" = none) (hm2 : X.mg y = none) (h : SE X Wx e te me) (hg : Gl X "isinstance" := by rfl) (hg2 : Gl X y := by rfl) (hv : bootBuiltins y = some (.type T) := by decide +kernel)
    (hn : y ≠ "__name__" := by decide) (hdb : (y == ("__debug__" : Str)) = false := by decide)
    (he1 : starEach [.Name y p2] X.env = (false, eval (.Name y p2) X.env) :: starEach [] X.env := by rfl) (he2 : starEach [e, .Name y p2] X.env = (false, eval e X.env) :: starEach [.Name y p2] X.env := by rfl)
    (hpl : (backTo pos (starEach [.Name y p2] X.env)).any (·.1) = false := by rfl) :
    SE X Wx (.Call (.Name "isinstance" p) [e, .Name y p2] [] pos) (tCB (rIsi X.K) (tCons te (tCons (tC (.ty T)) tNil))) (mUn (isiD T) me) :=
  ⟨pe_callB call_isi hg hm (by decide +kernel) (pa_cons h.pe (pa_cons (pe_bltn hg2 hm2 hv rfl hn hdb) pa_nil he1) he2) (by decide) (by decide) he2 hpl, fun W σ s A H Q k sr z =>
    h.sim W σ s A H _ k sr (z.bind fun x A1 v W1 H1 e1 k1 r1 h1 => by
      show rIsi X.K [v, .ty T] H1 Q
      unfold isiD at h1
      split at h1
      · rename_i a e2
        obtain ⟨q1, q2⟩ := tyD_at k1 r1 e2
        exact ⟨v, .ty T, .type a, .type T, subTy a T, rfl, .ty T, q1, kit_ty (kit_all a q2 T hT), h1.ok_at k1 rfl⟩
      · exact h1.elim)⟩
end
end Tg

set_option Elab.async false
set_option linter.all false
set_option maxRecDepth 100000
set_option maxHeartbeats 2000000
/-! TgMeth: methods of lists, dicts, texts; dict displays. -/
namespace Tg
open PySem PySem.Spec PyProof.Rows L2

def tyMD (A : AH) (T : String) (d : D) : Bool :=
  if T = "list" then (seqL A d).isSome else if T = "dict" then (dctD A d).isSome else if T = "str" then (match d with
    | .str _ => true
    | _ => false) else false
def mMt (T : String) (f : D → List D → AH → R D) (mo : ME) (ma : MA) : ME := fun s A => (mo s A).bind fun x A1 => if tyMD A1 T x then (ma s A1).bind fun ds A2 => f x ds A2 else .bad
def MtS (K : PySem.W.Frag) (mg : Str → Option Value) (r : V → List V → Hp → VK → Prop) (f : D → List D → AH → R D) : Prop :=
  ∀ (W : Wd) (A : AH) (H : Hp) (E : XK) (Q : VK) (d : D) (x : V) (ds : List D) (xs : List V), Ok K mg W A H → Rep K W d x → Reps K W ds xs → Post K mg (Rep K) W H E Q (f d ds A) → r x xs H Q
section
variable {K : PySem.W.Frag} {mg : Str → Option Value} {W : Wd} {A : AH} {H : Hp}
theorem tyMD_at (k : Ok K mg W A H) {d : D} {x : V} (r : Rep K W d x) {T : String} (h : tyMD A T d = true) : tyV K T x H := by
  unfold tyMD at h
  split at h
  · rename_i e
    subst e
    obtain ⟨ds, e1⟩ := Option.isSome_iff_exists.mp h
    obtain ⟨a, xs, rfl, h1, h2⟩ := seqL_at k r e1
    exact .inl ⟨rfl, xs, h1⟩
  · split at h
    · rename_i e
      subst e
      obtain ⟨ds, e1⟩ := Option.isSome_iff_exists.mp h
      obtain ⟨a, xs, rfl, h1, h2⟩ := dctD_at k r e1
      exact .inr (.inr (.inl ⟨rfl, .inl ⟨xs, h1⟩⟩))
    · split at h
      · rename_i e
        subst e
        split at h
        · cases (show x = _ from r)
          exact rfl
        · cases h
      · cases h
end
section
variable {X : Cx} {Wx : WX} {e o : Expr} {es : List Expr} {to : TE} {t : TA} {mo : ME} {m : MA} {apos cpos : Pos} {name : Str} {T id : String} {r : V → List V → Hp → VK → Prop} {f : D → List D → AH → R D}
theorem smt (pa : PlainAttrs T) (slot : Slot T name id) (hty : typeOf (.builtin id) = pure (.type "method_descriptor")) (hm : MtR X id r) (hs : MtS X.K X.mg r f) (ho : SE X Wx o to mo) (ha : SA X Wx (e :: es) t m)
    (hbase : attributeBase o name X.env (eval o X.env) = eval o X.env := by rfl)
    (hfew : ((backTo cpos (starEach (e :: es) X.env)).all (fun x => !x.1) && (backToKw cpos (keywordEach [] X.env)).all (fun x => x.1.isSome) && decide ((e :: es).length + ([] : List Keyword).length + (if ([] : List Keyword).isEmpty then 0 else 1) < 30)) = true := by rfl)
    (hline : (apos.endLine == cpos.line) = true := by rfl) (hst : starEach (e :: es) X.env = (false, eval e X.env) :: starEach es X.env := by rfl) (hplain : (backTo cpos (starEach es X.env)).any (·.1) = false := by rfl) :
    SE X Wx (.Call (.Attribute o name apos) (e :: es) [] cpos) (tBM X.K T r to t) (mMt T f mo m) :=
  ⟨pe_bm pa slot hty hm ho.pe ha.pa hbase hfew hline hst hplain, fun W σ s A H Q k sr z => ho.sim W σ s A H _ k sr (z.bind fun x A1 v W1 H1 e1 k1 r1 h1 => by
    by_cases q : tyMD A1 T x = true
    · rw [if_pos q] at h1
      exact ⟨tyMD_at k1 r1 q, ha.sim W1 σ s A1 H1 _ k1 (sr.le e1.le) (h1.bind fun ds A2 us W2 H2 e2 k2 r2 h2 => hs W2 A2 H2 _ Q x v ds us k2 (r1.le e2.le) r2 h2)⟩
    · rw [if_neg q] at h1
      exact h1.elim)⟩
end

/-! ### lists that change -/
def appD : D → List D → AH → R D
  | .ref n, [d], A => match A[n]? with
    | some (.lst ds) => if ds.length < 16777216 then .ok .non (A.set n (.lst (ds ++ [d]))) else .bad
    | _ => .bad
  | _, _, _ => .bad
def extD : D → List D → AH → R D
  | .ref n, [d], A => match A[n]?, lstL A d with
    | some (.lst ds), some es => if ds.length + es.length ≤ 16777216 then .ok .non (A.set n (.lst (ds ++ es))) else .bad
    | _, _ => .bad
  | _, _, _ => .bad
section
variable {K : PySem.W.Frag} {mg : Str → Option Value}
theorem obl {W : Wd} {ds : List D} {xs : List V} (h : Reps K W ds xs) : ObR K mg W (.lst ds) (some (.lst xs)) := ⟨xs, rfl, h⟩
theorem obd {W : Wd} {kvs : List (Key × D)} {vs : List (Key × V)} (h : KVR K W kvs vs) : ObR K mg W (.dct kvs) (some (.dK vs)) := ⟨vs, rfl, h.1, h.2⟩
theorem post_write {W : Wd} {A : AH} {H : Hp} {E : XK} {Q : VK} {n : Nat} {a : Addr} {d : D} {v : V} {u : AO} {o : HO} (k : Ok K mg W A H) (ha : W.m[n]? = some a) (ob : ObR K mg W u (some o)) (rv : Rep K W d v)
    (h : Post K mg (Rep K) W H E Q (.ok d (A.set n u))) (nl : NL A n := by (first | exact nl_of ‹_› rfl | (apply nl_of <;> first | assumption | rfl))) (hu : u.isL = false := by rfl) : Q v (upd H a o) := by
  obtain ⟨k1, e1⟩ := k.write ha ob nl hu
  exact h _ _ _ e1 k1 (rv.le e1.le)
theorem oAppS : MtS K mg rAppend appD := fun W A H E Q d x ds xs k rx r h => by
  unfold appD at h
  split at h
  · obtain ⟨a, rfl, ha⟩ := rx
    obtain ⟨v, rfl, h1⟩ := reps1 r
    split at h
    · rename_i es q
      split at h
      · rename_i z
        obtain ⟨ys, h2, h3⟩ := k.lookL ha q
        exact ⟨a, ys, v, rfl, rfl, h2, by rw [sizeLine_eq, h3.length]; exact z, post_write (d := .non) k ha (obl (h3.append (Reps.one h1))) rfl h⟩
      · exact h.elim
    · exact h.elim
  · exact h.elim
theorem oExtS : MtS K mg rExtend extD := fun W A H E Q d x ds xs k rx r h => by
  unfold extD at h
  split at h
  · obtain ⟨a, rfl, ha⟩ := rx
    obtain ⟨v, rfl, h1⟩ := reps1 r
    split at h
    · rename_i es fs q q2
      split at h
      · rename_i z
        obtain ⟨ys, h2, h3⟩ := k.lookL ha q
        obtain ⟨b, zs, rfl, h4, h5⟩ := lstL_at k h1 q2
        exact ⟨a, b, ys, zs, rfl, rfl, h2, h4, by rw [h3.length, h5.length]; exact sz_of z, post_write (d := .non) k ha (obl (h3.append h5)) rfl h⟩
      · exact h.elim
    · exact h.elim
  · exact h.elim
end

/-! ### texts -/
def strsD : List D → Option (List Str)
  | [] => some []
  | .str z :: ds => (strsD ds).map (z :: ·)
  | _ :: _ => none
def joinD : D → List D → AH → R D
  | .str a, [d], A => match (itemsD A d).bind strsD with
    | some ys => if (ys.map (·.length)).sum + ys.length * a.length ≤ 16777216 then .ok (.str (Txt.join a ys)) A else .bad
    | none => .bad
  | _, _, _ => .bad
section
variable {K : PySem.W.Frag} {mg : Str → Option Value}
theorem strsD_at {W : Wd} : ∀ {ds : List D} {ys : List Str} {xs : List V}, strsD ds = some ys → Reps K W ds xs → xs = ys.map V.str
  | [], ys, xs, e, r => by
    cases (show some [] = some ys from e)
    exact r
  | d :: ds, ys, xs, e, r => by
    cases d with
    | str z =>
      obtain ⟨ys', e1, rfl⟩ := Option.map_eq_some_iff.mp (show (strsD ds).map (z :: ·) = some ys from e)
      obtain ⟨v, r', rfl, h1, h2⟩ := r
      rw [strsD_at e1 h2, (show v = .str z from h1)]
      rfl
    | _ => cases (show none = some ys from e)
theorem oJoinS : MtS K mg (fun x xs H Q => ∃ a p, ∃ ys : List Str, x = .str a ∧ xs = [.ref p] ∧ (SqL K H p (ys.map V.str) ∨ SqT K H p (ys.map V.str)) ∧ (ys.map (·.length)).sum + ys.length * a.length ≤ 16777216 ∧ Q (.str (Txt.join a ys)) H) joinD :=
  fun W A H E Q d x ds xs k rx r h => by
    unfold joinD at h
    split at h
    · cases (show x = _ from rx)
      obtain ⟨v, rfl, h1⟩ := reps1 r
      split at h
      · rename_i ys e1
        obtain ⟨es, e2, e3⟩ := Option.bind_eq_some_iff.mp e1
        split at h
        · rename_i z
          obtain ⟨p, zs, rfl, h2, h3⟩ := itemsD_at k h1 e2
          have ez := strsD_at e3 h3
          subst ez
          exact ⟨_, p, ys, rfl, rfl, h2, z, h.ok_at k rfl⟩
        · exact h.elim
      · exact h.elim
    · exact h.elim
end

/-! ### dicts -/
def getD1 (x y : D) (A : AH) : R D := match dctD A x, keyD y with
  | some kvs, some k => .ok ((lkK kvs k).getD .non) A
  | _, _ => .bad
def getD2 (x y z : D) (A : AH) : R D := match dctD A x, keyD y with
  | some kvs, some k => .ok ((lkK kvs k).getD z) A
  | _, _ => .bad
def mGet1 (o y : ME) : ME := fun s A => (o s A).bind fun x A1 => if (dctD A1 x).isSome then (y s A1).bind fun d A2 => getD1 x d A2 else .bad
def mGet2 (o y z : ME) : ME := fun s A => (o s A).bind fun x A1 => if (dctD A1 x).isSome then (y s A1).bind fun d A2 => (z s A2).bind fun e A3 => getD2 x d e A3 else .bad
section
variable {X : Cx} {Wx : WX} {o e f : Expr} {to te tf : TE} {mo me mf : ME} {apos cpos : Pos} {kk : Nat}
theorem isD_of {K : PySem.W.Frag} {mg : Str → Option Value} {W : Wd} {A : AH} {H : Hp} (k : Ok K mg W A H) {d : D} {x : V} (r : Rep K W d x) (h : (dctD A d).isSome = true) : ∃ a, x = .ref a ∧ IsD H a := by
  obtain ⟨kvs, e1⟩ := Option.isSome_iff_exists.mp h
  obtain ⟨a, vs, rfl, h1, _⟩ := dctD_at k r e1
  exact ⟨a, rfl, .inl ⟨vs, .inl h1⟩⟩
theorem sget2 (hr : Room kk X.A) (ho : SE X Wx o to mo) (he : SE X Wx e te me) (hf : SE X Wx f tf mf) (m : M2 X o "get" apos e f cpos := by exact ⟨by rfl, by rfl, by rfl, by rfl⟩) : SE X Wx (.Call (.Attribute o "get" apos) [e, f] [] cpos) (tDGet2 to te tf) (mGet2 mo me mf) :=
  ⟨pe_dget2 (room_u1 hr) ho.pe he.pe hf.pe m, fun W σ s A H Q k sr z => ho.sim W σ s A H _ k sr (z.bind fun x A1 v W1 H1 e1 k1 r1 h1 => by
    by_cases q : (dctD A1 x).isSome = true
    · rw [if_pos q] at h1
      obtain ⟨a, rfl, hd⟩ := isD_of k1 r1 q
      refine ⟨a, rfl, hd, he.sim W1 σ s A1 H1 _ k1 (sr.le e1.le) (h1.bind fun y A2 u W2 H2 e2 k2 r2 h2 => hf.sim W2 σ s A2 H2 _ k2 (sr.le (e1.trans e2).le) (h2.bind fun dz A3 uz W3 H3 e3 k3 r3 h3 => ?_))⟩
      unfold getD2 at h3
      split at h3
      · rename_i kvs kx q1 q2
        obtain ⟨b, vs, ev, h4, h5⟩ := dctD_at k3 (r1.le (e2.trans e3).le) q1
        cases ev
        refine ⟨valV vs kx, ?_, h3.ok_at k3 ?_⟩
        · rw [keyD_at r2 q2]
          exact .k h4
        · cases q3 : lkK kvs kx with
          | none =>
            rw [h5.none q3]
            exact r3
          | some d =>
            obtain ⟨w', h6, h7⟩ := h5.get q3
            rw [h6]
            exact h7
      · exact h3.elim
    · rw [if_neg q] at h1
      exact h1.elim)⟩
end

/-! ### {k: v, ..} -/
abbrev MP := Sl → AH → R (List (D × D))
def RepP (K : PySem.W.Frag) (W : Wd) : List (D × D) → List (V × V) → Prop
  | [], ps => ps = []
  | p :: ds, ps => ∃ q r, ps = q :: r ∧ Rep K W p.1 q.1 ∧ Rep K W p.2 q.2 ∧ RepP K W ds r
structure SPs (X : Cx) (Wx : WX) (pos : Pos) (keys : List (Option Expr)) (values : List Expr) (trs : List (TE × TE)) (m : MP) : Prop where
  pps : PPs X pos keys values trs
  sim : ∀ (W : Wd) (σ : L2.St) (s : Sl) (A : AH) (H : Hp) (Q : List (V × V) → Hp → Prop), Ok X.K X.mg W A H → SlR X.K W s σ → Post X.K X.mg (RepP X.K) W H (fun c d H' => Wx c d σ H') Q (m s A) → tPairs trs σ H Q
def mPNil : MP := fun _ A => .ok [] A
def mPCons (a b : ME) (r : MP) : MP := fun s A => (a s A).bind fun x A1 => (b s A1).bind fun y A2 => (r s A2).bind fun ps A3 => .ok ((x, y) :: ps) A3
def keysD : List (D × D) → Option (List (Key × D))
  | [] => some []
  | p :: ps => match keyD p.1, keysD ps with
    | some k, some kvs => some ((k, p.2) :: kvs)
    | _, _ => none
def mergeD (kvs more : List (Key × D)) : List (Key × D) := more.foldl (fun acc kv => ptK acc kv.1 kv.2) kvs
/-- a dict that lies still; one that will change -/
def mDct (m : MP) : ME := fun s A => (m s A).bind fun ps A1 => match keysD ps with
  | some kvs => if kvs.length ≤ 15 then .ok (.dct ((mergeD [] kvs).map (·.1)) ((mergeD [] kvs).map (·.2))) A1 else .bad
  | none => .bad
def mDctN (m : MP) : ME := fun s A => (m s A).bind fun ps A1 => match keysD ps with
  | some kvs => if kvs.length ≤ 15 then .ok (.ref A1.length) (A1 ++ [.dct (mergeD [] kvs)]) else .bad
  | none => .bad
section
variable {K : PySem.W.Frag} {mg : Str → Option Value} {W : Wd}
theorem RepP.le {W' : Wd} (l : Le W W') : ∀ {ds : List (D × D)} {ps : List (V × V)}, RepP K W ds ps → RepP K W' ds ps
  | [], _, h => h
  | _ :: _, _, h => by
    obtain ⟨q, r, e, h1, h2, h3⟩ := h
    exact ⟨q, r, e, h1.le l, h2.le l, RepP.le l h3⟩
theorem keysD_at : ∀ {ds : List (D × D)} {ps : List (V × V)} {kvs : List (Key × D)}, RepP K W ds ps → keysD ds = some kvs → ∃ vs : List (Key × V), ps = vs.map (fun kv => (kV kv.1, kv.2)) ∧ KVR K W kvs vs
  | [], ps, kvs, r, e => by
    cases (show some [] = some kvs from e)
    cases (show ps = [] from r)
    exact ⟨[], rfl, rfl, rfl⟩
  | p :: ds, ps, kvs, r, e => by
    obtain ⟨q, r', rfl, h1, h2, h3⟩ := r
    unfold keysD at e
    split at e
    · rename_i kx kvs' e1 e2
      cases e
      obtain ⟨vs, e3, e4⟩ := keysD_at h3 e2
      refine ⟨(kx, q.2) :: vs, ?_, KVR.mk_cons h2 e4⟩
      rw [List.map_cons, ← e3, ← keyD_at h1 e1]
    · cases e
theorem KVR.merge : ∀ {more : List (Key × D)} {ms : List (Key × V)} {kvs : List (Key × D)} {vs : List (Key × V)}, KVR K W more ms → KVR K W kvs vs → KVR K W (mergeD kvs more) (mergeK vs ms)
  | [], ms, kvs, vs, r, r' => by
    cases r.nil_iff
    exact r'
  | p :: more, ms, kvs, vs, r, r' => by
    obtain ⟨v, ms', rfl, h1, h2⟩ := r.cons_iff
    have e : mergeK vs ((p.1, v) :: ms') = mergeK (putK vs p.1 v) ms' := rfl
    rw [e]
    exact KVR.merge (more := more) h2 (r'.put h1)
end
section
variable {X : Cx} {Wx : WX} {pos : Pos} {a b : Expr} {keys : List (Option Expr)} {values : List Expr} {ta tb : TE} {ma mb : ME} {trs : List (TE × TE)} {m : MP}
theorem spnil : SPs X Wx pos [] [] [] mPNil := ⟨pps_nil, fun W σ s A H Q k sr h => h.ok_at k rfl⟩
theorem spcons (ha : SE X Wx a ta ma) (hb : SE X Wx b tb mb) (h : SPs X Wx pos keys values trs m) : SPs X Wx pos (some a :: keys) (b :: values) ((ta, tb) :: trs) (mPCons ma mb m) :=
  ⟨pps_cons ha.pe hb.pe h.pps, fun W σ s A H Q k sr z => ha.sim W σ s A H _ k sr (z.bind fun x A1 v W1 H1 e1 k1 r1 h1 => hb.sim W1 σ s A1 H1 _ k1 (sr.le e1.le) (h1.bind fun y A2 u W2 H2 e2 k2 r2 h2 =>
    h.sim W2 σ s A2 H2 _ k2 (sr.le (e1.trans e2).le) (h2.bind fun ps A3 qs W3 H3 e3 k3 r3 h3 => h3.ok_at k3 ⟨(v, u), qs, rfl, r1.le (e2.trans e3).le, r2.le e3.le, r3⟩)))⟩
theorem sdct (h : SPs X Wx pos keys values trs m) (hall : keys.all (·.isSome) = true := by rfl) (hl : keys.length = values.length := by rfl) (h0 : keys ≠ [] := by (intro z; cases z)) (h15 : keys.length ≤ 15 := by decide) : SE X Wx (.Dict keys values pos) (tDisp trs) (mDct m) :=
  ⟨pe_disp h.pps hall hl h0 h15, fun W σ s A H Q k sr z p hp => by
    obtain ⟨k0, e0⟩ := k.aside hp (.dK [])
    refine h.sim W σ s A _ _ k0 (sr.le e0.le) (z.bind0 e0 fun ps A1 qs W1 H1 e1 k1 r1 h1 => ?_)
    obtain ⟨nm, nF, k2, e2, hh⟩ := Ok.undo hp k e1 k1
    refine ⟨hh, ?_⟩
    split at h1
    · rename_i kvs q
      split at h1
      · rename_i q15
        obtain ⟨vs, ev, rr⟩ := keysD_at r1 q
        refine ⟨vs, ev, by rw [rr.len]; exact q15, ?_⟩
        have mm := KVR.merge rr (kvs := []) (vs := []) ⟨rfl, rfl⟩
        obtain ⟨k3, e3⟩ := k2.frozen delH_same (.dK (mergeK [] vs))
        rw [upd_delH] at k3 e3
        exact h1 _ _ _ (e2.trans e3) k3 ⟨p, _, rfl, upd_same, mm.1, mm.2.le e3.le⟩
      · exact h1.elim
    · exact h1.elim⟩
theorem sdctN (h : SPs X Wx pos keys values trs m) (hall : keys.all (·.isSome) = true := by rfl) (hl : keys.length = values.length := by rfl) (h0 : keys ≠ [] := by (intro z; cases z)) (h15 : keys.length ≤ 15 := by decide) : SE X Wx (.Dict keys values pos) (tDisp trs) (mDctN m) :=
  ⟨pe_disp h.pps hall hl h0 h15, fun W σ s A H Q k sr z p hp => by
    obtain ⟨k0, e0⟩ := k.aside hp (.dK [])
    refine h.sim W σ s A _ _ k0 (sr.le e0.le) (z.bind0 e0 fun ps A1 qs W1 H1 e1 k1 r1 h1 => ?_)
    obtain ⟨nm, nF, k2, e2, hh⟩ := Ok.undo hp k e1 k1
    refine ⟨hh, ?_⟩
    split at h1
    · rename_i kvs q
      split at h1
      · rename_i q15
        obtain ⟨vs, ev, rr⟩ := keysD_at r1 q
        refine ⟨vs, ev, by rw [rr.len]; exact q15, ?_⟩
        have mm := KVR.merge rr (kvs := []) (vs := []) ⟨rfl, rfl⟩
        have l : Le W1 ⟨W1.F, W1.m ++ [p]⟩ := ⟨fun _ _ e => e, [p], rfl⟩
        obtain ⟨k3, e3⟩ := k2.fresh delH_same (obd (mm.le l))
        rw [upd_delH] at k3 e3
        refine h1 _ _ _ (e2.trans e3) k3 ⟨p, rfl, ?_⟩
        rw [← k2.len]
        exact List.getElem?_concat_length
      · exact h1.elim
    · exact h1.elim⟩
end
end Tg

set_option Elab.async false
set_option linter.all false
set_option maxRecDepth 100000
set_option maxHeartbeats 2000000
/-! TgStmt: statements, loops, comprehensions. -/
namespace Tg
open PySem PySem.Spec PyProof.Rows L2

inductive RS where
  | nx (s : Sl) (A : AH)
  | rt (d : D) (A : AH)
  | bk (s : Sl) (A : AH)
  | ct (s : Sl) (A : AH)
  | exc (x : XV) (s : Sl) (A : AH)
  | bad
abbrev MS := Sl → AH → RS
def PostS (K : PySem.W.Frag) (mg : Str → Option Value) (W : Wd) (H : Hp) (De : Ends) (Wx : WX) : RS → Prop
  | .nx s A => ∀ W' σ' H', Ext W H W' H' → Ok K mg W' A H' → SlR K W' s σ' → De.nx σ' H'
  | .rt d A => ∀ W' v H', Ext W H W' H' → Ok K mg W' A H' → Rep K W' d v → De.rt v H'
  | .bk s A => ∀ W' σ' H', Ext W H W' H' → Ok K mg W' A H' → SlR K W' s σ' → De.bk σ' H'
  | .ct s A => ∀ W' σ' H', Ext W H W' H' → Ok K mg W' A H' → SlR K W' s σ' → De.ct σ' H'
  | .exc x s A => ∀ W' σ' H' c d, Ext W H W' H' → Ok K mg W' A H' → SlR K W' s σ' → XRep K mg W' x c d H' → Wx c d σ' H'
  | .bad => False
section
variable {K : PySem.W.Frag} {mg : Str → Option Value} {W W1 : Wd} {H H1 : Hp} {De : Ends} {Wx : WX}
theorem PostS.ext {r : RS} (e : Ext W H W1 H1) (h : PostS K mg W H De Wx r) : PostS K mg W1 H1 De Wx r := by
  cases r with
  | nx s A => exact fun W' σ' H' x => h W' σ' H' (e.trans x)
  | rt s A => exact fun W' σ' H' x => h W' σ' H' (e.trans x)
  | bk s A => exact fun W' σ' H' x => h W' σ' H' (e.trans x)
  | ct s A => exact fun W' σ' H' x => h W' σ' H' (e.trans x)
  | exc y s A => exact fun W' σ' H' c d x => h W' σ' H' c d (e.trans x)
  | bad => exact h
theorem PostS.nx_at {s : Sl} {A : AH} {σ : L2.St} (h : PostS K mg W H De Wx (.nx s A)) (k : Ok K mg W A H) (sr : SlR K W s σ) : De.nx σ H := h W σ H (Ext.refl W H) k sr
end
def SimS (K : PySem.W.Frag) (mg : Str → Option Value) (Wx : WX) (t : TS) (m : MS) : Prop :=
  ∀ (W : Wd) (σ : L2.St) (s : Sl) (A : AH) (H : Hp) (De : Ends), Ok K mg W A H → SlR K W s σ → PostS K mg W H De Wx (m s A) → t De σ H
structure SS (X : Cx) (Wx : WX) (st : Stmt) (t : TS) (m : MS) : Prop where
  ps : PS X st t
  sim : SimS X.K X.mg Wx t m
structure SSs (X : Cx) (Wx : WX) (st : List Stmt) (t : TS) (m : MS) : Prop where
  ps : PSs X st t
  sim : SimS X.K X.mg Wx t m
/-- behind an expression -/
def R.thenS {α : Type} (r : R α) (s : Sl) (f : α → AH → RS) : RS := match r with
  | .ok a A => f a A
  | .exc x A => .exc x s A
  | .bad => .bad
@[simp] theorem R.thenS_ok {α : Type} (a : α) (A : AH) (s : Sl) (f : α → AH → RS) : (R.ok a A).thenS s f = f a A := rfl
@[simp] theorem R.thenS_exc {α : Type} (x : XV) (A : AH) (s : Sl) (f : α → AH → RS) : (R.exc x A).thenS s f = .exc x s A := rfl
@[simp] theorem R.thenS_bad {α : Type} (s : Sl) (f : α → AH → RS) : (R.bad : R α).thenS s f = .bad := rfl
theorem PostS.bind {α β : Type} {K : PySem.W.Frag} {mg : Str → Option Value} {rel : Wd → α → β → Prop} {W : Wd} {H : Hp} {De : Ends} {Wx : WX} {Q : β → Hp → Prop} {r : R α} {s : Sl} {σ : L2.St} {f : α → AH → RS} (sr : SlR K W s σ) (h : PostS K mg W H De Wx (r.thenS s f))
    (g : ∀ a A1 b W1 H1, Ext W H W1 H1 → Ok K mg W1 A1 H1 → rel W1 a b → PostS K mg W1 H1 De Wx (f a A1) → Q b H1) : Post K mg rel W H (fun c d H' => Wx c d σ H') Q r := by
  cases r with
  | ok a A' => exact fun W' H' b x k z => g a A' b W' H' x k z (PostS.ext x h)
  | exc x A' => exact fun W' H' c d y k z => h W' σ H' c d y k (sr.le y.le) z
  | bad => exact h

def mNx : MS := fun s A => .nx s A
def mSeq (a b : MS) : MS := fun s A => match a s A with
  | .nx s1 A1 => b s1 A1
  | r => r
def mDrop (m : ME) : MS := fun s A => (m s A).thenS s fun _ A1 => .nx s A1
def mRet (m : ME) : MS := fun s A => (m s A).thenS s fun d A1 => .rt d A1
def mRetN : MS := fun _ A => .rt .non A
def mIfS (c : MT) (a b : MS) : MS := fun s A => (c s A).thenS s fun k A1 => if k then a s A1 else b s A1
def mCt : MS := fun s A => .ct s A
def mBk : MS := fun s A => .bk s A
def mNever : MS := fun _ _ => .bad
abbrev MG := D → Sl → Option Sl
def mAsg (m : ME) (g : MG) : MS := fun s A => (m s A).thenS s fun d A1 => match g d s with
  | some s1 => .nx s1 A1
  | none => .bad
def gmN (i : Nat) : MG := fun d s => some (s.set i (some d))
abbrev MGs := List D → Sl → Option Sl
def gmNil : MGs := fun ds s => match ds with
  | [] => some s
  | _ => none
def gmCons (g : MG) (gs : MGs) : MGs := fun ds s => match ds with
  | d :: r => match g d s with
    | some s1 => gs r s1
    | none => none
  | _ => none
def gmTup (n : Nat) (gs : MGs) : MG := fun d s => match d with
  | .tup ds => if ds.length = n then gs ds s else none
  | _ => none
theorem wipe_set {i : Nat} {o : Option V} : ∀ {vs : List Nat} {σ : L2.St}, wipe (σ.set i o) vs = if i ∈ vs then wipe σ vs else (wipe σ vs).set i o
  | [], σ => rfl
  | v :: vs, σ => by
    show (wipe (σ.set i o) vs).set v none = if i ∈ v :: vs then (wipe σ vs).set v none else ((wipe σ vs).set v none).set i o
    rw [wipe_set]
    by_cases h : i ∈ vs
    · rw [if_pos h, if_pos (List.mem_cons_of_mem _ h)]
    · rw [if_neg h]
      by_cases q : i = v
      · subst q
        rw [if_pos (List.mem_cons_self ..), List.set_set]
      · rw [if_neg (by simp only [List.mem_cons, not_or]; exact ⟨q, h⟩), List.set_comm _ _ q]
theorem wipe_in {i : Nat} {o : Option V} {vs : List Nat} {σ : L2.St} (h : i ∈ vs) : wipe (σ.set i o) vs = wipe σ vs := by rw [wipe_set, if_pos h]
def wpD (s : Sl) : List Nat → Sl
  | [] => s
  | v :: vs => (wpD s vs).set v none
theorem SlR.wipe {K : PySem.W.Frag} {W : Wd} {s : Sl} {σ : L2.St} (h : Tg.SlR K W s σ) : ∀ vs : List Nat, Tg.SlR K W (wpD s vs) (L2.wipe σ vs)
  | [] => h
  | v :: vs => (SlR.wipe h vs).unset v
/-- a target; is: its slots -/
structure SG (X : Cx) (tg : Expr) (g : TG) (m : MG) (is : List Nat) : Prop where
  pg : PG X tg g
  sim : ∀ (W : Wd) (σ : L2.St) (s s1 : Sl) (A : AH) (H : Hp) (d : D) (x : V) (Q : L2.St → Hp → Prop), Ok X.K X.mg W A H → SlR X.K W s σ → Rep X.K W d x → m d s = some s1 →
    (∀ σ', SlR X.K W s1 σ' → (∀ vs, (∀ i ∈ is, i ∈ vs) → wipe σ' vs = wipe σ vs) → Q σ' H) → g x σ H Q
structure SGs (X : Cx) (tg : List Expr) (g : TGs) (m : MGs) (is : List Nat) : Prop where
  pgs : PGs X tg g
  sim : ∀ (W : Wd) (σ : L2.St) (s s1 : Sl) (A : AH) (H : Hp) (ds : List D) (xs : List V) (Q : L2.St → Hp → Prop), Ok X.K X.mg W A H → SlR X.K W s σ → Reps X.K W ds xs → m ds s = some s1 →
    (∀ σ', SlR X.K W s1 σ' → (∀ vs, (∀ i ∈ is, i ∈ vs) → wipe σ' vs = wipe σ vs) → Q σ' H) → g xs σ H Q
section
variable {X : Cx} {Wx : WX} {e : Expr} {es : List Expr} {te : TE} {me : ME} {pos : Pos}
theorem gname {i : Nat} {x : Str} (hN : X.N.Nodup) (hi : X.N[i]? = some x := by rfl) (hx : Loc X.env.scope x := by first | exact Or.inl rfl | exact Or.inr rfl) (hf : X.fn x = true ∨ X.env.scope.names.lookup x = some .local := by first | exact .inl rfl | exact .inr rfl | assumption) :
    SG X (.Name x pos) (gName i) (gmN i) [i] := ⟨pg_name hN hi hx hf, fun W σ s s1 A H d x Q k sr r e h => by
  cases e
  exact h _ (sr.set i r) fun vs hv => wipe_in (hv i (by simp))⟩
theorem gnil : SGs X [] gNil gmNil [] := ⟨pgs_nil, fun W σ s s1 A H ds xs Q k sr r e h => by
  cases ds with
  | nil =>
    cases e
    exact ⟨r, h σ sr fun _ _ => rfl⟩
  | cons d ds => cases e⟩
theorem gcons {g : TG} {gs : TGs} {m : MG} {ms : MGs} {is js : List Nat} (h1 : SG X e g m is) (h2 : SGs X es gs ms js) (hs : (assignEach (e :: es) X.env).map (·.2) = assign e X.env :: (assignEach es X.env).map (·.2) := by rfl) :
    SGs X (e :: es) (gCons g gs) (gmCons m ms) (is ++ js) := ⟨pgs_cons h1.pg h2.pgs hs, fun W σ s s1 A H ds xs Q k sr r eq h => by
  cases ds with
  | nil => cases eq
  | cons d ds =>
    obtain ⟨v, r', rfl, r1, r2⟩ := r
    unfold gmCons at eq
    dsimp only at eq
    split at eq
    · rename_i s2 e1
      exact ⟨v, r', rfl, h1.sim W σ s s2 A H d v _ k sr r1 e1 fun σ2 sr2 w2 => h2.sim W σ2 s2 s1 A H ds r' _ k sr2 r2 eq fun σ3 sr3 w3 => h σ3 sr3 fun vs hv =>
        (w3 vs fun i hi => hv i (List.mem_append_right _ hi)).trans (w2 vs fun i hi => hv i (List.mem_append_left _ hi))⟩
    · cases eq⟩
theorem gtup {gs : TGs} {ms : MGs} {is : List Nat} {n j : Nat} (hc : X.calm = true) (h : SGs X es gs ms is) (hn : (assignEach es X.env).length = n := by rfl) (hst : (assignEach es X.env).findIdx? (·.1) = none := by rfl) :
    SG X (.Tuple es j pos) (gTup X.K n gs) (gmTup n ms) is := ⟨pg_tup hc h.pgs hn hst, fun W σ s s1 A H d x Q k sr r eq hq => by
  unfold gmTup at eq
  split at eq
  · rename_i ds
    split at eq
    · rename_i hl
      obtain ⟨a, xs, rfl, q1, q2⟩ := tup_at k r
      exact ⟨a, xs, rfl, q1, q2.length.trans hl, h.sim W σ s s1 A H ds xs Q k sr q2 eq hq⟩
    · cases eq
  · cases eq⟩
end

section
variable {X : Cx} {Wx : WX} {c e o : Expr} {es : List Expr} {st : Stmt} {rest as bs : List Stmt} {te to : TE} {me mo : ME} {tc : TT} {mc' : MT} {t u : TS} {m n : MS} {pos pos' : Pos}
theorem ssnil : SSs X Wx [] tNext mNx := ⟨pss_nil, fun W σ s A H De k sr h => h.nx_at k sr⟩
theorem sscons (h1 : SS X Wx st t m) (h2 : SSs X Wx rest u n) : SSs X Wx (st :: rest) (tSeq t u) (mSeq m n) :=
  ⟨pss_cons h1.ps h2.ps, fun W σ s A H De k sr h => h1.sim W σ s A H _ k sr (by
    unfold mSeq at h
    split at h
    · rename_i s1 A1 e1
      rw [e1]
      exact fun W' σ' H' x k' sr' => h2.sim W' σ' s1 A1 H' De k' sr' (PostS.ext x h)
    · rename_i z
      generalize hm : m s A = r at h z
      cases r with
      | nx s1 A1 => exact absurd rfl (z s1 A1)
      | _ => exact h)⟩
theorem ssone (h1 : SS X Wx st t m) : SSs X Wx [st] t m := ⟨pss_one h1.ps, h1.sim⟩
theorem sexpr (h : SE X Wx e te me) (hs : swapsWith e none pos.line X.env = pure false := by rfl) : SS X Wx (.Expr e pos) (tDrop te) (mDrop me) :=
  ⟨ps_expr h.pe hs, fun W σ s A H De k sr z => h.sim W σ s A H _ k sr (PostS.bind (rel := Rep X.K) sr z fun d A1 v W1 H1 e1 k1 r1 h1 => h1.nx_at k1 (sr.le e1.le))⟩
theorem sret (h : SE X Wx e te me) : SS X Wx (.Return (some e) pos) (tRet te) (mRet me) :=
  ⟨ps_ret h.pe, fun W σ s A H De k sr z => h.sim W σ s A H _ k sr (PostS.bind (rel := Rep X.K) sr z fun d A1 v W1 H1 e1 k1 r1 h1 => h1 W1 v H1 (Ext.refl _ _) k1 r1)⟩
theorem sifS (hc : ST X Wx c tc mc') (ha : SSs X Wx as t m) (hb : SSs X Wx bs u n) : SS X Wx (.If c as bs pos) (tIfS tc t u) (mIfS mc' m n) :=
  ⟨ps_if hc.pt ha.ps hb.ps, fun W σ s A H De k sr z => hc.sim W σ s A H _ k sr (PostS.bind (rel := relB) sr z fun x A1 v W1 H1 e1 k1 r1 h1 => by
    cases r1
    cases x with
    | true => exact ha.sim W1 σ s A1 H1 De k1 (sr.le e1.le) h1
    | false => exact hb.sim W1 σ s A1 H1 De k1 (sr.le e1.le) h1)⟩
theorem sim_asg {K : PySem.W.Frag} {mg : Str → Option Value} {g : TG} {mgt : MG} (h : SimE K mg Wx te me) (hg : ∀ (W : Wd) (σ : L2.St) (s s1 : Sl) (A : AH) (H : Hp) (d : D) (x : V) (Q : L2.St → Hp → Prop), Ok K mg W A H → SlR K W s σ → Rep K W d x → mgt d s = some s1 →
    (∀ σ', SlR K W s1 σ' → Q σ' H) → g x σ H Q) : SimS K mg Wx (tAsg te g) (mAsg me mgt) := fun W σ s A H De k sr z => h W σ s A H _ k sr (PostS.bind (rel := Rep K) sr z fun d A1 v W1 H1 e1 k1 r1 h1 => by
  split at h1
  · rename_i s1 q
    exact hg W1 σ s s1 A1 H1 d v _ k1 (sr.le e1.le) r1 q fun σ' sr' => h1.nx_at k1 sr'
  · exact h1.elim)
/-- name = e -/
theorem sset (i : Nat) {x : Str} (hN : X.N.Nodup) (h : SE X Wx e te me) (hi : X.N[i]? = some x := by rfl) (hx : Loc X.env.scope x := by first | exact Or.inl rfl | exact Or.inr rfl) (hs : swapsWith e (some (.Name x pos')) pos.line X.env = pure false := by rfl)
    (hf : X.fn x = true ∨ X.env.scope.names.lookup x = some .local := by first | exact .inl rfl | exact .inr rfl | assumption) : SS X Wx (.Assign [.Name x pos'] e pos) (tAsg te (gName i)) (mAsg me (gmN i)) :=
  ⟨ps_set hN hi hx h.pe hs hf, sim_asg h.sim fun W σ s s1 A H d x Q k sr r eq hq => by
    cases eq
    exact hq _ (sr.set i r)⟩
/-- (a, b) = e -/
theorem sasg {tg : Expr} {g : TG} {m : MG} {is : List Nat} (h : SE X Wx e te me) (hg : SG X tg g m is) (hs : swapsWithSole [tg] e pos.line X.env = pure false := by rfl) (hw : swappedStores [tg] e X.env = pure none := by rfl)
    (h1 : (assignEach [tg] X.env).map (·.2) = [assign tg X.env] := by rfl) : SS X Wx (.Assign [tg] e pos) (tAsg te g) (mAsg me m) :=
  ⟨ps_asg h.pe hg.pg hs hw h1, sim_asg h.sim fun W σ s s1 A H d x Q k sr r eq hq => hg.sim W σ s s1 A H d x Q k sr r eq fun σ' sr' _ => hq σ' sr'⟩
/-- a, b = e1, e2 and a, b, c = e1, e2, e3 -/
def mPar (is : List Nat) (m : MA) : MS := fun s A => (m s A).thenS s fun ds A1 => match is, ds with
  | [i, j], [d, e] => .nx ((s.set i (some d)).set j (some e)) A1
  | [i, j, l], [d, e, f] => .nx (((s.set i (some d)).set j (some e)).set l (some f)) A1
  | _, _ => .bad
theorem spar3 {i j l : Nat} {x y z : Str} {a b c : Expr} {ta : TA} {ma : MA} {px py pz pt pt2 : Pos} {kt k2 : Nat} (hc : X.calm = true) (hN : X.N.Nodup) (h : SA X Wx [a, b, c] ta ma)
    (hp : PS X (.Assign [.Tuple [.Name x px, .Name y py, .Name z pz] kt pt] (.Tuple [a, b, c] k2 pt2) pos) (tPar3 i j l ta)) :
    SS X Wx (.Assign [.Tuple [.Name x px, .Name y py, .Name z pz] kt pt] (.Tuple [a, b, c] k2 pt2) pos) (tPar3 i j l ta) (mPar [i, j, l] ma) :=
  ⟨hp, fun W σ s A H De k sr z => h.sim W σ s A H _ k sr (PostS.bind (rel := Reps X.K) sr z fun ds A1 v W1 H1 e1 k1 r1 h1 => by
    split at h1
    · rename_i q
      simp at q
    · rename_i i' j' l' d' e' f' q
      simp only [List.cons.injEq] at q
      obtain ⟨rfl, rfl, rfl, _⟩ := q
      obtain ⟨v1, r', rfl, q1, r2⟩ := r1
      obtain ⟨v2, v3, rfl, q2, q3⟩ := reps2 r2
      exact ⟨v1, v2, v3, rfl, h1.nx_at k1 ((((sr.le e1.le).set _ q1).set _ q2).set _ q3)⟩
    · exact h1.elim)⟩

/-! ### o.f = e, o[i] = e -/
def stFld (cs : List Str) (f : Str) (o d : D) (A : AH) : Option AH := match o with
  | .ref n => match A[n]? with
    | some (.ins c fs) => if c ∈ cs ∧ fs.length < 1000 then some (A.set n (.ins c (putFD f d fs))) else none
    | _ => none
  | _ => none
def mFldS (cs : List Str) (f : Str) (mo me : ME) : MS := fun s A => (me s A).thenS s fun d A1 => (mo s A1).thenS s fun x A2 => match stFld cs f x d A2 with
  | some A3 => .nx s A3
  | none => .bad
def rSetU : V → V → V → Hp → (Hp → Prop) → Prop := fun o i v H Q => rSetL o i v H Q ∨ ∃ a H', o = .ref a ∧ DPut H a i v H' ∧ Q H'
theorem set_any {kk : Nat} (hr : Room kk X.A) : PSet X rSetU := by
  intro pn st' sg Hh ov iv vv o1 i1 v1 QQ II ro ri rv hh
  rcases hh with hh | ⟨a, H', rfl, g, q⟩
  · exact set_list pn st' sg Hh ov iv vv o1 i1 v1 QQ II ro ri rv hh
  · obtain rfl : o1 = Value.ref a := ro
    exact d_setItem (room_u1 hr) II g ri rv fun s4 I4 => ⟨_, I4, q⟩
def stSub (o i d : D) (A : AH) : Option AH := match o with
  | .ref n => match A[n]? with
    | some (.lst ds) => match i with
      | .int k => match ixN ds.length k with
        | some j => some (A.set n (.lst (ds.set j d)))
        | none => none
      | _ => none
    | some (.dct kvs) => match keyD i with
      | some k => if kvs.length < 16777216 then some (A.set n (.dct (ptK kvs k d))) else none
      | none => none
    | _ => none
  | _ => none
def mSubS (mo mi me : ME) : MS := fun s A => (me s A).thenS s fun d A1 => (mo s A1).thenS s fun x A2 => (mi s A2).thenS s fun y A3 => match stSub x y d A3 with
  | some A4 => .nx s A4
  | none => .bad
theorem ssub {i : Expr} {ti : TE} {mi : ME} {kk : Nat} (hr : Room kk X.A) (ho : SE X Wx o to mo) (hi : SE X Wx i ti mi) (h : SE X Wx e te me)
    (ha : ∀ v, assign (.Subscript o i pos') X.env v = (do
      let ov ← holding [v] (eval o X.env)
      let iv ← holding [v, ov] (eval i X.env)
      standAt pos'
      holding [v, ov, iv] (setItem ov iv v)
      release [v, ov, iv] []) := by intro _; rfl)
    (hs : swapsWithSole [.Subscript o i pos'] e pos.line X.env = pure false := by rfl) (hw : swappedStores [.Subscript o i pos'] e X.env = pure none := by rfl)
    (h1 : (assignEach [.Subscript o i pos'] X.env).map (·.2) = [assign (.Subscript o i pos') X.env] := by rfl) :
    SS X Wx (.Assign [.Subscript o i pos'] e pos) (tAsg te (gSub to ti rSetU)) (mSubS mo mi me) :=
  ⟨ps_asg h.pe (pg_sub ho.pe hi.pe (set_any hr) ha) hs hw h1, fun W σ s A H De k sr z => h.sim W σ s A H _ k sr (PostS.bind (rel := Rep X.K) sr z fun d A1 v W1 H1 e1 k1 r1 h1 =>
    ho.sim W1 σ s A1 H1 _ k1 (sr.le e1.le) (PostS.bind (rel := Rep X.K) (sr.le e1.le) h1 fun x A2 u W2 H2 e2 k2 r2 h2 =>
      hi.sim W2 σ s A2 H2 _ k2 (sr.le (e1.trans e2).le) (PostS.bind (rel := Rep X.K) (sr.le (e1.trans e2).le) h2 fun y A3 w W3 H3 e3 k3 r3 h3 => by
        have rd := r1.le (e2.trans e3).le
        have ro := r2.le e3.le
        have sr3 := sr.le ((e1.trans e2).trans e3).le
        split at h3
        · rename_i A4 q
          unfold stSub at q
          split at q
          · rename_i n'
            obtain ⟨a, rfl, ha'⟩ := ro
            split at q
            · rename_i ds q2
              split at q
              · rename_i kx
                split at q
                · rename_i jx q4
                  cases q
                  obtain ⟨xs, hx, rr⟩ := k3.lookL ha' q2
                  obtain ⟨k4, e4⟩ := k3.write ha' (u := .lst (ds.set jx d)) (o := .lst (xs.set jx v)) (obl (rr.set jx rd))
                  exact .inl ⟨a, xs, kx, jx, rfl, r3, hx, by rw [rr.length]; exact q4, h3 _ _ _ e4 k4 (sr3.le e4.le)⟩
                · cases q
              · cases q
            · rename_i kvs q2
              split at q
              · rename_i kx q3
                split at q
                · rename_i q4
                  cases q
                  obtain ⟨vs, hx, hk, rr⟩ := k3.obj _ a _ ha' q2
                  have kr : KVR X.K W3 kvs vs := ⟨hk, rr⟩
                  obtain ⟨k4, e4⟩ := k3.write ha' (u := .dct (ptK kvs kx d)) (o := .dK (putK vs kx v)) (obd (kr.put rd))
                  refine .inr ⟨a, _, rfl, ?_, h3 _ _ _ e4 k4 (sr3.le e4.le)⟩
                  rw [keyD_at r3 q3]
                  exact .k hx (by rw [sizeLine_eq, kr.len]; exact q4)
                · cases q
              · cases q
            · cases q
          · cases q
        · exact h3.elim)))⟩
end
end Tg

set_option Elab.async false
set_option linter.all false
set_option maxRecDepth 100000
set_option maxHeartbeats 2000000
/-! TgLoop: for, while, comprehensions. -/
namespace Tg
open PySem PySem.Spec PyProof.Rows L2

/-- what is walked: data that lies still, or a list that may change -/
inductive IT where
  | data (ds : List D)
  | ref (n : Nat)
def itNext : IT → Nat → AH → Option (Option D)
  | .data ds, i, _ => some ds[i]?
  | .ref n, i, A => match A[n]? with
    | some (.lst ds) => some ds[i]?
    | _ => none
def itLen : IT → AH → Nat
  | .data ds, _ => ds.length
  | .ref n, A => match A[n]? with
    | some (.lst ds) => ds.length
    | _ => 0
/-- J goes as it does, from W on -/
def JR (K : PySem.W.Frag) (mg : Str → Option Value) (W : Wd) (it : IT) (J : It) : Prop :=
  ∀ (W' : Wd) (A' : AH) (H' : Hp) (i : Nat), Le W W' → Ok K mg W' A' H' → match itNext it i A' with
    | some (some d) => J.go i H' ∧ ∀ x H2, J.yld i H' x H2 → ∃ W2, Ext W' H' W2 H2 ∧ Ok K mg W2 A' H2 ∧ Rep K W2 d x
    | some none => J.stop i H'
    | none => True
def SimI (K : PySem.W.Frag) (mg : Str → Option Value) (Wx : WX) (t : TI) (m : Sl → AH → R IT) : Prop :=
  ∀ (W : Wd) (σ : L2.St) (s : Sl) (A : AH) (H : Hp) (Rr : It → Hp → Prop), Ok K mg W A H → SlR K W s σ → Post K mg (JR K mg) W H (fun c d H' => Wx c d σ H') Rr (m s A) → t σ H Rr
structure SI (X : Cx) (Wx : WX) (tg iter : Expr) (t : TI) (m : Sl → AH → R IT) : Prop where
  pi : PI X tg iter t
  sim : SimI X.K X.mg Wx t m

/-! ### what is walked -/
def iAny (K : PySem.W.Frag) (te : TE) : TI := fun σ H Rr => te σ H fun x H1 => (∃ a, x = .ref a ∧ (∃ xs, SqL K H1 a xs) ∧ Rr (Itl K a) H1) ∨ (∃ a, x = .ref a ∧ (∃ xs, SqT K H1 a xs) ∧ Rr (Itt K a) H1) ∨ ∃ z, x = .str z ∧ Rr (Its z) H1
def signs (z : Str) : List D := z.cps.toList.map fun c => .str ⟨#[c]⟩
def itOf : D → AH → R IT
  | .str z, A => .ok (.data (signs z)) A
  | .tup ds, A => .ok (.data ds) A
  | .lst ds, A => .ok (.data ds) A
  | .scr ns, A => .ok (.data (ns.map .int)) A
  | .ref n, A => match A[n]? with
    | some (.lst _) => .ok (.ref n) A
    | _ => .bad
  | _, _ => .bad
def miAny (m : ME) : Sl → AH → R IT := fun s A => (m s A).bind itOf
section
variable {X : Cx} {Wx : WX} {e tg : Expr} {es : List Expr} {te : TE} {me : ME} {ta : TA} {ma : MA} {p pos : Pos}
theorem pi_any (he : PE X e te) : PI X tg e (iAny X.K te) := by
  refine ⟨fun pn st sg Hh RR II hh => thn (he.run pn st sg Hh _ II hh) fun v s1 ⟨y, H1, I1, r1, q1⟩ => ?_⟩
  rcases q1 with ⟨a, rfl, ⟨xs, hq⟩, q⟩ | ⟨a, rfl, ⟨xs, hq⟩, q⟩ | ⟨z, rfl, q⟩
  · cases r1
    obtain ⟨its, rv, pp, hz⟩ := I1.list hq
    exact wpAny_pyIter_list pp.isList (pi_one (tk := s1.toks) I1 _ (turn_list a _) ⟨_, Heap.get?_push_size _ rfl, rfl, rfl⟩ q)
  · cases r1
    obtain ⟨its, rv, pp, hz⟩ := I1.tuple hq
    exact wpAny_pyIter_tuple (show s1.heap.IsTuple a its.toArray from pp) (pi_one (tk := s1.toks) I1 _ (turn_tuple a _) ⟨_, Heap.get?_push_size _ rfl, rfl, rfl⟩ q)
  · obtain ⟨t, rfl⟩ := r1
    cases ha : z.cps.all (· < 128)
    · exact wpAny_pyIter_wide ha (pi_one (tk := s1.toks) I1 _ (turn_str _ z t "str_iterator" (.inr rfl)) ⟨_, Heap.get?_push_size _ rfl, rfl, rfl⟩ q)
    · exact wpAny_pyIter_ascii ha (pi_one (tk := s1.toks) I1 _ (turn_str _ z t "str_ascii_iterator" (.inl rfl)) ⟨_, Heap.get?_push_size _ rfl, rfl, rfl⟩ q)
theorem jr_list {K : PySem.W.Frag} {mg : Str → Option Value} {W : Wd} {a : Addr} {xs : List V} {ds : List D} (h : SqL K W.F a xs) (r : Reps K W ds xs) : JR K mg W (.data ds) (Itl K a) := fun W' A' H' i l k => by
  have q := k.sqL (sqL_le l h)
  have r' := r.le l
  show match some ds[i]? with
    | some (some d) => _
    | some none => _
    | none => True
  cases hd : ds[i]? with
  | none => exact ⟨xs, q, by rw [r.length]; exact List.getElem?_eq_none_iff.mp hd⟩
  | some d =>
    obtain ⟨v, h1, h2⟩ := r'.get hd
    refine ⟨⟨xs, v, q, h1⟩, fun x H2 y => ?_⟩
    obtain ⟨rfl, y⟩ := y
    have := y xs q
    rw [h1] at this
    cases this
    exact ⟨W', Ext.refl _ _, k, h2⟩
theorem jr_tup {K : PySem.W.Frag} {mg : Str → Option Value} {W : Wd} {a : Addr} {xs : List V} {ds : List D} (h : SqT K W.F a xs) (r : Reps K W ds xs) : JR K mg W (.data ds) (Itt K a) := fun W' A' H' i l k => by
  have q := k.sqT (sqT_le l h)
  have r' := r.le l
  show match some ds[i]? with
    | some (some d) => _
    | some none => _
    | none => True
  cases hd : ds[i]? with
  | none => exact ⟨xs, q, by rw [r.length]; exact List.getElem?_eq_none_iff.mp hd⟩
  | some d =>
    obtain ⟨v, h1, h2⟩ := r'.get hd
    refine ⟨⟨xs, v, q, h1⟩, fun x H2 y => ?_⟩
    obtain ⟨rfl, y⟩ := y
    have := y xs q
    rw [h1] at this
    cases this
    exact ⟨W', Ext.refl _ _, k, h2⟩
theorem jr_ref {K : PySem.W.Frag} {mg : Str → Option Value} {W : Wd} {a : Addr} {n : Nat} (h : W.m[n]? = some a) : JR K mg W (.ref n) (Itl K a) := fun W' A' H' i l k => by
  have ha := l.at h
  cases hq : A'[n]? with
  | none =>
    rw [show itNext (.ref n) i A' = none by simp only [itNext, hq]]
    trivial
  | some o =>
    cases o with
    | lst ds =>
      obtain ⟨xs, q, r⟩ := k.lookL ha hq
      rw [show itNext (.ref n) i A' = some ds[i]? by simp only [itNext, hq]]
      cases hd : ds[i]? with
      | none => exact ⟨xs, .of q, by rw [r.length]; exact List.getElem?_eq_none_iff.mp hd⟩
      | some d =>
        obtain ⟨v, h1, h2⟩ := r.get hd
        refine ⟨⟨xs, v, .of q, h1⟩, fun x H2 y => ?_⟩
        obtain ⟨rfl, y⟩ := y
        have := y xs (.of q)
        rw [h1] at this
        cases this
        exact ⟨W', Ext.refl _ _, k, h2⟩
    | dct _ =>
      rw [show itNext (.ref n) i A' = none by simp only [itNext, hq]]
      trivial
    | ins _ _ =>
      rw [show itNext (.ref n) i A' = none by simp only [itNext, hq]]
      trivial
    | lck _ =>
      rw [show itNext (.ref n) i A' = none by simp only [itNext, hq]]
      trivial
    | lam =>
      rw [show itNext (.ref n) i A' = none by simp only [itNext, hq]]
      trivial
theorem jr_str {K : PySem.W.Frag} {mg : Str → Option Value} {W : Wd} {z : Str} : JR K mg W (.data (signs z)) (Its z) := fun W' A' H' i l k => by
  show match some (signs z)[i]? with
    | some (some d) => _
    | some none => _
    | none => True
  unfold signs
  rw [List.getElem?_map, Array.getElem?_toList]
  cases hd : z.cps[i]? with
  | none => exact Array.getElem?_eq_none_iff.mp hd
  | some c =>
    refine ⟨(Array.getElem?_eq_some_iff.mp hd).1, fun x H2 y => ?_⟩
    obtain ⟨rfl, c', hc, rfl⟩ := y
    rw [hd] at hc
    cases hc
    exact ⟨W', Ext.refl _ _, k, rfl⟩
theorem iany (h : SE X Wx e te me) : SI X Wx tg e (iAny X.K te) (miAny me) :=
  ⟨pi_any h.pe, fun W σ s A H Rr k sr z => h.sim W σ s A H _ k sr (z.bind fun x A1 v W1 H1 e1 k1 r1 h1 => by
    unfold itOf at h1
    split at h1
    · exact .inr (.inr ⟨_, r1, h1.ok_at k1 jr_str⟩)
    · obtain ⟨a, xs, rfl, q1, q2⟩ := r1
      exact .inr (.inl ⟨a, rfl, ⟨xs, k1.sqT q1⟩, h1.ok_at k1 (jr_tup q1 q2)⟩)
    · obtain ⟨a, xs, rfl, q1, q2⟩ := r1
      exact .inl ⟨a, rfl, ⟨xs, .of (k1.frz _ _ q1)⟩, h1.ok_at k1 (jr_list (.of q1) q2)⟩
    · obtain ⟨a, rfl, q1⟩ := r1
      exact .inl ⟨a, rfl, ⟨_, k1.sqL q1⟩, h1.ok_at k1 (jr_list q1 (reps_ints _ _))⟩
    · obtain ⟨a, rfl, q1⟩ := r1
      split at h1
      · rename_i q2
        obtain ⟨xs, q3, _⟩ := k1.lookL q1 q2
        exact .inl ⟨a, rfl, ⟨xs, .of q3⟩, h1.ok_at k1 (jr_ref q1)⟩
      · exact h1.elim
    · exact h1.elim)⟩

/-- range(n), range(a, b), range(a, b, c) -/
def rngL (lo c : Int) (n : Nat) : List D := (List.range n).map fun i => .int (lo + (i : Nat) * c)
def mRng1 (m : MA) : Sl → AH → R IT := fun s A => (m s A).bind fun ds A1 => match ds with
  | [.int j] => if -(2 ^ 62) ≤ j ∧ j < 2 ^ 62 then .ok (.data (rngL 0 1 j.toNat)) A1 else .bad
  | _ => .bad
theorem jr_rng1 {K : PySem.W.Frag} {mg : Str → Option Value} {W : Wd} {lo : Int} {n : Nat} : JR K mg W (.data (rngL lo 1 n)) (Itr lo n) := fun W' A' H' i l k => by
  show match some (rngL lo 1 n)[i]? with
    | some (some d) => _
    | some none => _
    | none => True
  unfold rngL
  rw [List.getElem?_map]
  by_cases hi : i < n
  · rw [List.getElem?_range hi]
    refine ⟨hi, fun x H2 y => ?_⟩
    obtain ⟨rfl, rfl⟩ := y
    refine ⟨W', Ext.refl _ _, k, ?_⟩
    show V.int _ = V.int _
    rw [Int.mul_one]
  · rw [List.getElem?_eq_none_iff.mpr (by simpa using hi)]
    exact Nat.le_of_not_lt hi
theorem irng1 {a : Expr} (hm : X.mg "range" = none) (ha : SA X Wx [a] ta ma) (hg : Gl X "range" := by rfl) (hs : starEach [a] X.env = [(false, eval a X.env)] := by rfl) : SI X Wx tg (.Call (.Name "range" p) [a] [] pos) (iRng1 ta) (mRng1 ma) :=
  ⟨pi_range1 hg hm ha.pa hs, fun W σ s A H Rr k sr z => ha.sim W σ s A H _ k sr (z.bind fun ds A1 vs W1 H1 e1 k1 r1 h1 => by
    split at h1
    · obtain ⟨v, rfl, q⟩ := reps1 r1
      cases (show v = _ from q)
      split at h1
      · rename_i b
        exact ⟨_, rfl, b.1, b.2, h1.ok_at k1 jr_rng1⟩
      · exact h1.elim
    · exact h1.elim)⟩
end

/-! ### for -/
def forG (g : MG) (b : MS) (it : IT) : Nat → Nat → Sl → AH → RS
  | 0, _, _, _ => .bad
  | f + 1, i, s, A => match itNext it i A with
    | none => .bad
    | some none => .nx s A
    | some (some d) => match g d s with
      | none => .bad
      | some s1 => match b s1 A with
        | .nx s2 A2 => forG g b it f (i + 1) s2 A2
        | .ct s2 A2 => forG g b it f (i + 1) s2 A2
        | .bk s2 A2 => .nx s2 A2
        | r => r
def mFor (mi : Sl → AH → R IT) (g : MG) (b : MS) : MS := fun s A => (mi s A).thenS s fun it A1 => forG g b it (itLen it A1 + 1) 0 s A1
/-- over data -/
def forL (g : MG) (b : MS) : List D → Sl → AH → RS
  | [], s, A => .nx s A
  | d :: ds, s, A => match g d s with
    | none => .bad
    | some s1 => match b s1 A with
      | .nx s2 A2 => forL g b ds s2 A2
      | .ct s2 A2 => forL g b ds s2 A2
      | .bk s2 A2 => .nx s2 A2
      | r => r
theorem forG_data (g : MG) (b : MS) (ds : List D) : ∀ (f i : Nat) (s : Sl) (A : AH), i + f = ds.length + 1 → forG g b (.data ds) f i s A = if f = 0 then .bad else forL g b (ds.drop i) s A
  | 0, i, s, A, h => rfl
  | f + 1, i, s, A, h => by
    rw [if_neg (Nat.succ_ne_zero f)]
    show (match some ds[i]? with
      | none => RS.bad
      | some none => .nx s A
      | some (some d) => _) = _
    cases hd : ds[i]? with
    | none =>
      rw [List.drop_eq_nil_of_le (List.getElem?_eq_none_iff.mp hd)]
      rfl
    | some d =>
      have hi := (List.getElem?_eq_some_iff.mp hd).1
      rw [List.drop_eq_getElem_cons hi, (List.getElem?_eq_some_iff.mp hd).2]
      have hf : f ≠ 0 := by omega
      show (match g d s with
        | none => RS.bad
        | some s1 => _) = (match g d s with
        | none => RS.bad
        | some s1 => _)
      cases g d s with
      | none => rfl
      | some s1 =>
        dsimp only
        cases b s1 A with
        | nx s2 A2 =>
          dsimp only
          rw [forG_data g b ds f (i + 1) s2 A2 (by omega), if_neg hf]
        | ct s2 A2 =>
          dsimp only
          rw [forG_data g b ds f (i + 1) s2 A2 (by omega), if_neg hf]
        | _ => rfl
theorem mFor_data {mi : Sl → AH → R IT} {g : MG} {b : MS} {s : Sl} {A A1 : AH} {ds : List D} (h : mi s A = .ok (.data ds) A1) : mFor mi g b s A = forL g b ds s A1 := by
  unfold mFor
  rw [h]
  show forG g b (.data ds) (ds.length + 1) 0 s A1 = _
  rw [forG_data g b ds _ _ _ _ (Nat.zero_add _), if_neg (Nat.succ_ne_zero _), List.drop_zero]
section
variable {X : Cx} {Wx : WX} {tg iter c : Expr} {body : List Stmt} {wi : TI} {mi : Sl → AH → R IT} {g : TG} {mgt : MG} {is : List Nat} {tb : TS} {mb : MS} {tc : TT} {mc' : MT} {pos : Pos}
theorem sfor (hp : PassesOwn (model X.prog X.w) X.A X.env X.xe) (hc : X.calm = true) (hi : SI X Wx tg iter wi mi) (hg : SG X tg g mgt is) (hb : SSs X Wx body tb mb) (hs : ∀ x, foldedSetIterable iter X.env x = pure x := by intro _; rfl) :
    SS X Wx (.For tg iter body [] pos) (tFor wi g tb) (mFor mi mgt mb) :=
  ⟨ps_for hp hc hi.pi hg.pg hb.ps hs, fun W σ s A H De k sr z => hi.sim W σ s A H _ k sr (PostS.bind (rel := JR X.K X.mg) sr z fun it A1 J W1 H1 e1 k1 j1 h1 => by
    refine ⟨fun i m σ2 H2 => ∃ W2 s2 A2, Ext W1 H1 W2 H2 ∧ Ok X.K X.mg W2 A2 H2 ∧ SlR X.K W2 s2 σ2 ∧ PostS X.K X.mg W2 H2 De Wx (forG mgt mb it m i s2 A2), ⟨_, W1, s, A1, Ext.refl _ _, k1, sr.le e1.le, h1⟩, ?_⟩
    rintro i m σ2 H2 ⟨W2, s2, A2, e2, k2, sr2, h2⟩
    cases m with
    | zero => exact h2.elim
    | succ m =>
      have jj := j1 W2 A2 H2 i e2.le k2
      unfold forG at h2
      cases hn : itNext it i A2 with
      | none =>
        rw [hn] at h2
        exact h2.elim
      | some o =>
        rw [hn] at h2 jj
        cases o with
        | none => exact .inl ⟨jj, h2.nx_at k2 sr2⟩
        | some d =>
          refine .inr ⟨jj.1, fun σ3 H3 => ∃ W3 s3 A3, Ext W1 H1 W3 H3 ∧ Ok X.K X.mg W3 A3 H3 ∧ SlR X.K W3 s3 σ3 ∧ PostS X.K X.mg W3 H3 De Wx (forG mgt mb it m (i + 1) s3 A3), fun σ3 H3 q => ⟨m, Nat.lt_succ_self m, q⟩, fun x H3 y => ?_⟩
          obtain ⟨W3, e3, k3, r3⟩ := jj.2 x H3 y
          have h3 := PostS.ext e3 h2
          dsimp only at h3
          cases hg1 : mgt d s2 with
          | none =>
            rw [hg1] at h3
            exact h3.elim
          | some s3 =>
            rw [hg1] at h3
            dsimp only at h3
            refine hg.sim W3 σ2 s2 s3 A2 H3 d x _ k3 (sr2.le e3.le) r3 hg1 fun σ4 sr4 _ => ?_
            refine hb.sim W3 σ4 s3 A2 H3 _ k3 sr4 ?_
            cases hb1 : mb s3 A2 with
            | nx s4 A4 =>
              rw [hb1] at h3
              exact fun W5 σ5 H5 e5 k5 sr5 => ⟨W5, s4, A4, (e2.trans e3).trans e5, k5, sr5, PostS.ext e5 h3⟩
            | ct s4 A4 =>
              rw [hb1] at h3
              exact fun W5 σ5 H5 e5 k5 sr5 => ⟨W5, s4, A4, (e2.trans e3).trans e5, k5, sr5, PostS.ext e5 h3⟩
            | bk s4 A4 =>
              rw [hb1] at h3
              exact h3
            | rt d4 A4 =>
              rw [hb1] at h3
              exact h3
            | exc x4 s4 A4 =>
              rw [hb1] at h3
              exact h3
            | bad =>
              rw [hb1] at h3
              exact h3.elim)⟩

/-! ### while -/
end

/-! ### comprehensions -/
/-- nothing raised -/
def R.bindN {α β : Type} (r : R α) (f : α → AH → R β) : R β := match r with
  | .ok a A => f a A
  | _ => .bad
@[simp] theorem R.bindN_ok {α β : Type} (a : α) (A : AH) (f : α → AH → R β) : (R.ok a A).bindN f = f a A := rfl
@[simp] theorem R.bindN_bad {α β : Type} (f : α → AH → R β) : (R.bad : R α).bindN f = .bad := rfl
def lcG (g : MG) (tt : MT) (te : ME) (it : IT) (s : Sl) : Nat → Nat → AH → R (List D)
  | 0, _, _ => .bad
  | f + 1, i, A => match itNext it i A with
    | none => .bad
    | some none => .ok [] A
    | some (some d) => match g d s with
      | none => .bad
      | some s1 => (tt s1 A).bindN fun k A1 => if k then (te s1 A1).bindN fun y A2 => (lcG g tt te it s f (i + 1) A2).bind fun ys A3 => .ok (y :: ys) A3
        else lcG g tt te it s f (i + 1) A1
def lcL (g : MG) (tt : MT) (te : ME) (s : Sl) : List D → AH → R (List D)
  | [], A => .ok [] A
  | d :: ds, A => match g d s with
    | none => .bad
    | some s1 => (tt s1 A).bindN fun k A1 => if k then (te s1 A1).bindN fun y A2 => (lcL g tt te s ds A2).bind fun ys A3 => .ok (y :: ys) A3
      else lcL g tt te s ds A1
def finF (ds : List D) (A : AH) : R D := .ok (.lst ds) A
def mLc (mi : Sl → AH → R IT) (g : MG) (tt : MT) (te : ME) (vs : List Nat) (fin : List D → AH → R D) : ME := fun s A => (mi s A).bind fun it A1 => if itLen it A1 < 16777216 then (lcG g tt te it (wpD s vs) (itLen it A1 + 1) 0 A1).bind fin else .bad
theorem lcG_data (g : MG) (tt : MT) (te : ME) (ds : List D) (s : Sl) : ∀ (f i : Nat) (A : AH), i + f = ds.length + 1 → lcG g tt te (.data ds) s f i A = if f = 0 then .bad else lcL g tt te s (ds.drop i) A
  | 0, i, A, h => rfl
  | f + 1, i, A, h => by
    rw [if_neg (Nat.succ_ne_zero f)]
    show (match some ds[i]? with
      | none => R.bad
      | some none => .ok [] A
      | some (some d) => _) = _
    cases hd : ds[i]? with
    | none =>
      rw [List.drop_eq_nil_of_le (List.getElem?_eq_none_iff.mp hd)]
      rfl
    | some d =>
      have hi := (List.getElem?_eq_some_iff.mp hd).1
      rw [List.drop_eq_getElem_cons hi, (List.getElem?_eq_some_iff.mp hd).2]
      have hf : f ≠ 0 := by omega
      show (match g d s with
        | none => R.bad
        | some s1 => _) = (match g d s with
        | none => R.bad
        | some s1 => _)
      cases g d s with
      | none => rfl
      | some s1 =>
        dsimp only
        cases tt s1 A with
        | ok k A1 =>
          simp only [R.bindN_ok]
          cases k with
          | true =>
            simp only [if_true]
            cases te s1 A1 with
            | ok y A2 =>
              simp only [R.bindN_ok]
              rw [lcG_data g tt te ds s f (i + 1) A2 (by omega), if_neg hf]
            | _ => rfl
          | false =>
            simp only [Bool.false_eq_true, if_false]
            rw [lcG_data g tt te ds s f (i + 1) A1 (by omega), if_neg hf]
        | _ => rfl
theorem wipe_none (σ : L2.St) {u : Nat} : ∀ {vs : List Nat}, u ∈ vs → (wipe σ vs).set u none = wipe σ vs
  | v :: vs, h => by
    show ((wipe σ vs).set v none).set u none = (wipe σ vs).set v none
    by_cases q : u = v
    · rw [q, List.set_set]
    · rcases List.mem_cons.mp h with z | z
      · exact absurd z q
      · rw [List.set_comm _ _ (Ne.symm q), wipe_none σ z]
theorem wipe_twice (σ : L2.St) {vs : List Nat} : ∀ {us : List Nat}, (∀ i ∈ us, i ∈ vs) → wipe (wipe σ vs) us = wipe σ vs
  | [], _ => rfl
  | u :: us, h => by
    show (wipe (wipe σ vs) us).set u none = wipe σ vs
    rw [wipe_twice σ fun i hi => h i (List.mem_cons_of_mem _ hi), wipe_none σ (h u (List.mem_cons_self ..))]
theorem upd_self {H : Hp} {p : Addr} {o : HO} (h : H p = some o) : upd (delH H p) p o = H := by
  funext b
  by_cases q : b = p
  · rw [q, upd_same, h]
  · rw [upd_ne q, delH_ne q]
theorem delH_upd {H : Hp} {p : Addr} {o : HO} : delH (upd H p o) p = delH H p := by
  funext b
  by_cases q : b = p
  · rw [q, delH_same, delH_same]
  · rw [delH_ne q, delH_ne q, upd_ne q]
/-- how the new list is told -/
def FinOk (K : PySem.W.Frag) (mg : Str → Option Value) (fin : List D → AH → R D) : Prop :=
  ∀ (W : Wd) (H : Hp) (W1 : Wd) (H1 : Hp) (A1 : AH) (p : Addr) (E : XK) (Q : VK) (ds : List D) (xs : List V), Ext W H W1 (delH H1 p) → Ok K mg W1 A1 (delH H1 p) → H1 p = some (.lst xs) → Reps K W1 ds xs → Post K mg (Rep K) W H E Q (fin ds A1) → Q (.ref p) H1
theorem fin_f {K : PySem.W.Frag} {mg : Str → Option Value} : FinOk K mg finF := fun W H W1 H1 A1 p E Q ds xs e k hp r h => by
  obtain ⟨k3, e3⟩ := k.frozen delH_same (.lst xs)
  rw [upd_self hp] at k3 e3
  refine h _ _ _ (e.trans e3) k3 ⟨p, xs, rfl, upd_same, r.le e3.le⟩
section
variable {X : Cx} {Wx : WX} {tg iter elt : Expr} {ifs : List Expr} {scope : Scope} {own : List (Str × Nat)} {wi : TI} {mi : Sl → AH → R IT} {g : TG} {mgt : MG} {is : List Nat} {tt : TT} {mt : MT} {te : TE} {me : ME} {pos spos : Pos} {fin : List D → AH → R D}
structure STs (X : Cx) (Wx : WX) (ifs : List Expr) (t : TT) (m : MT) : Prop where
  pts : PTs X ifs t
  sim : SimT X.K X.mg Wx t m
def mYes : MT := fun _ A => .ok true A
theorem stsnil : STs X Wx [] tYes mYes := ⟨pts_nil, fun W σ s A H Q k sr h => h.ok_at k rfl⟩
theorem stsone {c : Expr} (h : ST X Wx c tt mt) : STs X Wx [c] tt mt := ⟨pts_one h.pt, h.sim⟩
theorem sim_lc {K : PySem.W.Frag} {mg : Str → Option Value} {vs : List Nat} (hf : FinOk K mg fin) (hi : SimI K mg Wx wi mi)
    (hg : ∀ (W : Wd) (σ : L2.St) (s s1 : Sl) (A : AH) (H : Hp) (d : D) (x : V) (Q : L2.St → Hp → Prop), Ok K mg W A H → SlR K W s σ → Rep K W d x → mgt d s = some s1 → (∀ σ', SlR K W s1 σ' → (∀ vs, (∀ i ∈ is, i ∈ vs) → wipe σ' vs = wipe σ vs) → Q σ' H) → g x σ H Q)
    (hw : ∀ i ∈ is, i ∈ vs) (ht : SimT K mg WxF tt mt) (he : SimE K mg WxF te me) : SimE K mg Wx (tLc wi g tt te vs) (mLc mi mgt mt me vs fin) := fun W σ s A H Q k sr z => by
  refine hi W σ s A H _ k sr (z.bind fun it A1 J W1 H1 e1 k1 j1 h1 => ?_)
  intro Da hDa
  by_cases hl : itLen it A1 < 16777216
  · rw [if_pos hl] at h1
    have wsr := (sr.le e1.le).wipe vs
    refine ⟨fun i m H2 => ∃ W2 A2 acc accV, Ext W1 H1 W2 (delH H2 Da) ∧ Ok K mg W2 A2 (delH H2 Da) ∧ H2 Da = some (.lst accV) ∧ Reps K W2 acc accV ∧ acc.length ≤ i ∧ i + m = itLen it A1 + 1 ∧
      Post K mg (Rep K) W1 H1 (fun c d H' => Wx c d σ H') Q ((lcG mgt mt me it (wpD s vs) m i A2).bind fun ys A3 => fin (acc ++ ys) A3), ⟨itLen it A1 + 1, W1, A1, [], [], ?_, ?_, upd_same, rfl, Nat.le_refl _, Nat.zero_add _, h1⟩, ?_⟩
    · rw [delH_upd]
      have : delH H1 Da = H1 := by
        funext b
        by_cases q : b = Da
        · rw [q, delH_same, hDa]
        · rw [delH_ne q]
      rw [this]
      exact Ext.refl _ _
    · rw [delH_upd]
      have : delH H1 Da = H1 := by
        funext b
        by_cases q : b = Da
        · rw [q, delH_same, hDa]
        · rw [delH_ne q]
      rw [this]
      exact k1
    · rintro i m H2 ⟨W2, A2, acc, accV, e2, k2, hD2, r2, hal, him, h2⟩
      cases m with
      | zero => exact h2.elim
      | succ m =>
        obtain ⟨k2', e2'⟩ := k2.aside delH_same (.lst accV)
        rw [upd_self hD2] at k2' e2'
        have jj := j1 W2 A2 H2 i (e2.trans e2').le k2'
        unfold lcG at h2
        cases hn : itNext it i A2 with
        | none =>
          rw [hn] at h2
          exact h2.elim
        | some o =>
          rw [hn] at h2 jj
          cases o with
          | none =>
            refine .inl ⟨jj, ?_⟩
            have h2' : Post K mg (Rep K) W1 H1 (fun c d H' => Wx c d σ H') Q (fin (acc ++ []) A2) := h2
            rw [List.append_nil] at h2'
            exact hf W1 H1 W2 H2 A2 Da _ Q acc accV e2 k2 hD2 r2 h2'
          | some d =>
            refine .inr ⟨jj.1, fun H3 => ∃ W3 A3 acc accV, Ext W1 H1 W3 (delH H3 Da) ∧ Ok K mg W3 A3 (delH H3 Da) ∧ H3 Da = some (.lst accV) ∧ Reps K W3 acc accV ∧ acc.length ≤ i + 1 ∧ (i + 1) + m = itLen it A1 + 1 ∧
              Post K mg (Rep K) W1 H1 (fun c d H' => Wx c d σ H') Q ((lcG mgt mt me it (wpD s vs) m (i + 1) A3).bind fun ys A4 => fin (acc ++ ys) A4), fun H3 q => ⟨m, Nat.lt_succ_self m, q⟩, fun x H3 y => ?_⟩
            obtain ⟨W3, e3, k3, r3⟩ := jj.2 x H3 y
            dsimp only at h2
            cases hg1 : mgt d (wpD s vs) with
            | none =>
              rw [hg1] at h2
              exact h2.elim
            | some s3 =>
              rw [hg1] at h2
              dsimp only at h2
              refine hg W3 (wipe σ vs) (wpD s vs) s3 A2 H3 d x _ k3 (((wsr.le e2.le).le e2'.le).le e3.le) r3 hg1 fun σ4 sr4 w4 => ⟨(w4 vs hw).trans (wipe_twice σ fun _ h => h), ?_⟩
              cases hT : mt s3 A2 with
              | ok b A4 =>
                rw [hT] at h2
                simp only [R.bindN_ok] at h2
                refine ht W3 σ4 s3 A2 H3 _ k3 sr4 ?_
                rw [hT]
                intro W4 H4 b' e4 k4 rb
                cases rb
                cases b with
                | true =>
                  simp only [if_true] at h2 ⊢
                  cases hE : me s3 A4 with
                  | ok yd A5 =>
                    rw [hE] at h2
                    simp only [R.bindN_ok] at h2
                    refine he W4 σ4 s3 A4 H4 _ k4 (sr4.le e4.le) ?_
                    rw [hE]
                    intro W5 H5 yv e5 k5 ry
                    obtain ⟨q1, q2, q3, q4, q5⟩ := Ok.undo delH_same k2 (u := .lst accV) (by rw [upd_self hD2]; exact (e3.trans e4).trans e5) k5
                    refine ⟨accV, q5, ?_, W5, A5, acc ++ [yd], accV ++ [yv], ?_, ?_, upd_same, (r2.le (((e2'.trans e3).trans e4).trans e5).le).append (Reps.one ry), ?_, by omega, ?_⟩
                    · rw [sizeLine_eq, r2.length]
                      omega
                    · rw [delH_upd]
                      exact e2.trans q4
                    · rw [delH_upd]
                      exact q3
                    · rw [List.length_append]
                      simp
                      omega
                    · have e6 : ((lcG mgt mt me it (wpD s vs) m (i + 1) A5).bind fun ys A3 => R.ok (yd :: ys) A3).bind (fun ys A3 => fin (acc ++ ys) A3) = (lcG mgt mt me it (wpD s vs) m (i + 1) A5).bind fun ys A4 => fin (acc ++ [yd] ++ ys) A4 := by
                        cases lcG mgt mt me it (wpD s vs) m (i + 1) A5 with
                        | ok ys A6 =>
                          simp only [R.bind_ok, List.append_assoc, List.singleton_append]
                        | exc _ _ => rfl
                        | bad => rfl
                      rw [e6] at h2
                      exact h2
                  | exc _ _ =>
                    rw [hE] at h2
                    exact h2.elim
                  | bad =>
                    rw [hE] at h2
                    exact h2.elim
                | false =>
                  simp only [Bool.false_eq_true, if_false] at h2 ⊢
                  obtain ⟨q1, q2, q3, q4, q5⟩ := Ok.undo delH_same k2 (u := .lst accV) (by rw [upd_self hD2]; exact e3.trans e4) k4
                  exact ⟨W4, A4, acc, accV, e2.trans q4, q3, q5, r2.le ((e2'.trans e3).trans e4).le, by omega, by omega, h2⟩
              | exc _ _ =>
                rw [hT] at h2
                exact h2.elim
              | bad =>
                rw [hT] at h2
                exact h2.elim
  · rw [if_neg hl] at h1
    exact h1.elim
/-- [elt for tg in iter if ..] -/
theorem slc (hf : FinOk X.K X.mg fin) (hc : X.calm = true) (hN : X.N.Nodup) (hi : SI X Wx tg iter wi mi) (ok : BlkOk X.N X.env.scope scope own)
    (hg : ∀ (s : Shared) (H : Hp) (C : Addr) (cl : List (Str × Addr)) (fp : List Addr), SG (X.blk s H scope (compEnvC scope cl C X.env) fp) tg g mgt is)
    (ht : ∀ (s : Shared) (H : Hp) (C : Addr) (cl : List (Str × Addr)) (fp : List Addr), STs (X.blk s H scope (compEnvC scope cl C X.env) fp) WxF ifs tt mt)
    (he : ∀ (s : Shared) (H : Hp) (C : Addr) (cl : List (Str × Addr)) (fp : List Addr), SE (X.blk s H scope (compEnvC scope cl C X.env) fp) WxF elt te me)
    (hw : ∀ i ∈ is, i ∈ own.map (·.2)) (hs : ∀ x, foldedSetIterable iter X.env x = pure x := by intro _; rfl) :
    SE X Wx (.ListComp elt [⟨tg, iter, ifs, 0⟩] scope pos) (tLc wi g tt te (own.map (·.2))) (mLc mi mgt mt me (own.map (·.2)) fin) :=
  ⟨pe_lc hc hN hi.pi ok (fun s H C cl fp => (hg s H C cl fp).pg) (fun s H C cl fp => (ht s H C cl fp).pts) (fun s H C cl fp => (he s H C cl fp).pe) hs,
    sim_lc hf hi.sim (hg X.s_0 X.H_0 0 [] []).sim hw (ht X.s_0 X.H_0 0 [] []).sim (he X.s_0 X.H_0 0 [] []).sim⟩
/-- name = [..] on one line -/
theorem ssetLc (i : Nat) {y : Str} {py : Pos} (hf : FinOk X.K X.mg fin) (hc : X.calm = true) (hN : X.N.Nodup) (hi : SI X Wx tg iter wi mi) (ok : BlkOk X.N X.env.scope scope own)
    (hg : ∀ (s : Shared) (H : Hp) (C : Addr) (cl : List (Str × Addr)) (fp : List Addr), SG (X.blk s H scope (compEnvC scope cl C X.env) fp) tg g mgt is)
    (ht : ∀ (s : Shared) (H : Hp) (C : Addr) (cl : List (Str × Addr)) (fp : List Addr), STs (X.blk s H scope (compEnvC scope cl C X.env) fp) WxF ifs tt mt)
    (he : ∀ (s : Shared) (H : Hp) (C : Addr) (cl : List (Str × Addr)) (fp : List Addr), SE (X.blk s H scope (compEnvC scope cl C X.env) fp) WxF elt te me)
    (hw : ∀ i ∈ is, i ∈ own.map (·.2)) (hy : X.N[i]? = some y := by rfl) (hyl : X.env.scope.names.lookup y = some .local := by rfl)
    (hsw : swapsWith (.ListComp elt [⟨tg, iter, ifs, 0⟩] scope pos) (some (.Name y py)) spos.line X.env = pure true := by exact sw_true rfl rfl rfl (by decide +kernel)) (hs : ∀ x, foldedSetIterable iter X.env x = pure x := by intro _; rfl) :
    SS X Wx (.Assign [.Name y py] (.ListComp elt [⟨tg, iter, ifs, 0⟩] scope pos) spos) (tAsg (tLc wi g tt te (own.map (·.2))) (gName i)) (mAsg (mLc mi mgt mt me (own.map (·.2)) fin) (gmN i)) :=
  ⟨ps_setLc hc hN hy hyl hsw hi.pi ok (fun s H C cl fp => (hg s H C cl fp).pg) (fun s H C cl fp => (ht s H C cl fp).pts) (fun s H C cl fp => (he s H C cl fp).pe) hs,
    sim_asg (sim_lc hf hi.sim (hg X.s_0 X.H_0 0 [] []).sim hw (ht X.s_0 X.H_0 0 [] []).sim (he X.s_0 X.H_0 0 [] []).sim) fun W σ s s1 A H d x Q k sr r eq hq => by
      cases eq
      exact hq _ (sr.set i r)⟩
end
end Tg

set_option Elab.async false
set_option linter.all false
set_option maxRecDepth 100000
set_option maxHeartbeats 2000000
/-! TgFn: defs as plain functions; constants and written tables of the module. -/
namespace Tg
open PySem PySem.Spec PyProof.Rows L2

def startD (n : Nat) (ds : List D) : Sl := ds.map some ++ List.replicate (n - ds.length) none
def finS : RS → R D
  | .nx _ A => .ok .non A
  | .rt d A => .ok d A
  | .exc x _ A => .exc x A
  | _ => .bad
/-- a def of n parameters and m names whose body does as b -/
def mFun (n m : Nat) (b : MS) : List D → AH → R D := fun ds A => if ds.length = n then finS (b (startD m ds) A) else .bad
section
variable {P : Program} {w : World} {K : PySem.W.Frag} {mg : Str → Option Value} {base : Heap} {x qual c : Str} {st : Stmt} {N ps : List Str} {k : Nat} {m : MS}
abbrev CxT (P : Program) (w : World) (K : PySem.W.Frag) (mg : Str → Option Value) (base : Heap) (N : List Str) (qual : Str) (st : Stmt) (f : Addr) (cd : Value) (A : Around) (outer : List Env) (s : Shared) (H : Hp) (E : XK) : Cx :=
  cxOf (L2.CX P w) P w K mg base N qual (defScope st) f cd A outer s H E
theorem tkF {f : Addr} {cd : Value} {A : Around} {outer : List Env} {s : Shared} {H : Hp} {E : XK} : Takes (CxT P w K mg base N qual st f cd A outer s H E) (fun c d _ H => E c d H) := takes_of rfl rfl rfl rfl
theorem psF {f : Addr} {cd : Value} {A : Around} {outer : List Env} {s : Shared} {H : Hp} {E : XK} : PassesOwn (model (CxT P w K mg base N qual st f cd A outer s H E).prog (CxT P w K mg base N qual st f cd A outer s H E).w) (CxT P w K mg base N qual st f cd A outer s H E).A (CxT P w K mg base N qual st f cd A outer s H E).env (CxT P w K mg base N qual st f cd A outer s H E).xe := passes_of rfl
/-- the body's term -/
def Body (P : Program) (w : World) (K : PySem.W.Frag) (mg : Str → Option Value) (base : Heap) (N : List Str) (qual : Str) (st : Stmt) (k : Nat) (m : MS) : Prop :=
  ∀ (f : Addr) (cd : Value) (A : Around) (outer : List Env) (s : Shared) (H : Hp) (E : XK), Room k (CxT P w K mg base N qual st f cd A outer s H E).A →
    ∃ t, SSs (CxT P w K mg base N qual st f cd A outer s H E) (fun c d _ H => E c d H) (defBody st) t m
theorem fnok_of {f : Addr} {fd : FuncData} (F : Fun K x qual st f fd) (S : FnScope N ps (defScope st)) (h : Body P w K mg base N qual st k m) : FnOk P w K mg base (L2.CX P w) (k + 1) f fd ps (spM K mg (mFun ps.length N.length m)) := by
  have hl : ∀ vs H Q E, spM K mg (mFun ps.length N.length m) vs H Q E → vs.length = ps.length := fun vs H Q E ⟨W, ds, A, k, r, z⟩ => by
    unfold mFun at z
    split at z
    · rename_i e
      rw [r.length, e]
    · exact z.elim
  refine F.okX S hl fun cdv A outer s H vs Q E hr hsp => ?_
  have hvl := hl _ _ _ _ hsp
  obtain ⟨W, ds, A', k, r, z⟩ := hsp
  obtain ⟨t, ss⟩ := h f cdv A outer s H E hr
  refine ⟨t, ss.ps, ?_⟩
  have hd : ds.length = ps.length := by rw [← r.length, hvl]
  unfold mFun at z
  rw [if_pos hd] at z
  have sr : SlR K W (startD N.length ds) (L2.start N vs) := by
    unfold startD L2.start
    rw [r.length]
    exact SlR.of r
  refine ss.sim W _ _ A' H _ k sr ?_
  generalize m (startD N.length ds) A' = q at z
  cases q with
  | nx s1 A1 => exact fun W' σ' H' e k' _ => z W' H' .non e k' rfl
  | rt d A1 => exact fun W' v H' e k' r' => z W' H' v e k' r'
  | exc y s1 A1 => exact fun W' σ' H' c d e k' _ x' => z W' H' c d e k' x'
  | bk _ _ => exact z.elim
  | ct _ _ => exact z.elim
  | bad => exact z.elim
/-- as Body, told of the code object that the def named x has -/
def BodyC (P : Program) (w : World) (K : PySem.W.Frag) (mg : Str → Option Value) (base : Heap) (N : List Str) (x : Str) (st : Stmt) (k : Nat) (m : MS) : Prop :=
  ∀ (f : Addr) (cd : Value) (A : Around) (outer : List Env) (s : Shared) (H : Hp) (E : XK), (∀ c, codeA K mg x = some c → cd = .ref c) → Room k (CxT P w K mg base N x st f cd A outer s H E).A →
    ∃ t, SSs (CxT P w K mg base N x st f cd A outer s H E) (fun c d _ H => E c d H) (defBody st) t m
theorem fnokC_of {f : Addr} {fd : FuncData} (F : Fun K x x st f fd) (hm : mg x = some (.ref f)) (S : FnScope N ps (defScope st)) (h : BodyC P w K mg base N x st k m) : FnOk P w K mg base (L2.CX P w) (k + 1) f fd ps (spM K mg (mFun ps.length N.length m)) := by
  have hl : ∀ vs H Q E, spM K mg (mFun ps.length N.length m) vs H Q E → vs.length = ps.length := fun vs H Q E ⟨W, ds, A, k, r, z⟩ => by
    unfold mFun at z
    split at z
    · rename_i e
      rw [r.length, e]
    · exact z.elim
  obtain ⟨oc, od, kV, doc, pm, an, cdv, ct, osl, rfl, lk, hcd⟩ := F.ex
  refine fn_of lk hcd S hl fun A outer s H vs Q E hr hsp => ?_
  have hvl := hl _ _ _ _ hsp
  obtain ⟨W, ds, A', k, r, z⟩ := hsp
  obtain ⟨t, ss⟩ := h f cdv A outer s H E (fun c hc => by
    unfold codeA at hc
    rw [hm] at hc
    dsimp only at hc
    rw [lk] at hc
    dsimp only at hc
    cases cdv with
    | ref c' =>
      cases hc
      rfl
    | _ => cases hc) hr
  refine ⟨t, ss.ps, ?_⟩
  have hd : ds.length = ps.length := by rw [← r.length, hvl]
  unfold mFun at z
  rw [if_pos hd] at z
  have sr : SlR K W (startD N.length ds) (L2.start N vs) := by
    unfold startD L2.start
    rw [r.length]
    exact SlR.of r
  refine ss.sim W _ _ A' H _ k sr ?_
  generalize m (startD N.length ds) A' = q at z
  cases q with
  | nx s1 A1 => exact fun W' σ' H' e k' _ => z W' H' .non e k' rfl
  | rt d A1 => exact fun W' v H' e k' r' => z W' H' v e k' r'
  | exc y s1 A1 => exact fun W' σ' H' c d e k' _ x' => z W' H' c d e k' x'
  | bk _ _ => exact z.elim
  | ct _ _ => exact z.elim
  | bad => exact z.elim
/-- what stands behind the module's top: a def, a method, a class that can be made -/
def TF (K : PySem.W.Frag) (mg : Str → Option Value) (x qual : Str) (st : Stmt) (ps : List Str) : Prop := ∃ f fd, Fun K x qual st f fd ∧ mg x = some (.ref f) ∧ Binds K fd ps []
def TI (K : PySem.W.Frag) (mg : Str → Option Value) (c qual : Str) (st : Stmt) (ps : List Str) : Prop := ∃ C f fd, Fun K "__init__" qual st f fd ∧ mg c = some (.ref C) ∧ Mk K C f ∧ Binds K fd ps []
theorem dfn_of (T : TF K mg x qual st ps) (S : FnScope N ps (defScope st)) (h : Body P w K mg base N qual st k m) : Dfn P w K mg base x (k + 1) (mFun ps.length N.length m) := by
  obtain ⟨f, fd, F, hm, hb⟩ := T
  exact ⟨f, fd, ps, fnok_of F S h, hm, F.kp, hb⟩
theorem mkr_of (T : TI K mg c qual st ps) (S : FnScope N ps (defScope st)) (h : Body P w K mg base N qual st k m) : Mkr P w K mg base c (k + 1) (mFun ps.length N.length m) := by
  obtain ⟨C, f, fd, F, hm, M, hb⟩ := T
  exact ⟨C, f, fd, ps, fnok_of F S h, hm, M, hb⟩
theorem Dfn.mono {g : List D → AH → R D} {j : Nat} (d : Dfn P w K mg base x k g) (h : k ≤ j) : Dfn P w K mg base x j g := by
  obtain ⟨f, fd, ps, F, a, b, c⟩ := d
  exact ⟨f, fd, ps, F.mono h, a, b, c⟩
end

/-! ### constants of the module -/
def GDat (K : PySem.W.Frag) (mg : Str → Option Value) (x : Str) (d : D) : Prop := ∃ u v, mg x = some u ∧ RelV v u ∧ ∀ W, Rep K W d v
noncomputable def gV {K : PySem.W.Frag} {mg : Str → Option Value} {x : Str} {d : D} (g : GDat K mg x d) : V := g.choose_spec.choose
theorem sglob {X : Cx} {Wx : WX} {x : Str} {d : D} {pos : Pos} (g : GDat X.K X.mg x d) (hg : Gl X x := by rfl) (hdb : (x == ("__debug__" : Str)) = false := by decide) : SE X Wx (.Name x pos) (tC (gV g)) (mc d) :=
  ⟨pe_glob hg g.choose_spec.choose_spec.1 g.choose_spec.choose_spec.2.1 hdb, fun W σ s A H Q k sr h => h.ok_at k (g.choose_spec.choose_spec.2.2 W)⟩
section
variable {K : PySem.W.Frag} {mg : Str → Option Value} {x : Str}
theorem gint {i : Int} {t : Tok} (h : mg x = some (.int i t)) : GDat K mg x (.int i) := ⟨_, .int i, h, ⟨t, rfl⟩, fun _ => rfl⟩
theorem gstr {i : Str} {t : Tok} (h : mg x = some (.str i t)) : GDat K mg x (.str i) := ⟨_, .str i, h, ⟨t, rfl⟩, fun _ => rfl⟩
/-- numbers and texts, as they are written -/
def fltOk : List D → List Value → Bool
  | [], [] => true
  | .int i :: ds, .int j _ :: us => decide (i = j) && fltOk ds us
  | .str i :: ds, .str j _ :: us => decide (i = j) && fltOk ds us
  | _, _ => false
theorem flt_at {W : Wd} : ∀ {ds : List D} {us : List Value}, fltOk ds us = true → ∃ vs, Reps K W ds vs ∧ Vals vs us
  | [], [], _ => ⟨[], rfl, .nil⟩
  | [], _ :: _, h => by cases h
  | .int i :: ds, [], h => by cases h
  | .int i :: ds, u :: us, h => by
    cases u with
    | int j t =>
      simp only [fltOk, Bool.and_eq_true, decide_eq_true_eq] at h
      obtain ⟨vs, r, v⟩ := flt_at h.2
      exact ⟨.int i :: vs, Reps.cons rfl r, .cons ⟨t, by rw [h.1]⟩ v⟩
    | _ => cases h
  | .str i :: ds, [], h => by cases h
  | .str i :: ds, u :: us, h => by
    cases u with
    | str j t =>
      simp only [fltOk, Bool.and_eq_true, decide_eq_true_eq] at h
      obtain ⟨vs, r, v⟩ := flt_at h.2
      exact ⟨.str i :: vs, Reps.cons rfl r, .cons ⟨t, by rw [h.1]⟩ v⟩
    | _ => cases h
  | .non :: ds, us, h => by cases us <;> cases h
  | .bl _ :: ds, us, h => by cases us <;> cases h
  | .tup _ :: ds, us, h => by cases us <;> cases h
  | .lst _ :: ds, us, h => by cases us <;> cases h
  | .dct _ _ :: ds, us, h => by cases us <;> cases h
  | .ref _ :: ds, us, h => by cases us <;> cases h
  | .scr _ :: ds, us, h => by cases us <;> cases h
/-- where a tuple of numbers and texts stands -/
def tupAt (K : PySem.W.Frag) (a : Addr) (ds : List D) : Bool := match K.lookup a with
  | some ⟨.type c, _, .seq its _, _⟩ => decide (c = "tuple") && (decide (its.size ≤ 1000) && fltOk ds its.toList)
  | _ => false
theorem gtupc {a : Addr} {ds : List D} (h : mg x = some (.ref a)) (h1 : tupAt K a ds = true) : GDat K mg x (.tup ds) := by
  unfold tupAt at h1
  split at h1
  · rename_i c od its n sl e
    simp only [Bool.and_eq_true, decide_eq_true_eq] at h1
    obtain ⟨rfl, h2, h3⟩ := h1
    refine ⟨_, .ref a, h, rfl, fun W => ?_⟩
    obtain ⟨vs, r, v⟩ := flt_at (K := K) (W := W) h3
    exact ⟨a, vs, rfl, .inr ⟨_, its, n, e, rfl, rfl, Nat.le_trans h2 (by decide), v⟩, r⟩
  · cases h1

/-- a written table of texts -/
structure KTab (K : PySem.W.Frag) (w : World) (d : Addr) (kvs : List (Str × Str)) : Prop where
  kd : ∃ es n, KDict K w d es n
  yes : ∀ z v, kvs.lookup z = some v → ∃ t, PySem.W.nsIn K d z = some (some (.str v t))
  no : ∀ z, kvs.lookup z = none → PySem.W.nsIn K d z = some none
def GTab (K : PySem.W.Frag) (w : World) (mg : Str → Option Value) (x : Str) (kvs : List (Str × Str)) : Prop := ∃ d, mg x = some (.ref d) ∧ KTab K w d kvs
def entOf (e : DictEntry) : Option (Str × Str) := match e.key, e.val with
  | .str x _, .str y _ => some (x, y)
  | _, _ => none
def dicT (K : PySem.W.Frag) (a : Addr) : List (Option (Str × Str)) := match K.lookup a with
  | some ⟨_, _, .dict es _, _⟩ => es.toList.map entOf
  | _ => []
theorem ents_at : ∀ {l : List DictEntry} {kvs : List (Str × Str)}, l.map entOf = kvs.map some → ∀ z, (match l.find? (·.key.isStr z) with
      | some e => some (some e.val)
      | none => if l.any (·.refKey) then none else some none) = (match kvs.lookup z with
      | some v => some (some ((l.find? (·.key.isStr z)).elim (.str v default) (·.val)))
      | none => some none) ∧ ∀ v, kvs.lookup z = some v → ∃ e t, l.find? (·.key.isStr z) = some e ∧ e.val = .str v t
  | [], [], _, z => ⟨rfl, fun v h => by cases h⟩
  | [], _ :: _, h, _ => by cases h
  | _ :: _, [], h, _ => by cases h
  | e :: l, (k, v) :: kvs, h, z => by
    simp only [List.map_cons, List.cons.injEq] at h
    obtain ⟨h1, h2⟩ := h
    obtain ⟨i1, i2⟩ := ents_at h2 z
    unfold entOf at h1
    split at h1
    · rename_i kx kt vx vt ek ev
      cases h1
      have hs : e.key.isStr z = (k == z) := by rw [ek]; rfl
      have hr : e.refKey = false := by
        unfold DictEntry.refKey
        rw [ek]
      simp only [List.find?, List.lookup, hs]
      cases q : k == z with
      | true =>
        have q' : (z == k) = true := by
          rw [beq_iff_eq] at q ⊢
          exact q.symm
        rw [q']
        exact ⟨rfl, fun v' h' => by cases h'; exact ⟨e, vt, rfl, ev⟩⟩
      | false =>
        have q' : (z == k) = false := by
          cases q2 : z == k with
          | false => rfl
          | true =>
            rw [beq_iff_eq] at q2
            rw [q2, beq_self_eq_true] at q
            cases q
        rw [q']
        refine ⟨?_, i2⟩
        rw [List.any_cons, hr, Bool.false_or]
        exact i1
    · cases h1
end
def kinD (kvs : List (Str × Str)) : D → AH → R D
  | .str z, A => .ok (.bl (kvs.lookup z).isSome) A
  | _, _ => .bad
def kninD (kvs : List (Str × Str)) : D → AH → R D
  | .str z, A => .ok (.bl (!(kvs.lookup z).isSome)) A
  | _, _ => .bad
def kixD (kvs : List (Str × Str)) : D → AH → R D
  | .str z, A => match kvs.lookup z with
    | some v => .ok (.str v) A
    | none => .bad
  | _, _ => .bad
section
variable {X : Cx} {Wx : WX} {a : Expr} {ta : TE} {ma : ME} {x : Str} {kvs : List (Str × Str)} {p pos : Pos}
def rKin (K : PySem.W.Frag) (w : World) (neg : Bool) : R2 := fun x y H Q => ∃ (d : Addr) (es : Array DictEntry) (n : Nat) (z : Str) (r : Option Value), KDict K w d es n ∧ x = .str z ∧ y = .ref d ∧ PySem.W.nsIn K d z = some r ∧ Q (.bl (if neg then !r.isSome else r.isSome)) H
theorem op_knin : OpR X (compareOp .NotIn) (rKin X.K X.w true) := fun pins s σ H x y v u Q I rx ry ⟨d, es, n, z, r, D, h⟩ => op_notIn_kd D pins s σ H x y v u Q I rx ry ⟨z, r, h⟩
theorem sim_kin {neg : Bool} (T : GTab X.K X.w X.mg x kvs) (ha : SimE X.K X.mg Wx ta ma) : SimE X.K X.mg Wx (tOp (rKin X.K X.w neg) ta (tC (.ref (clA X.mg x)))) (mUn (if neg then kninD kvs else kinD kvs) ma) := by
  obtain ⟨d, hm, T⟩ := T
  obtain ⟨es, n, D⟩ := T.kd
  rw [clA_of hm]
  refine fun W σ s A H Q k sr h => ha W σ s A H _ k sr (h.bind fun x A1 v W1 H1 e1 k1 r1 h1 => ?_)
  cases x with
  | str z =>
    obtain rfl : v = V.str z := r1
    cases q : kvs.lookup z with
    | none =>
      refine ⟨d, es, n, z, none, D, rfl, rfl, T.no z q, ?_⟩
      cases neg with
      | true => exact h1.ok_at k1 (by rw [q]; rfl)
      | false => exact h1.ok_at k1 (by rw [q]; rfl)
    | some v =>
      obtain ⟨t, e⟩ := T.yes z v q
      refine ⟨d, es, n, z, _, D, rfl, rfl, e, ?_⟩
      cases neg with
      | true => exact h1.ok_at k1 (by rw [q]; rfl)
      | false => exact h1.ok_at k1 (by rw [q]; rfl)
  | _ => cases neg <;> exact h1.elim
theorem pe_tab (T : GTab X.K X.w X.mg x kvs) (hg : Gl X x := by rfl) (hdb : (x == ("__debug__" : Str)) = false := by decide) : PE X (.Name x p) (tC (.ref (clA X.mg x))) := by
  obtain ⟨d, hm, T⟩ := T
  rw [clA_of hm]
  exact pe_glob hg hm rfl hdb
theorem tknin (T : GTab X.K X.w X.mg x kvs) (ha : SE X Wx a ta ma) (hg : Gl X x := by rfl) (hdb : (x == ("__debug__" : Str)) = false := by decide) (hm : behindInMarks .NotIn (.Name x p) = false := by rfl) :
    ST X Wx (.Compare a [.NotIn] [.Name x p] pos) (tTest (tOp (rKin X.K X.w true) ta (tC (.ref (clA X.mg x))))) (mTb (mUn (kninD kvs) ma)) := ⟨pt_cmpR op_knin ha.pe (pe_tab T hg hdb) hm, sim_test (sim_kin (neg := true) T ha.sim)⟩
theorem skix (T : GTab X.K X.w X.mg x kvs) (ha : SE X Wx a ta ma) (hg : Gl X x := by rfl) (hdb : (x == ("__debug__" : Str)) = false := by decide) (hs : PlainIx a := by intro _ _; rfl) :
    SE X Wx (.Subscript (.Name x p) a pos) (tOp (rIxD X.K X.w) (tC (.ref (clA X.mg x))) ta) (mUn (kixD kvs) ma) := ⟨pe_ix ix_kdict (pe_tab T hg hdb) ha.pe hs, by
  obtain ⟨d, hm, T⟩ := T
  obtain ⟨es, n, D⟩ := T.kd
  rw [clA_of hm]
  refine fun W σ s A H Q k sr h => ha.sim W σ s A H _ k sr (h.bind fun x A1 v W1 H1 e1 k1 r1 h1 => ?_)
  cases x with
  | str z =>
    obtain rfl : v = V.str z := r1
    unfold kixD at h1
    dsimp only at h1
    cases q : kvs.lookup z with
    | none =>
      rw [q] at h1
      exact h1.elim
    | some v =>
      rw [q] at h1
      obtain ⟨t, e⟩ := T.yes z v q
      exact ⟨d, z, .str v, rfl, rfl, ⟨es, n, _, D.at_, D.lit, e, ⟨t, rfl⟩⟩, h1.ok_at k1 rfl⟩
  | _ => exact h1.elim⟩
end

/-! ### within a block: terms told by the names of the def's context -/
theorem se_fix {X : Cx} {Wx : WX} {e : Expr} {t t' : TE} {m : ME} (h : SE X Wx e t m) (ht : t = t') : SE X Wx e t' m := ht ▸ h
theorem sts_fix {X : Cx} {Wx : WX} {e : List Expr} {t t' : TT} {m : MT} (h : STs X Wx e t m) (ht : t = t') : STs X Wx e t' m := ht ▸ h
theorem sg_fix {X : Cx} {e : Expr} {t t' : TG} {m : MG} {is : List Nat} (h : SG X e t m is) (ht : t = t') : SG X e t' m is := ht ▸ h

/-! ### shorter rules -/
section
variable {X : Cx} {Wx : WX} {pos : Pos}
theorem sparT {i j l : Nat} {x y z : Str} {a b c : Expr} {ta : TA} {ma : MA} {px py pz pt pt2 : Pos} {kt k2 : Nat} (hc : X.calm = true) (hN : X.N.Nodup) (h : SA X Wx [a, b, c] ta ma) (hi : X.N[i]? = some x := by rfl) (hj : X.N[j]? = some y := by rfl) (hl : X.N[l]? = some z := by rfl)
    (hij : i ≠ j := by decide) (hil : i ≠ l := by decide) (hjl : j ≠ l := by decide) (hx : X.env.scope.names.lookup x = some .local := by rfl) (hy : X.env.scope.names.lookup y = some .local := by rfl) (hz : X.env.scope.names.lookup z = some .local := by rfl)
    (hw : swappedStores [.Tuple [.Name x px, .Name y py, .Name z pz] kt pt] (.Tuple [a, b, c] k2 pt2) X.env = pure (some [x, y, z]) := by rfl)
    (hs : swapsWithSole [.Tuple [.Name x px, .Name y py, .Name z pz] kt pt] (.Tuple [a, b, c] k2 pt2) pos.line X.env = pure false := by rfl) :
    SS X Wx (.Assign [.Tuple [.Name x px, .Name y py, .Name z pz] kt pt] (.Tuple [a, b, c] k2 pt2) pos) (tPar3 i j l ta) (mPar [i, j, l] ma) := spar3 hc hN h (ps_par3 hc hN hi hj hl hij hil hjl hx hy hz h.pa hw hs)
end
end Tg

set_option Elab.async false
set_option linter.all false
set_option maxRecDepth 100000
set_option maxHeartbeats 2000000
/-! TgMore: d.update(pairs). -/
namespace Tg
open PySem PySem.Spec PyProof.Rows L2
theorem pairs_at {X : Cx} {pins : List (Addr × Obj)} {σ : L2.St} {H : Hp} {s : Shared} (I : Inv X pins σ H s) : ∀ {ps : List Addr} {kvs : List (Key × V)}, Paired (fun p kv => SqT X.K H p [kV kv.1, kv.2]) ps kvs →
    ∃ (prs : List (Key × Value)) (qs : List (Value × Value)), L2.KV kvs prs ∧ qs.length = ps.length ∧ prs.length = ps.length ∧ ∀ (j : Nat) (k v : Value), qs[j]? = some (k, v) → ∃ (b : Addr) (y : Key), ps[j]? = some b ∧ IsTup s.heap b #[k, v] ∧ prs[j]? = some (y, v) ∧ (mixKind X.prog X.w).is y k = true
  | _, _, .nil => ⟨[], [], .nil, rfl, rfl, fun j k v e => by simp at e⟩
  | _, _, .cons (a := p) (b := kv) h t => by
    obtain ⟨prs, qs, r, hl, hl2, hp⟩ := pairs_at I t
    obtain ⟨its, rv, ht, _⟩ := I.tuple h
    obtain ⟨u, y, ei, ru, ry⟩ := vals2 rv
    subst ei
    refine ⟨(kv.1, y) :: prs, (u, y) :: qs, .cons ⟨rfl, ry⟩ r, by rw [List.length_cons, List.length_cons, hl], by rw [List.length_cons, List.length_cons, hl2], fun j k v e => ?_⟩
    cases j with
    | zero =>
      have e' : (u, y) = (k, v) := Option.some.inj e
      cases e'
      exact ⟨p, kv.1, rfl, ht, rfl, kV_is (P := X.prog) (w := X.w) ru⟩
    | succ j =>
      obtain ⟨b, y', e1, e2, e3, e4⟩ := hp j k v (by simpa using e)
      exact ⟨b, y', by simpa using e1, e2, by simpa using e3, e4⟩
def rUpd (K : PySem.W.Frag) : V → List V → Hp → VK → Prop := fun x xs H Q => ∃ (d a : Addr) (ps : List Addr) (kvs acc : List (Key × V)), x = .ref d ∧ xs = [.ref a] ∧ H d = some (.dK acc) ∧ SqL K H a (ps.map V.ref) ∧ Paired (fun p kv => SqT K H p [kV kv.1, kv.2]) ps kvs ∧
    acc.length + kvs.length ≤ 16777216 ∧ Q .non (upd H d (.dK (mergeK acc kvs)))
theorem mt_upd {X : Cx} (hcalm : X.calm = true) : MtR X "dict.update" (rUpd X.K) := by
  intro pins s σ H x xs v us Q I rx r q
  obtain ⟨d, a, ps, kvs, acc, rfl, rfl, hd, hq, hp, hsz, q⟩ := q
  obtain ⟨u, rfl, ru⟩ := vals1 r
  cases rx
  cases ru
  obtain ⟨its, rv, pl, hz⟩ := I.list hq
  have ei := refs_at rv
  subst ei
  obtain ⟨prs, qs, rel, hl, hl2, hpr⟩ := pairs_at I hp
  obtain ⟨z, hdl, vs, rel2, dd⟩ := dk_of I.hok hd
  obtain ⟨o, n, ho, hc, hdd, hdat⟩ := pl
  have od := dd
  obtain ⟨obd, _, _, hod, ex, _⟩ := od
  have kl : kvs.length = prs.length := rel.length
  have tup_ne : ∀ b its, IsTup s.heap b its → d ≠ b := fun b its ⟨ob, e1, e2, _⟩ q => by
    rw [← q, hod] at e1
    cases e1
    rw [ex.1] at e2
    exact absurd (Value.type.inj e2) (by decide)
  refine call_update_pairs (knd := mixKind X.prog X.w) (acc := vs) (kvs := prs) (PairArg.list (prog := X.prog) (w := X.w) a (ps.map Value.ref).toArray (fun j => ps.getD j 0) qs) (I.ok.hd hcalm) ⟨⟨o, n, ho, hc, hdd, hdat⟩, ⟨by simp [hl], fun j k v e => ?_⟩⟩ (fun hm => ?_) ⟨by rw [hl2, hl], fun j k v e => ?_⟩ dd ?_ fun h' tk hd' kk => ?_
  · obtain ⟨b, y, e1, e2, e3, e4⟩ := hpr j k v e
    refine ⟨by simp [e1], .inl ?_⟩
    show s.heap.IsTuple (ps.getD j 0) #[k, v]
    rw [List.getD_eq_getElem?_getD, e1]
    exact e2
  · rcases List.mem_cons.mp hm with hm | hm
    · rw [hm, ho] at hod
      cases hod
      rw [ex.1] at hc
      exact absurd (Value.type.inj hc) (by decide)
    · obtain ⟨j, hj, e⟩ := List.mem_map.mp hm
      have hj2 := List.mem_range.mp hj
      obtain ⟨b, y, e1, e2, e3, e4⟩ := hpr j qs[j].1 qs[j].2 (List.getElem?_eq_getElem hj2)
      rw [List.getD_eq_getElem?_getD, e1] at e
      exact tup_ne b _ e2 e.symm
  · obtain ⟨b, y, e1, e2, e3, e4⟩ := hpr j k v e
    exact ⟨y, e3, e4⟩
  · rw [sizeLine_eq, ← rel2.length, hl, ← hl2, ← kl]
    exact hsz
  · have he : ∃ q, h'.get? d = some q := let ⟨q, _, _, hq, _⟩ := hd'; ⟨q, hq⟩
    have hlen : (mergeK acc kvs).length ≤ sizeLine := Nat.le_trans (length_mergeK kvs acc) (by rw [sizeLine_eq]; exact hsz)
    exact ⟨.non, _, I.write (x := d) (e := d) (t' := tk) (by rw [hd]; exact True.intro) (.inl rfl) (fun b q hb z => kk b q hb (fun z => nomatch z) z) he (dk_new hlen hdl (KV.merge rel rel2) hd'), rfl, q⟩

/-- the pairs of a list -/
def pairsD : List D → Option (List (Key × D))
  | [] => some []
  | .tup [k, v] :: ds => match keyD k, pairsD ds with
    | some k, some kvs => some ((k, v) :: kvs)
    | _, _ => none
  | _ => none
def updD : D → List D → AH → R D := fun x ds A => match x, ds with
  | .ref n, [.lst ps] => match A[n]?, pairsD ps with
    | some (.dct acc), some kvs => if acc.length + kvs.length ≤ 16777216 then .ok .non (A.set n (.dct (mergeD acc kvs))) else .bad
    | _, _ => .bad
  | _, _ => .bad
section
variable {K : PySem.W.Frag} {mg : Str → Option Value} {W : Wd}
theorem pairsD_at {A : AH} {H : Hp} (k : Ok K mg W A H) : ∀ {ds : List D} {xs : List V} {more : List (Key × D)}, Reps K W ds xs → pairsD ds = some more →
    ∃ (ps : List Addr) (kvs : List (Key × V)), xs = ps.map V.ref ∧ Paired (fun p kv => SqT K H p [kV kv.1, kv.2]) ps kvs ∧ KVR K W more kvs
  | [], xs, more, r, e => by
    cases (show some [] = some more from e)
    cases (show xs = [] from r)
    exact ⟨[], [], rfl, .nil, rfl, rfl⟩
  | d :: ds, xs, more, r, e => by
    obtain ⟨v, r', rfl, h1, h2⟩ := r
    unfold pairsD at e
    split at e
    · cases ‹_ = []›
    · rename_i kd vd ds' q
      simp only [List.cons.injEq] at q
      obtain ⟨rfl, rfl⟩ := q
      split at e
      · rename_i kx kvs' e1 e2
        cases e
        obtain ⟨ps, kvs, rfl, e4, e5⟩ := pairsD_at k h2 e2
        obtain ⟨a, ys, rfl, q1, q2⟩ := h1
        obtain ⟨y1, y2, rfl, q3, q4⟩ := reps2 q2
        refine ⟨a :: ps, (kx, y2) :: kvs, rfl, .cons ?_ e4, KVR.mk_cons q4 e5⟩
        rw [← keyD_at q3 e1]
        exact k.sqT q1
      · cases e
    · cases e
theorem oUpdS : MtS K mg (rUpd K) updD := fun W A H E Q d x ds xs k rx r h => by
  unfold updD at h
  split at h
  · rename_i n ps
    obtain ⟨a, rfl, ha⟩ := rx
    obtain ⟨v, rfl, h1⟩ := reps1 r
    split at h
    · rename_i acc kvs q1 q2
      split at h
      · rename_i z
        obtain ⟨vs, hx, hk, rr⟩ := k.obj n a _ ha q1
        have kr : KVR K W acc vs := ⟨hk, rr⟩
        obtain ⟨b, ys, rfl, h3, h4⟩ := h1
        obtain ⟨qs, kvs', rfl, e1, e2⟩ := pairsD_at k h4 q2
        refine ⟨a, b, qs, kvs', vs, rfl, rfl, hx, .of (k.frz _ _ h3), e1, by rw [kr.len, e2.len]; exact z, post_write (d := .non) k ha (obd (KVR.merge e2 kr)) rfl h⟩
      · exact h.elim
    · exact h.elim
  · exact h.elim
end
end Tg

set_option Elab.async false
set_option linter.all false
set_option maxRecDepth 100000
set_option maxHeartbeats 2000000
/-! TgEnd: what the head's facts give; the law's own end. -/
namespace Tg
open PySem PySem.Spec PyProof.Rows L2
section
variable {K : PySem.W.Frag} {h : Heap} {mg : Str → Option Value} {x qual c : Str} {st : Stmt} {ps : List Str} {f C : Addr} {oc kV doc pm cdv ct : Value} {od an : Option Addr} {osl : Array (Option Value)}
abbrev HB (x qual : Str) (st : Stmt) (ps : List Str) : Prop := ∀ (kV doc pm : Value) (an : Option Addr) (cdv ct : Value) (us : List Value), us.length = ps.length → bindArgs (PySem.W.fnOf x qual (defArgs st) (defBody st) (defScope st) .none kV doc pm an cdv ct) ⟨us, []⟩ = pure (ps.zip us)
theorem tf_of (X : K.In h) (G : h.Ns mainGlobals mg) (a : PySem.W.nsIn K mainGlobals x = some (some (.ref f))) (l : K.lookup f = some ⟨oc, od, .func (PySem.W.fnOf x qual (defArgs st) (defBody st) (defScope st) .none kV doc pm an cdv ct), osl⟩)
    (cc : PySem.W.codeIn K cdv qual = true) (k : PySem.W.keepIn K (.ref f) = true) (b : HB x qual st ps) : TF K mg x qual st ps :=
  ⟨f, _, fun_mk l cc k, PySem.W.mg_of X G a, (fun_mk l cc k).binds b⟩
def TL (K : PySem.W.Frag) (mg : Str → Option Value) (x : Str) (st : Stmt) (p : Str) : Prop := ∃ f fd, Fun K x x st f fd ∧ mg x = some (.ref f) ∧ ∀ (s : Shared) (v : Value), BindsTo s fd ⟨[v], []⟩ [(p, v)]
theorem tl_of {p : Str} (X : K.In h) (G : h.Ns mainGlobals mg) (a : PySem.W.nsIn K mainGlobals x = some (some (.ref f))) (l : K.lookup f = some ⟨oc, od, .func (PySem.W.fnOf x x (defArgs st) (defBody st) (defScope st) .none kV doc pm an cdv ct), osl⟩)
    (cc : PySem.W.codeIn K cdv x = true) (k : PySem.W.keepIn K (.ref f) = true) (b : HB x x st [p]) : TL K mg x st p :=
  ⟨f, _, fun_mk l cc k, PySem.W.mg_of X G a, fun s v => .of_eq (b kV doc pm an cdv ct [v] rfl)⟩
theorem ti_of (X : K.In h) (G : h.Ns mainGlobals mg) (a : PySem.W.nsIn K mainGlobals c = some (some (.ref C))) (m : PySem.W.findIn K (.ref C) "__init__" = some (some (.ref f))) (i : PySem.W.isFn K (.ref f) = true)
    (l : K.lookup f = some ⟨oc, od, .func (PySem.W.fnOf "__init__" qual (defArgs st) (defBody st) (defScope st) .none kV doc pm an cdv ct), osl⟩) (cc : PySem.W.codeIn K cdv qual = true) (k : PySem.W.keepIn K (.ref f) = true) (b : HB "__init__" qual st ps)
    (mk : PySem.W.makesIn K C = true) (kc : PySem.W.keepIn K (.ref C) = true) : TI K mg c qual st ps :=
  ⟨C, f, _, fun_mk l cc k, PySem.W.mg_of X G a, ⟨mk, m, i, kc⟩, (fun_mk l cc k).binds b⟩
end
theorem gtab_at {x : Str} {K : PySem.W.Frag} {mg : Str → Option Value} {w : World} {a : Addr} {kvs : List (Str × Str)} {es : Array DictEntry} {n : Nat} (hm : mg x = some (.ref a)) (l : K.lookup a = some ⟨.type "dict", none, .dict es n, #[]⟩) (k : PySem.W.KeysLit w.params es.toList)
    (o : (a == sysModules) = false) (h2 : es.toList.map entOf = kvs.map some) : GTab K w mg x kvs := by
  refine ⟨a, hm, ?_⟩
  have e0 : ∀ z, PySem.W.nsIn K a z = (match es.toList.find? (·.key.isStr z) with
      | some e => some (some e.val)
      | none => if es.toList.any (·.refKey) then none else some none) := fun z => by
    unfold PySem.W.nsIn
    rw [l]
    rfl
  refine ⟨⟨es, n, l, k, o⟩, fun z v e => ?_, fun z e => ?_⟩
  · obtain ⟨e', t, e1, e2⟩ := (ents_at h2 z).2 v e
    refine ⟨t, ?_⟩
    rw [e0, e1, ← e2]
  · exact ((e0 z).trans (ents_at h2 z).1).trans (by rw [e])
theorem cx_none {P : Program} {w : World} {H : Hp} {s s' : Shared} {e : Value} (z : L2.CX P w [] H s (fun _ _ _ => False) e s') : False := by
  obtain ⟨_, _, _, _, _, _, _, _, _, _, _, _, q⟩ := z
  exact q
/-- the making of lambdas in the def x, over the base -/
def LamB (K : PySem.W.Frag) (mg : Str → Option Value) (base : Heap) (x : Str) : Prop := ∀ c P, codeA K mg x = some c → tabA K mg x = some P → LamX.TabB base mg c P
/-- the law's promise where the tables of the lambdas' codes are told -/
def spLawT (K : PySem.W.Frag) (cs : List (Addr × Addr)) : Sp := fun vs H Q _ => ∃ (a : Addr) (ns : List Int), vs = [.ref a] ∧ SqL K H a (ns.map V.int) ∧ ns.length ≤ 63 ∧ (∀ p ∈ cs, H p.2 = some (.tbl #[])) ∧ ∀ H', Q (.bl true) H'
open Classical in
theorem lawEnd {l : PySem.W.OpenLaw} {w : World} {K : PySem.W.Frag} {mg : Str → Option Value} {fa : Addr} {N : List Str} {st : Stmt} {p : Str} {k : Nat} {m : MS} {cs : List (Addr × Addr)} (hfa : mg "law" = some (.ref fa)) (T : TL K mg "law" st p) (S : FnScope N [p] (defScope st))
    (hcs : ∀ x ∈ lamDefs, ∀ P, tabA K mg x = some P → ∃ c, codeA K mg x = some c ∧ (c, P) ∈ cs)
    (h : ∀ base : Heap, (∀ x ∈ lamDefs, LamB K mg base x) → BodyC l.prog w K mg base N "law" st k m) (hl : ∀ ns : List Int, ns.length ≤ 63 → ∃ A, mFun 1 N.length m [.scr ns] [] = .ok (.bl true) A) :
    ∃ fd : FuncData, (∀ (s : Shared) (v : Value), BindsTo s fd ⟨[v], []⟩ [(p, v)]) ∧ ∀ base : Heap, K.In base → base.Ns mainGlobals mg → (∀ p ∈ cs, LamX.TabB base mg p.1 p.2) → FnOk l.prog w K mg base (L2.CX l.prog w) (k + 1) fa fd [p] (spLawT K cs) := by
  obtain ⟨f, fd, F, hm, hb⟩ := T
  rw [hfa] at hm
  cases hm
  refine ⟨fd, hb, fun base _ _ tb => (fnokC_of F hfa S (h base fun x hx c P h1 h2 => by
    obtain ⟨c', e, hc⟩ := hcs x hx P h2
    rw [h1] at e
    cases e
    exact tb _ hc)).imp fun vs H Q E ⟨a, ns, e, hq, hn, ht, q⟩ => ?_⟩
  obtain ⟨A, eA⟩ := hl ns hn
  subst e
  have no : ∀ b o, (if (∃ c, (c, b) ∈ cs) then none else H b) = some o → H b = some o := fun b o e => by
    split at e
    · cases e
    · exact e
  have rd : ∀ b xs, Rd H b (.lst xs) → Rd (fun b => if (∃ c, (c, b) ∈ cs) then none else H b) b (.lst xs) := fun b xs r => by
    have n : ¬ ∃ c, (c, b) ∈ cs := fun ⟨c, hc⟩ => by
      have z := ht _ hc
      rcases r with r | ⟨o, r⟩ <;> rw [show H b = _ from r] at z <;> cases z
    rcases r with r | ⟨o, r⟩
    · exact .inl ((if_neg n).trans r)
    · exact .inr ⟨o, (if_neg n).trans r⟩
  refine ⟨⟨fun b => if (∃ c, (c, b) ∈ cs) then none else H b, []⟩, [.scr ns], [], ⟨no, fun n a o h => by simp at h, .nil, rfl, fun n a o h => by simp at h, fun x hx P hP => ?_⟩, Reps.one ⟨a, rfl, hq.elim (fun z => .inl (rd _ _ z)) .inr⟩, ?_⟩
  · obtain ⟨c, _, hc⟩ := hcs x hx P hP
    exact ⟨⟨#[], ht _ hc, True.intro, fun p cv z => by
      have z' : codeAmong p [] = some cv := z
      simp [codeAmong] at z'⟩, by simp, if_pos ⟨c, hc⟩⟩
  · show Post K mg (Rep K) _ H E Q (mFun 1 N.length m [.scr ns] [])
    rw [eA]
    exact fun W' H' b _ _ r => by
      rw [show b = V.bl true from r]
      exact q H'
end Tg

set_option Elab.async false
set_option linter.all false
set_option maxRecDepth 100000
set_option maxHeartbeats 2000000
/-! TgEval: simp rules that run mirrors. -/
namespace Tg
open PySem L2
theorem ofString_inj {a b : String} : Str.ofString a = Str.ofString b ↔ a = b := by
  constructor
  · intro h
    rw [Str.ofString_eq_toList, Str.ofString_eq_toList] at h
    have h2 : (a.toList.map Char.toNat) = (b.toList.map Char.toNat) := by
      have := congrArg (fun s => s.cps.toList) h
      simpa using this
    have h3 : a.toList = b.toList := List.map_inj_right (fun x y e => Char.ext (UInt32.toNat_inj.mp e)) |>.mp h2
    exact String.toList_inj.mp h3
  · intro h
    rw [h]

def RS.nxt (r : RS) (n : MS) : RS := match r with
  | .nx s1 A1 => n s1 A1
  | r => r
@[simp] theorem RS.nxt_nx (s : Sl) (A : AH) (n : MS) : (RS.nx s A).nxt n = n s A := rfl
@[simp] theorem RS.nxt_rt (d : D) (A : AH) (n : MS) : (RS.rt d A).nxt n = .rt d A := rfl
@[simp] theorem RS.nxt_exc (x : XV) (s : Sl) (A : AH) (n : MS) : (RS.exc x s A).nxt n = .exc x s A := rfl
@[simp] theorem RS.nxt_bk (s : Sl) (A : AH) (n : MS) : (RS.bk s A).nxt n = .bk s A := rfl
@[simp] theorem RS.nxt_ct (s : Sl) (A : AH) (n : MS) : (RS.ct s A).nxt n = .ct s A := rfl
@[simp] theorem RS.nxt_bad (n : MS) : RS.bad.nxt n = .bad := rfl
def kB2 (f : D → D → AH → R D) (x : D) (r : R D) : R D := r.bind fun y A => f x y A
@[simp] theorem kB2_0 (f : D → D → AH → R D) (x : D) (y : D) (A : AH) : kB2 f x (.ok y A) = f x y A := rfl
def kB1 (f : D → D → AH → R D) (b : ME) (s : Sl) (r : R D) : R D := r.bind fun x A => kB2 f x (b s A)
@[simp] theorem kB1_0 (f : D → D → AH → R D) (b : ME) (s : Sl) (x : D) (A : AH) : kB1 f b s (.ok x A) = kB2 f x (b s A) := rfl
@[simp] theorem e_bin {f : D → D → AH → R D} {a b : ME} {s : Sl} {A : AH} : mBin f a b s A = kB1 f b s (a s A) := rfl
def kU (f : D → AH → R D) (r : R D) : R D := r.bind fun x A => f x A
@[simp] theorem kU_0 (f : D → AH → R D) (x : D) (A : AH) : kU f (.ok x A) = f x A := rfl
@[simp] theorem e_un {f : D → AH → R D} {a : ME} {s : Sl} {A : AH} : mUn f a s A = kU f (a s A) := rfl
def kC2 (x : D) (r : R (List D)) : R (List D) := r.bind fun xs A => .ok (x :: xs) A
@[simp] theorem kC2_0 (x : D) (xs : List D) (A : AH) : kC2 x (.ok xs A) = .ok (x :: xs) A := rfl
def kC1 (ma : MA) (s : Sl) (r : R D) : R (List D) := r.bind fun x A => kC2 x (ma s A)
@[simp] theorem kC1_0 (ma : MA) (s : Sl) (x : D) (A : AH) : kC1 ma s (.ok x A) = kC2 x (ma s A) := rfl
@[simp] theorem e_nil  {s : Sl} {A : AH} : mNil s A = .ok [] A := rfl
@[simp] theorem e_cons {a : ME} {ma : MA} {s : Sl} {A : AH} : mCons a ma s A = kC1 ma s (a s A) := rfl
def kT  (r : R D) : R Bool := r.bind toB
@[simp] theorem kT_0  (b : Bool) (A : AH) : kT (.ok (.bl b) A) = .ok b A := rfl
@[simp] theorem e_tb {a : ME} {s : Sl} {A : AH} : mTb a s A = kT (a s A) := rfl
def kI (a b : ME) (s : Sl) (r : R Bool) : R D := r.bind fun k A => if k then a s A else b s A
@[simp] theorem kI_0 (a b : ME) (s : Sl) (A : AH) : kI a b s (.ok true A) = a s A := rfl
@[simp] theorem kI_1 (a b : ME) (s : Sl) (A : AH) : kI a b s (.ok false A) = b s A := rfl
@[simp] theorem e_if {t : MT} {a b : ME} {s : Sl} {A : AH} : mIf t a b s A = kI a b s (t s A) := rfl
def kAnd (u : MT) (s : Sl) (r : R Bool) : R Bool := r.bind fun k A => if k then u s A else .ok false A
@[simp] theorem kAnd_0 (u : MT) (s : Sl) (A : AH) : kAnd u s (.ok true A) = u s A := rfl
@[simp] theorem kAnd_1 (u : MT) (s : Sl) (A : AH) : kAnd u s (.ok false A) = .ok false A := rfl
@[simp] theorem e_and {t u : MT} {s : Sl} {A : AH} : mAnd t u s A = kAnd u s (t s A) := rfl
def kOr (u : MT) (s : Sl) (r : R Bool) : R Bool := r.bind fun k A => if k then .ok true A else u s A
@[simp] theorem kOr_0 (u : MT) (s : Sl) (A : AH) : kOr u s (.ok true A) = .ok true A := rfl
@[simp] theorem kOr_1 (u : MT) (s : Sl) (A : AH) : kOr u s (.ok false A) = u s A := rfl
@[simp] theorem e_or {t u : MT} {s : Sl} {A : AH} : mOr t u s A = kOr u s (t s A) := rfl
def kN  (r : R Bool) : R Bool := r.bind fun k A => .ok (!k) A
@[simp] theorem kN_0  (b : Bool) (A : AH) : kN (.ok b A) = .ok (!b) A := rfl
@[simp] theorem e_not {t : MT} {s : Sl} {A : AH} : mNot t s A = kN (t s A) := rfl
def kCh3 (g : D → D → AH → R D) (y : D) (c : ME) (s : Sl) (r : R D) : R D := r.bind fun z A => (toB z A).bind fun k A4 => if k then (c s A4).bind fun w A5 => g y w A5 else .ok (.bl false) A4
@[simp] theorem kCh3_0 (g : D → D → AH → R D) (y : D) (c : ME) (s : Sl) (A : AH) : kCh3 g y c s (.ok (.bl true) A) = kB2 g y (c s A) := rfl
@[simp] theorem kCh3_1 (g : D → D → AH → R D) (y : D) (c : ME) (s : Sl) (A : AH) : kCh3 g y c s (.ok (.bl false) A) = .ok (.bl false) A := rfl
def kCh2 (f g : D → D → AH → R D) (x : D) (c : ME) (s : Sl) (r : R D) : R D := r.bind fun y A => kCh3 g y c s (f x y A)
@[simp] theorem kCh2_0 (f g : D → D → AH → R D) (x : D) (c : ME) (s : Sl) (y : D) (A : AH) : kCh2 f g x c s (.ok y A) = kCh3 g y c s (f x y A) := rfl
def kCh1 (f g : D → D → AH → R D) (b c : ME) (s : Sl) (r : R D) : R D := r.bind fun x A => kCh2 f g x c s (b s A)
@[simp] theorem kCh1_0 (f g : D → D → AH → R D) (b c : ME) (s : Sl) (x : D) (A : AH) : kCh1 f g b c s (.ok x A) = kCh2 f g x c s (b s A) := rfl
@[simp] theorem e_chain {f g : D → D → AH → R D} {a b c : ME} {s : Sl} {A : AH} : mChain f g a b c s A = kCh1 f g b c s (a s A) := rfl
def kAV (b : ME) (s : Sl) (r : R D) : R D := r.bind fun x A => (toB x A).bind fun k A2 => if k then b s A2 else .ok (.bl false) A2
@[simp] theorem kAV_0 (b : ME) (s : Sl) (A : AH) : kAV b s (.ok (.bl true) A) = b s A := rfl
@[simp] theorem kAV_1 (b : ME) (s : Sl) (A : AH) : kAV b s (.ok (.bl false) A) = .ok (.bl false) A := rfl
@[simp] theorem e_andV {a b : ME} {s : Sl} {A : AH} : mAndV a b s A = kAV b s (a s A) := rfl
def kOV (b : ME) (s : Sl) (r : R D) : R D := r.bind fun x A => (toB x A).bind fun k A2 => if k then .ok (.bl true) A2 else b s A2
@[simp] theorem kOV_0 (b : ME) (s : Sl) (A : AH) : kOV b s (.ok (.bl true) A) = .ok (.bl true) A := rfl
@[simp] theorem kOV_1 (b : ME) (s : Sl) (A : AH) : kOV b s (.ok (.bl false) A) = b s A := rfl
@[simp] theorem e_orV {a b : ME} {s : Sl} {A : AH} : mOrV a b s A = kOV b s (a s A) := rfl
def kNV  (r : R D) : R D := r.bind fun x A => (toB x A).bind fun k A2 => .ok (.bl (!k)) A2
@[simp] theorem kNV_0  (b : Bool) (A : AH) : kNV (.ok (.bl b) A) = .ok (.bl (!b)) A := rfl
@[simp] theorem e_notV {a : ME} {s : Sl} {A : AH} : mNotV a s A = kNV (a s A) := rfl
def kTup  (r : R (List D)) : R D := r.bind fun ds A1 => if ds.length ≤ 16777216 then .ok (.tup ds) A1 else .bad
@[simp] theorem kTup_0  (ds : List D) (A : AH) : kTup (.ok ds A) = if ds.length ≤ 16777216 then .ok (.tup ds) A else .bad := rfl
@[simp] theorem e_tup {ma : MA} {s : Sl} {A : AH} : mTup ma s A = kTup (ma s A) := rfl
def kLst  (r : R (List D)) : R D := r.bind fun ds A1 => if ds.length ≤ 16777216 then .ok (.lst ds) A1 else .bad
@[simp] theorem kLst_0  (ds : List D) (A : AH) : kLst (.ok ds A) = if ds.length ≤ 16777216 then .ok (.lst ds) A else .bad := rfl
@[simp] theorem e_lst {ma : MA} {s : Sl} {A : AH} : mLst ma s A = kLst (ma s A) := rfl
def kLstN  (r : R (List D)) : R D := r.bind fun ds A1 => if ds.length ≤ 16777216 then .ok (.ref A1.length) (A1 ++ [.lst ds]) else .bad
@[simp] theorem kLstN_0  (ds : List D) (A : AH) : kLstN (.ok ds A) = if ds.length ≤ 16777216 then .ok (.ref A.length) (A ++ [.lst ds]) else .bad := rfl
@[simp] theorem e_lstN {ma : MA} {s : Sl} {A : AH} : mLstN ma s A = kLstN (ma s A) := rfl
def kP  (r : R D) : R (Option Int) := r.bind fun x A1 => match x with
  | .int i => .ok (some i) A1
  | _ => .bad
@[simp] theorem kP_0  (i : Int) (A : AH) : kP (.ok (.int i) A) = .ok (some i) A := rfl
@[simp] theorem e_part {a : ME} {s : Sl} {A : AH} : mPart a s A = kP (a s A) := rfl
@[simp] theorem e_nopart  {s : Sl} {A : AH} : mNoPart s A = .ok none A := rfl
def kS3 (x : D) (l : Option Int) (r : R (Option Int)) : R D := r.bind fun u A => slD x l u A
@[simp] theorem kS3_0 (x : D) (l : Option Int) (u : Option Int) (A : AH) : kS3 x l (.ok u A) = slD x l u A := rfl
def kS2 (x : D) (hi : Sl → AH → R (Option Int)) (s : Sl) (r : R (Option Int)) : R D := r.bind fun l A => kS3 x l (hi s A)
@[simp] theorem kS2_0 (x : D) (hi : Sl → AH → R (Option Int)) (s : Sl) (l : Option Int) (A : AH) : kS2 x hi s (.ok l A) = kS3 x l (hi s A) := rfl
def kS1 (lo hi : Sl → AH → R (Option Int)) (s : Sl) (r : R D) : R D := r.bind fun x A => kS2 x hi s (lo s A)
@[simp] theorem kS1_0 (lo hi : Sl → AH → R (Option Int)) (s : Sl) (x : D) (A : AH) : kS1 lo hi s (.ok x A) = kS2 x hi s (lo s A) := rfl
@[simp] theorem e_sl {a : ME} {lo hi : Sl → AH → R (Option Int)} {s : Sl} {A : AH} : mSl a lo hi s A = kS1 lo hi s (a s A) := rfl
def kF (cs : List Str) (f : Str) (r : R D) : R D := r.bind fun x A => fldD cs f x A
@[simp] theorem kF_0 (cs : List Str) (f : Str) (x : D) (A : AH) : kF cs f (.ok x A) = fldD cs f x A := rfl
@[simp] theorem e_fld {cs : List Str} {f : Str} {a : ME} {s : Sl} {A : AH} : mFld cs f a s A = kF cs f (a s A) := rfl
def kCall (g : List D → AH → R D) (r : R (List D)) : R D := r.bind fun ds A => g ds A
@[simp] theorem kCall_0 (g : List D → AH → R D) (ds : List D) (A : AH) : kCall g (.ok ds A) = g ds A := rfl
@[simp] theorem e_call {g : List D → AH → R D} {ma : MA} {s : Sl} {A : AH} : mCall g ma s A = kCall g (ma s A) := rfl
def kM2 (f : D → List D → AH → R D) (x : D) (r : R (List D)) : R D := r.bind fun ds A => f x ds A
@[simp] theorem kM2_0 (f : D → List D → AH → R D) (x : D) (ds : List D) (A : AH) : kM2 f x (.ok ds A) = f x ds A := rfl
def kM1 (T : String) (f : D → List D → AH → R D) (ma : MA) (s : Sl) (r : R D) : R D := r.bind fun x A1 => if tyMD A1 T x then kM2 f x (ma s A1) else .bad
@[simp] theorem kM1_0 (T : String) (f : D → List D → AH → R D) (ma : MA) (s : Sl) (x : D) (A : AH) : kM1 T f ma s (.ok x A) = if tyMD A T x then kM2 f x (ma s A) else .bad := rfl
@[simp] theorem e_mt {T : String} {f : D → List D → AH → R D} {a : ME} {ma : MA} {s : Sl} {A : AH} : mMt T f a ma s A = kM1 T f ma s (a s A) := rfl
def kMe3 (g : List D → AH → R D) (n : Nat) (r : R (List D)) : R D := r.bind fun ds A => g (.ref n :: ds) A
@[simp] theorem kMe3_0 (g : List D → AH → R D) (n : Nat) (ds : List D) (A : AH) : kMe3 g n (.ok ds A) = g (.ref n :: ds) A := rfl
def kMe2 (c m : Str) (g : List D → AH → R D) (ma : MA) (s : Sl) (n : Nat) (A : AH) (o : Option AO) : R D := match o with
  | some (.ins c' fs) => if c' = c ∧ fs.lookup m = none then kMe3 g n (ma s A) else .bad
  | _ => .bad
@[simp] theorem kMe2_0 (c m : Str) (g : List D → AH → R D) (ma : MA) (s : Sl) (n : Nat) (A : AH) (c' : Str) (fs : List (Str × D)) : kMe2 c m g ma s n A (some (.ins c' fs)) = if c' = c ∧ fs.lookup m = none then kMe3 g n (ma s A) else .bad := rfl
def kMe1 (c m : Str) (g : List D → AH → R D) (ma : MA) (s : Sl) (r : R D) : R D := r.bind fun x A => match x with
  | .ref n => kMe2 c m g ma s n A A[n]?
  | _ => .bad
@[simp] theorem kMe1_0 (c m : Str) (g : List D → AH → R D) (ma : MA) (s : Sl) (n : Nat) (A : AH) : kMe1 c m g ma s (.ok (.ref n) A) = kMe2 c m g ma s n A A[n]? := rfl
@[simp] theorem e_meth {c m : Str} {g : List D → AH → R D} {mo : ME} {ma : MA} {s : Sl} {A : AH} : mMeth c m g mo ma s A = kMe1 c m g ma s (mo s A) := rfl
def kMk2 (n : Nat) (r : R D) : R D := r.bind fun r A2 => match r with
  | .non => .ok (.ref n) A2
  | _ => .bad
@[simp] theorem kMk2_0 (n : Nat) (A : AH) : kMk2 n (.ok .non A) = .ok (.ref n) A := rfl
def kMk1 (c : Str) (g : List D → AH → R D) (r : R (List D)) : R D := r.bind fun ds A1 => kMk2 A1.length (g (.ref A1.length :: ds) (A1 ++ [.ins c []]))
@[simp] theorem kMk1_0 (c : Str) (g : List D → AH → R D) (ds : List D) (A : AH) : kMk1 c g (.ok ds A) = kMk2 A.length (g (.ref A.length :: ds) (A ++ [.ins c []])) := rfl
@[simp] theorem e_make {c : Str} {g : List D → AH → R D} {ma : MA} {s : Sl} {A : AH} : mMake c g ma s A = kMk1 c g (ma s A) := rfl
def kPC3 (x y : D) (r : R (List (D × D))) : R (List (D × D)) := r.bind fun ps A => .ok ((x, y) :: ps) A
@[simp] theorem kPC3_0 (x y : D) (ps : List (D × D)) (A : AH) : kPC3 x y (.ok ps A) = .ok ((x, y) :: ps) A := rfl
def kPC2 (x : D) (p : MP) (s : Sl) (r : R D) : R (List (D × D)) := r.bind fun y A => kPC3 x y (p s A)
@[simp] theorem kPC2_0 (x : D) (p : MP) (s : Sl) (y : D) (A : AH) : kPC2 x p s (.ok y A) = kPC3 x y (p s A) := rfl
def kPC1 (b : ME) (p : MP) (s : Sl) (r : R D) : R (List (D × D)) := r.bind fun x A => kPC2 x p s (b s A)
@[simp] theorem kPC1_0 (b : ME) (p : MP) (s : Sl) (x : D) (A : AH) : kPC1 b p s (.ok x A) = kPC2 x p s (b s A) := rfl
@[simp] theorem e_pnil  {s : Sl} {A : AH} : mPNil s A = .ok [] A := rfl
@[simp] theorem e_pcons {a b : ME} {p : MP} {s : Sl} {A : AH} : mPCons a b p s A = kPC1 b p s (a s A) := rfl
def kD  (r : R (List (D × D))) : R D := r.bind fun ps A1 => match keysD ps with
  | some kvs => if kvs.length ≤ 15 then .ok (.dct ((mergeD [] kvs).map (·.1)) ((mergeD [] kvs).map (·.2))) A1 else .bad
  | none => .bad
@[simp] theorem kD_0  (ps : List (D × D)) (A : AH) : kD (.ok ps A) = match keysD ps with
  | some kvs => if kvs.length ≤ 15 then .ok (.dct ((mergeD [] kvs).map (·.1)) ((mergeD [] kvs).map (·.2))) A else .bad
  | none => .bad := rfl
def kDN  (r : R (List (D × D))) : R D := r.bind fun ps A1 => match keysD ps with
  | some kvs => if kvs.length ≤ 15 then .ok (.ref A1.length) (A1 ++ [.dct (mergeD [] kvs)]) else .bad
  | none => .bad
@[simp] theorem kDN_0  (ps : List (D × D)) (A : AH) : kDN (.ok ps A) = match keysD ps with
  | some kvs => if kvs.length ≤ 15 then .ok (.ref A.length) (A ++ [.dct (mergeD [] kvs)]) else .bad
  | none => .bad := rfl
@[simp] theorem e_dct {p : MP} {s : Sl} {A : AH} : mDct p s A = kD (p s A) := rfl
@[simp] theorem e_dctN {p : MP} {s : Sl} {A : AH} : mDctN p s A = kDN (p s A) := rfl
def kG12 (x : D) (r : R D) : R D := r.bind fun d A => getD1 x d A
@[simp] theorem kG12_0 (x : D) (d : D) (A : AH) : kG12 x (.ok d A) = getD1 x d A := rfl
def kG11 (y : ME) (s : Sl) (r : R D) : R D := r.bind fun x A => if (dctD A x).isSome then kG12 x (y s A) else .bad
@[simp] theorem kG11_0 (y : ME) (s : Sl) (x : D) (A : AH) : kG11 y s (.ok x A) = if (dctD A x).isSome then kG12 x (y s A) else .bad := rfl
@[simp] theorem e_get1 {o y : ME} {s : Sl} {A : AH} : mGet1 o y s A = kG11 y s (o s A) := rfl
def kG23 (x d : D) (r : R D) : R D := r.bind fun e A => getD2 x d e A
@[simp] theorem kG23_0 (x d : D) (e : D) (A : AH) : kG23 x d (.ok e A) = getD2 x d e A := rfl
def kG22 (x : D) (z : ME) (s : Sl) (r : R D) : R D := r.bind fun d A => kG23 x d (z s A)
@[simp] theorem kG22_0 (x : D) (z : ME) (s : Sl) (d : D) (A : AH) : kG22 x z s (.ok d A) = kG23 x d (z s A) := rfl
def kG21 (y z : ME) (s : Sl) (r : R D) : R D := r.bind fun x A => if (dctD A x).isSome then kG22 x z s (y s A) else .bad
@[simp] theorem kG21_0 (y z : ME) (s : Sl) (x : D) (A : AH) : kG21 y z s (.ok x A) = if (dctD A x).isSome then kG22 x z s (y s A) else .bad := rfl
@[simp] theorem e_get2 {o y z : ME} {s : Sl} {A : AH} : mGet2 o y z s A = kG21 y z s (o s A) := rfl
@[simp] theorem e_nx  {s : Sl} {A : AH} : mNx s A = .nx s A := rfl
@[simp] theorem e_seq {m n : MS} {s : Sl} {A : AH} : mSeq m n s A = (m s A).nxt n := rfl
def kDrop (s : Sl) (r : R D) : RS := r.thenS s fun _ A1 => .nx s A1
@[simp] theorem kDrop_0 (s : Sl) (x : D) (A : AH) : kDrop s (.ok x A) = .nx s A := rfl
@[simp] theorem e_drop {a : ME} {s : Sl} {A : AH} : mDrop a s A = kDrop s (a s A) := rfl
def kRet (s : Sl) (r : R D) : RS := r.thenS s fun d A1 => .rt d A1
@[simp] theorem kRet_0 (s : Sl) (x : D) (A : AH) : kRet s (.ok x A) = .rt x A := rfl
@[simp] theorem e_ret {a : ME} {s : Sl} {A : AH} : mRet a s A = kRet s (a s A) := rfl
@[simp] theorem e_retN  {s : Sl} {A : AH} : mRetN s A = .rt .non A := rfl
def kIf (m n : MS) (s : Sl) (r : R Bool) : RS := r.thenS s fun k A1 => if k then m s A1 else n s A1
@[simp] theorem kIf_0 (m n : MS) (s : Sl) (A : AH) : kIf m n s (.ok true A) = m s A := rfl
@[simp] theorem kIf_1 (m n : MS) (s : Sl) (A : AH) : kIf m n s (.ok false A) = n s A := rfl
@[simp] theorem e_ifS {t : MT} {m n : MS} {s : Sl} {A : AH} : mIfS t m n s A = kIf m n s (t s A) := rfl
def kAsg (i : Nat) (s : Sl) (r : R D) : RS := r.thenS s fun d A1 => .nx (s.set i (some d)) A1
@[simp] theorem kAsg_0 (i : Nat) (s : Sl) (x : D) (A : AH) : kAsg i s (.ok x A) = .nx (s.set i (some x)) A := rfl
@[simp] theorem e_asgN {a : ME} {i : Nat} {s : Sl} {A : AH} : mAsg a (gmN i) s A = kAsg i s (a s A) := rfl
def kPar (is : List Nat) (s : Sl) (r : R (List D)) : RS := r.thenS s fun ds A1 => match is, ds with
  | [i, j], [d, e] => .nx ((s.set i (some d)).set j (some e)) A1
  | [i, j, l], [d, e, f] => .nx (((s.set i (some d)).set j (some e)).set l (some f)) A1
  | _, _ => .bad
@[simp] theorem kPar_2 (i j : Nat) (s : Sl) (d e : D) (A : AH) : kPar [i, j] s (.ok [d, e] A) = .nx ((s.set i (some d)).set j (some e)) A := rfl
@[simp] theorem kPar_3 (i j l : Nat) (s : Sl) (d e f : D) (A : AH) : kPar [i, j, l] s (.ok [d, e, f] A) = .nx (((s.set i (some d)).set j (some e)).set l (some f)) A := rfl
@[simp] theorem e_par {is : List Nat} {ma : MA} {s : Sl} {A : AH} : mPar is ma s A = kPar is s (ma s A) := rfl
def kSub4 (s : Sl) (o : Option AH) : RS := match o with
  | some A => .nx s A
  | none => .bad
@[simp] theorem kSub4_0 (s : Sl) (A : AH) : kSub4 s (some A) = .nx s A := rfl
def kSub3 (x d : D) (s : Sl) (r : R D) : RS := r.thenS s fun y A => kSub4 s (stSub x y d A)
@[simp] theorem kSub3_0 (x d : D) (s : Sl) (y : D) (A : AH) : kSub3 x d s (.ok y A) = kSub4 s (stSub x y d A) := rfl
def kSub2 (b : ME) (d : D) (s : Sl) (r : R D) : RS := r.thenS s fun x A => kSub3 x d s (b s A)
@[simp] theorem kSub2_0 (b : ME) (d : D) (s : Sl) (x : D) (A : AH) : kSub2 b d s (.ok x A) = kSub3 x d s (b s A) := rfl
def kSub1 (a b : ME) (s : Sl) (r : R D) : RS := r.thenS s fun d A => kSub2 b d s (a s A)
@[simp] theorem kSub1_0 (a b : ME) (s : Sl) (d : D) (A : AH) : kSub1 a b s (.ok d A) = kSub2 b d s (a s A) := rfl
@[simp] theorem e_sub {a b c : ME} {s : Sl} {A : AH} : mSubS a b c s A = kSub1 a b s (c s A) := rfl
def kFS2 (cs : List Str) (f : Str) (d : D) (s : Sl) (r : R D) : RS := r.thenS s fun x A => kSub4 s (stFld cs f x d A)
@[simp] theorem kFS2_0 (cs : List Str) (f : Str) (d : D) (s : Sl) (x : D) (A : AH) : kFS2 cs f d s (.ok x A) = kSub4 s (stFld cs f x d A) := rfl
def kFS1 (cs : List Str) (f : Str) (a : ME) (s : Sl) (r : R D) : RS := r.thenS s fun d A => kFS2 cs f d s (a s A)
@[simp] theorem kFS1_0 (cs : List Str) (f : Str) (a : ME) (s : Sl) (d : D) (A : AH) : kFS1 cs f a s (.ok d A) = kFS2 cs f d s (a s A) := rfl
@[simp] theorem e_fldS {cs : List Str} {f : Str} {a b : ME} {s : Sl} {A : AH} : mFldS cs f a b s A = kFS1 cs f a s (b s A) := rfl
@[simp] theorem e_ct  {s : Sl} {A : AH} : mCt s A = .ct s A := rfl
@[simp] theorem e_bk  {s : Sl} {A : AH} : mBk s A = .bk s A := rfl
section
variable {s : Sl} {A A1 : AH} {d x y : D} {ds : List D} {i : Nat}
@[simp] theorem e_mv0 {r : Sl} : mv 0 (some d :: r) A = .ok d A := rfl
@[simp] theorem e_mvS {o : Option D} {r : Sl} : mv (i + 1) (o :: r) A = mv i r A := rfl
@[simp] theorem e_mc : mc d s A = .ok d A := rfl
@[simp] theorem e_yes : mYes s A = .ok true A := rfl
@[simp] theorem e_toB {b : Bool} : toB (.bl b) A = .ok b A := rfl
@[simp] theorem finS_rt : finS (.rt d A) = .ok d A := rfl
@[simp] theorem finS_nx : finS (.nx s A) = .ok .non A := rfl
/-! operations -/
@[simp] theorem o_add {i j : Int} : addD (.int i) (.int j) A = .ok (.int (i + j)) A := rfl
@[simp] theorem o_sub {i j : Int} : subD (.int i) (.int j) A = .ok (.int (i - j)) A := rfl
@[simp] theorem o_neg {i : Int} : negD (.int i) A = .ok (.int (-i)) A := rfl
@[simp] theorem o_lt {i j : Int} : ltD (.int i) (.int j) A = .ok (.bl (decide (i < j))) A := rfl
@[simp] theorem o_le {i j : Int} : leD (.int i) (.int j) A = .ok (.bl (decide (i ≤ j))) A := rfl
@[simp] theorem o_gt {i j : Int} : gtD (.int i) (.int j) A = .ok (.bl (decide (j < i))) A := rfl
@[simp] theorem o_ge {i j : Int} : geD (.int i) (.int j) A = .ok (.bl (decide (j ≤ i))) A := rfl
theorem o_mod {i j : Int} (h : 0 < j) : modD (.int i) (.int j) A = .ok (.int (i % j)) A := if_pos h
theorem o_fdiv {i j : Int} (h : 0 < j) (h2 : j < 1073741824) : fdivD (.int i) (.int j) A = .ok (.int (i / j)) A := if_pos ⟨h, h2⟩
theorem o_mulR {i j : Int} (h : -(2 ^ 64) < j) (h2 : j < 2 ^ 64) : mulD (.int i) (.int j) A = .ok (.int (i * j)) A := if_pos (.inr ⟨h, h2⟩)
@[simp] theorem o_eqI {i j : Int} : eqD (.int i) (.int j) A = .ok (.bl (i == j)) A := rfl
@[simp] theorem o_eqS {i j : Str} : eqD (.str i) (.str j) A = .ok (.bl (i == j)) A := rfl
@[simp] theorem o_neI {i j : Int} : neD (.int i) (.int j) A = .ok (.bl (!(i == j))) A := rfl
@[simp] theorem o_neS {i j : Str} : neD (.str i) (.str j) A = .ok (.bl (!(i == j))) A := rfl
@[simp] theorem o_is : isD d .non A = .ok (.bl (isNon d)) A := rfl
@[simp] theorem o_isnt : isntD d .non A = .ok (.bl (!isNon d)) A := rfl
/-- subscripts by kind -/
theorem ix_tup {i : Int} (h : atI ds i = some d) : ixD (.tup ds) (.int i) A = .ok d A := by
  unfold ixD
  simp only [dctD, itemsD, h]
theorem ix_lst {i : Int} (h : atI ds i = some d) : ixD (.lst ds) (.int i) A = .ok d A := by
  unfold ixD
  simp only [dctD, itemsD, seqL, h]
theorem ix_ref {n : Nat} {i : Int} (hA : A[n]? = some (.lst ds)) (h : atI ds i = some d) : ixD (.ref n) (.int i) A = .ok d A := by
  unfold ixD
  simp only [dctD, itemsD, seqL, hA, h]
theorem atI_ok {α : Type} {xs : List α} {i : Nat} {v : α} (h : xs[i]? = some v) : atI xs (i : Int) = some v := by
  have hi := (List.getElem?_eq_some_iff.mp h).1
  unfold atI ixN
  rw [if_pos (by omega), if_pos (by omega)]
  simpa using h
theorem len_lst {n : Nat} (hA : A[n]? = some (.lst ds)) : lenD [.ref n] A = .ok (.int ds.length) A := by
  simp only [lenD, dctD, itemsD, seqL, hA]
@[simp] theorem len_scr {ns : List Int} : lenD [.scr ns] A = .ok (.int ns.length) A := by
  simp only [lenD, dctD, itemsD, seqL, List.length_map]
@[simp] theorem len_tup : lenD [.tup ds] A = .ok (.int ds.length) A := rfl
@[simp] theorem len_frz : lenD [.lst ds] A = .ok (.int ds.length) A := rfl
end
end Tg

set_option Elab.async false
set_option linter.all false
set_option maxRecDepth 100000
set_option maxHeartbeats 2000000
/-! TgTaken: the laws' own drawing. -/
namespace Tg
open PySem L2
section
variable {A : AH} {n : Nat} {d x : D} {i : Int} {ds : List D} {α : Type} {xs : List α} {p q r s : α}
theorem ix_int : ixD (.ref n) (.int i) A = match A[n]? with
  | some (.lst ds) => (match atI ds i with
    | some d => .ok d A
    | none => .bad)
  | some (.dct kvs) => (match lkK kvs (.inl i) with
    | some d => .ok d A
    | none => .bad)
  | _ => .bad := by
  unfold ixD
  simp only [dctD, itemsD, seqL, keyD, Option.bind]
  cases A[n]? with
  | none => rfl
  | some o => cases o <;> rfl
@[simp] theorem ix_frz : ixD (.lst ds) (.int i) A = match atI ds i with
  | some d => .ok d A
  | none => .bad := rfl
@[simp] theorem ix_tupU : ixD (.tup ds) (.int i) A = match atI ds i with
  | some d => .ok d A
  | none => .bad := rfl
@[simp] theorem ix_scrU {ns : List Int} : ixD (.scr ns) (.int i) A = match atI (ns.map D.int) i with
  | some d => .ok d A
  | none => .bad := rfl
theorem st_int : stSub (.ref n) (.int i) d A = match A[n]? with
  | some (.lst ds) => (match ixN ds.length i with
    | some j => some (A.set n (.lst (ds.set j d)))
    | none => none)
  | some (.dct kvs) => if kvs.length < 16777216 then some (A.set n (.dct (ptK kvs (.inl i) d))) else none
  | _ => none := by
  unfold stSub
  dsimp only [keyD]
  all_goals
    generalize A[n]? = w
    cases w with
    | none => rfl
    | some o => cases o <;> rfl
theorem len_ref : lenD [.ref n] A = match A[n]? with
  | some (.lst ds) => .ok (.int ds.length) A
  | some (.dct kvs) => .ok (.int kvs.length) A
  | _ => .bad := by
  simp only [lenD, dctD, itemsD, seqL]
  cases A[n]? with
  | none => rfl
  | some o => cases o <;> rfl
@[simp] theorem at0 : atI (p :: xs) 0 = some p := by
  unfold atI ixN
  simp
theorem atI_nat (j : Nat) : atI xs (j : Int) = xs[j]? := by
  unfold atI ixN
  rw [if_pos (by omega)]
  by_cases h : j < xs.length
  · rw [if_pos (by omega)]
    simp
  · rw [if_neg (by omega), List.getElem?_eq_none_iff.mpr (by omega)]
    rfl
@[simp] theorem at1 : atI (p :: q :: xs) 1 = some q := atI_nat 1
@[simp] theorem at2 : atI (p :: q :: r :: xs) 2 = some r := atI_nat 2
@[simp] theorem at3 : atI (p :: q :: r :: s :: xs) 3 = some s := atI_nat 3
theorem atI_pos (h : 0 ≤ i) : atI xs i = xs[i.toNat]? := by
  have := atI_nat (xs := xs) i.toNat
  rwa [Int.toNat_of_nonneg h] at this
end
def b_taken : MS :=
  (mSeq (mIfS (mTb (mBin gtD (mBin ixD (mv 0) (mc (.int (3)))) (mc (.int (0))))) (mSeq (mAsg (mBin modD (mBin ixD (mv 0) (mc (.int (3)))) (mv 1)) (gmN 2))
  (mSeq (mSubS (mv 0) (mc (.int (3))) (mBin fdivD (mBin ixD (mv 0) (mc (.int (3)))) (mv 1)))
  (mRet (mv 2)))) mNx)
  (mSeq (mSubS (mv 0) (mc (.int (1))) (mBin addD (mBin ixD (mv 0) (mc (.int (1)))) (mc (.int (1)))))
  (mSeq (mIfS (mTb (mBin gtD (mBin ixD (mv 0) (mc (.int (1)))) (mCall lenD (mCons (mBin ixD (mv 0) (mc (.int (0)))) mNil)))) (mSeq (mSubS (mv 0) (mc (.int (2))) (mBin modD (mBin addD (mBin mulD (mBin ixD (mv 0) (mc (.int (2)))) (mc (.int (48271)))) (mc (.int (11)))) (mc (.int (2147483647)))))
  (mRet (mBin modD (mBin fdivD (mBin ixD (mv 0) (mc (.int (2)))) (mc (.int (7)))) (mv 1)))) mNx)
  (mSeq (mAsg (mBin ixD (mBin ixD (mv 0) (mc (.int (0)))) (mBin subD (mBin ixD (mv 0) (mc (.int (1)))) (mc (.int (1))))) (gmN 3))
  (mSeq (mSubS (mv 0) (mc (.int (2))) (mBin modD (mBin addD (mBin addD (mBin mulD (mBin ixD (mv 0) (mc (.int (2)))) (mc (.int (48271)))) (mv 3)) (mc (.int (11)))) (mc (.int (2147483647)))))
  (mSeq (mIfS (mTb (mBin geD (mv 3) (mBin powD (mc (.int (10))) (mc (.int (18)))))) (mSubS (mv 0) (mc (.int (3))) (mBin fdivD (mv 3) (mv 1))) mNx)
  (mRet (mBin modD (mv 3) (mv 1)))))))))
def m_taken : List D → AH → R D := mFun 2 4 b_taken
def rowO (ns : List Int) (a b c : Int) : AO := .lst [.scr ns, .int a, .int b, .int c]
theorem taken_ok {A : AH} {r : Nat} {ns : List Int} {a b c many : Int} (hA : A[r]? = some (rowO ns a b c)) (ha : 0 ≤ a) (hm : 0 < many) (hm2 : many < 1073741824) :
    ∃ v a' b' c', m_taken [.ref r, .int many] A = .ok (.int v) (A.set r (rowO ns a' b' c')) ∧ 0 ≤ v ∧ v < many ∧ 0 ≤ a' := by
  have hr : r < A.length := (List.getElem?_eq_some_iff.mp hA).1
  have hA' : A[r]? = some (.lst [.scr ns, .int a, .int b, .int c]) := hA
  have vm : ∀ z : Int, 0 ≤ z % many ∧ z % many < many := fun z => ⟨Int.emod_nonneg _ (by omega), Int.emod_lt_of_pos _ hm⟩
  have p18 : powD (.int 10) (.int 18) = fun A => .ok (.int 1000000000000000000) A := by
    funext A
    unfold powD
    simp
  have e0 : m_taken [.ref r, .int many] A = finS (b_taken [some (.ref r), some (.int many), none, none] A) := rfl
  rw [e0]
  have hs : ∀ x, (A.set r x)[r]? = some x := fun x => List.getElem?_set_self hr
  by_cases h3 : 0 < c
  · refine ⟨c % many, a, b, c / many, ?_, (vm c).1, (vm c).2, ha⟩
    simp [b_taken, len_ref, ix_int, st_int, hA', h3, o_mod hm, o_fdiv hm hm2, ixN, rowO]
  · by_cases h1 : (ns.length : Int) < a + 1
    · refine ⟨(b * 48271 + 11) % 2147483647 / 7 % many, a + 1, (b * 48271 + 11) % 2147483647, c, ?_, (vm _).1, (vm _).2, by omega⟩
      simp [b_taken, len_ref, ix_int, st_int, hA', h3, o_mod hm, o_fdiv, o_mod, o_mulR, ixN, rowO, hs, h1]
    · have hx : ∃ z, ns[a.toNat]? = some z := ⟨_, List.getElem?_eq_getElem (by omega)⟩
      obtain ⟨z, hz⟩ := hx
      have hz2 : atI (ns.map D.int) a = some (.int z) := by
        rw [atI_pos ha, List.getElem?_map, hz]
        rfl
      by_cases h18 : 1000000000000000000 ≤ z
      · refine ⟨z % many, a + 1, (b * 48271 + z + 11) % 2147483647, z / many, ?_, (vm _).1, (vm _).2, by omega⟩
        simp [b_taken, len_ref, ix_int, st_int, hA', h3, o_mod hm, o_fdiv hm hm2, o_mod, o_mulR, ixN, rowO, hs, h1, hz2, p18, h18]
      · refine ⟨z % many, a + 1, (b * 48271 + z + 11) % 2147483647, c, ?_, (vm _).1, (vm _).2, by omega⟩
        simp [b_taken, len_ref, ix_int, st_int, hA', h3, o_mod hm, o_fdiv hm hm2, o_mod, o_mulR, ixN, rowO, hs, h1, hz2, p18, h18]
end Tg

set_option Elab.async false
set_option linter.all false
set_option maxRecDepth 100000
set_option maxHeartbeats 2000000
/-! TgRun: more simp rules that run mirrors: heaps told at their end, fields, methods, texts. -/
namespace Tg
open PySem L2
theorem ofS_ne {a b : String} (h : a ≠ b) : Str.ofString a ≠ Str.ofString b := fun e => h (ofString_inj.mp e)
@[simp] theorem ofS_eq {a b : String} : (Str.ofString a = Str.ofString b) = (a = b) := propext ofString_inj
@[simp] theorem ofS_beq {a b : String} : (Str.ofString a == Str.ofString b) = decide (a = b) := by
  by_cases h : a = b
  · subst h
    simp
  · rw [decide_eq_false h]
    exact beq_eq_false_iff_ne.mpr (ofS_ne h)
section
variable {A0 A l : AH} {k n : Nat} {x d : D} {o : AO} {ds es : List D} {s : Sl} {ma : MA} {a : ME} {c m f : Str} {g : List D → AH → R D}
@[simp] theorem h_get : (A0 ++ l)[A0.length + k]? = l[k]? := by
  rw [List.getElem?_append_right (Nat.le_add_right _ _), Nat.add_sub_cancel_left]
@[simp] theorem h_get0 : (A0 ++ l)[A0.length]? = l[0]? := by
  rw [List.getElem?_append_right (Nat.le_refl _), Nat.sub_self]
@[simp] theorem h_set : (A0 ++ l).set (A0.length + k) o = A0 ++ l.set k o := by
  rw [List.set_append_right _ _ (Nat.le_add_right _ _), Nat.add_sub_cancel_left]
@[simp] theorem h_set0 : (A0 ++ l).set A0.length o = A0 ++ l.set 0 o := by
  rw [List.set_append_right _ _ (Nat.le_refl _), Nat.sub_self]
theorem app_ref : appD (.ref n) [d] A = match A[n]? with
  | some (.lst es) => if es.length < 16777216 then .ok .non (A.set n (.lst (es ++ [d]))) else .bad
  | _ => .bad := rfl
@[simp] theorem ty_list : tyMD A "list" d = (seqL A d).isSome := rfl
@[simp] theorem ty_dict : tyMD A "dict" d = (dctD A d).isSome := rfl
theorem seq_ref : seqL A (.ref n) = match A[n]? with
  | some (.lst ds) => some ds
  | _ => none := rfl
theorem dct_ref : dctD A (.ref n) = match A[n]? with
  | some (.dct kvs) => some kvs
  | _ => none := rfl
theorem in_flat {z : D} (h1 : flatD z = true) (h2 : ds.all flatD = true) : inD z (.tup ds) A = .ok (.bl (ds.any fun y => feq y z)) A := by
  have : inB z (.tup ds) A = some (ds.any fun y => feq y z) := by
    cases z <;> first
      | (cases (show false = true from h1))
      | (simp only [inB, dctD, itemsD, h2, flatD, Bool.and_true, if_true])
  unfold inD
  rw [this]
theorem nin_flat {z : D} (h1 : flatD z = true) (h2 : ds.all flatD = true) : ninD z (.tup ds) A = .ok (.bl (!(ds.any fun y => feq y z))) A := by
  have : inB z (.tup ds) A = some (ds.any fun y => feq y z) := by
    cases z <;> first
      | (cases (show false = true from h1))
      | (simp only [inB, dctD, itemsD, h2, flatD, Bool.and_true, if_true])
  unfold ninD
  rw [this]
@[simp] theorem flat_str {z : Str} : flatD (.str z) = true := rfl
@[simp] theorem flat_int {i : Int} : flatD (.int i) = true := rfl
@[simp] theorem feq_str {y z : Str} : feq (.str y) (.str z) = (y == z) := rfl
@[simp] theorem feq_int {y z : Int} : feq (.int y) (.int z) = (y == z) := rfl
theorem in_str {z : Str} (h2 : ds.all flatD = true) : inD (.str z) (.tup ds) A = .ok (.bl (ds.any fun y => feq y (.str z))) A := in_flat rfl h2
theorem nin_str {z : Str} (h2 : ds.all flatD = true) : ninD (.str z) (.tup ds) A = .ok (.bl (!(ds.any fun y => feq y (.str z)))) A := nin_flat rfl h2
end
/-! ### loops -/
section
variable {c : MT} {b : MS} {g : MG} {tt : MT} {te : ME} {mi : Sl → AH → R IT} {vs : List Nat} {f : Nat} {s s2 : Sl} {A A1 A2 : AH} {ds : List D}
theorem mLc_of {fin : List D → AH → R D} {it : List D} (h0 : mi s A = .ok (.data it) A1) (hl : it.length < 16777216) : mLc mi g tt te vs fin s A = (lcL g tt te (wpD s vs) it A1).bind fin := by
  unfold mLc
  rw [h0]
  show (if it.length < 16777216 then (lcG g tt te (.data it) (wpD s vs) (it.length + 1) 0 A1).bind fin else .bad) = _
  rw [if_pos hl, lcG_data g tt te it (wpD s vs) _ _ _ (Nat.zero_add _), if_neg (Nat.succ_ne_zero _), List.drop_zero]
theorem lcL_pure {w : Sl} (p : D → Bool) (q : D → D) : ∀ {ds : List D}, (∀ d ∈ ds, ∃ s1, g d w = some s1 ∧ tt s1 A = .ok (p d) A ∧ (p d = true → te s1 A = .ok (q d) A)) → lcL g tt te w ds A = .ok ((ds.filter p).map q) A
  | [], _ => rfl
  | d :: ds, h => by
    obtain ⟨s1, h1, h2, h3⟩ := h d List.mem_cons_self
    have ih := lcL_pure (ds := ds) p q fun e he => h e (List.mem_cons_of_mem _ he)
    unfold lcL
    simp only [h1, h2, R.bindN_ok]
    cases hp : p d with
    | true =>
      simp only [if_true, h3 hp, R.bindN_ok, ih, R.bind_ok, List.filter_cons, hp, List.map_cons]
    | false =>
      simp [ih, List.filter_cons, hp]
theorem lc_pure (p : D → Bool) (q : D → D) (h0 : mi s A = .ok (.data ds) A) (hl : ds.length < 16777216) (h : ∀ d ∈ ds, ∃ s1, g d (wpD s vs) = some s1 ∧ tt s1 A = .ok (p d) A ∧ (p d = true → te s1 A = .ok (q d) A)) :
    mLc mi g tt te vs finF s A = .ok (.lst ((ds.filter p).map q)) A := by
  rw [mLc_of h0 hl, lcL_pure p q h]
  rfl
theorem lcL_gen {w : Sl} (I : AH → Prop) (P : D → Prop) : ∀ {ds : List D} {A : AH}, I A → (∀ d ∈ ds, ∀ A, I A → ∃ s1 v A2, g d w = some s1 ∧ tt s1 A = .ok true A ∧ te s1 A = .ok v A2 ∧ I A2 ∧ P v) →
    ∃ ys A', lcL g tt te w ds A = .ok ys A' ∧ I A' ∧ ys.length = ds.length ∧ ∀ y ∈ ys, P y
  | [], A, hI, _ => ⟨[], A, rfl, hI, rfl, fun _ h => nomatch h⟩
  | d :: ds, A, hI, h => by
    obtain ⟨s1, v, A2, h1, h2, h3, h4, h5⟩ := h d List.mem_cons_self A hI
    obtain ⟨ys, A', e1, e2, e3, e4⟩ := lcL_gen (ds := ds) I P h4 fun e he => h e (List.mem_cons_of_mem _ he)
    refine ⟨v :: ys, A', ?_, e2, by rw [List.length_cons, List.length_cons, e3], fun y hy => ?_⟩
    · unfold lcL
      simp only [h1, h2, R.bindN_ok, if_true, h3, e1, R.bind_ok]
    · rcases List.mem_cons.mp hy with rfl | hy
      · exact h5
      · exact e4 y hy
theorem lc_gen (I : AH → Prop) (P : D → Prop) (h0 : mi s A = .ok (.data ds) A1) (hl : ds.length < 16777216) (hI : I A1) (h : ∀ d ∈ ds, ∀ A, I A → ∃ s1 v A2, g d (wpD s vs) = some s1 ∧ tt s1 A = .ok true A ∧ te s1 A = .ok v A2 ∧ I A2 ∧ P v) :
    ∃ ys A', mLc mi g tt te vs finF s A = .ok (.lst ys) A' ∧ I A' ∧ ys.length = ds.length ∧ ∀ y ∈ ys, P y := by
  obtain ⟨ys, A', e1, e2⟩ := lcL_gen (w := wpD s vs) I P hI h
  refine ⟨ys, A', ?_, e2⟩
  rw [mLc_of h0 hl, e1]
  rfl
theorem forL_inv (I : Sl → AH → Prop) : ∀ {ds : List D} {s : Sl} {A : AH}, I s A → (∀ d ∈ ds, ∀ s A, I s A → ∃ s1 s2 A2, g d s = some s1 ∧ b s1 A = .nx s2 A2 ∧ I s2 A2) → ∃ s' A', forL g b ds s A = .nx s' A' ∧ I s' A'
  | [], s, A, hI, _ => ⟨s, A, rfl, hI⟩
  | d :: ds, s, A, hI, h => by
    obtain ⟨s1, s2, A2, h1, h2, h3⟩ := h d List.mem_cons_self s A hI
    obtain ⟨s', A', e1, e2⟩ := forL_inv (ds := ds) I h3 fun e he => h e (List.mem_cons_of_mem _ he)
    refine ⟨s', A', ?_, e2⟩
    unfold forL
    simp only [h1, h2, e1]
end
theorem rngX {ma : MA} {j : Int} {s : Sl} {A A1 : AH} (h : ma s A = .ok [.int j] A1) (h1 : -(2 ^ 62) ≤ j ∧ j < 2 ^ 62) : mRng1 ma s A = .ok (.data (rngL 0 1 j.toNat)) A1 := by
  unfold mRng1
  rw [h]
  simp only [R.bind_ok]
  rw [if_pos h1]
theorem rngY {j : Nat} : rngL 0 1 (j : Int).toNat = (List.range j).map fun i : Nat => D.int (i : Int) := by
  unfold rngL
  rw [Int.toNat_natCast]
  simp only [Int.mul_one, Int.zero_add]
theorem rngZ {j : Nat} (h : j < 16777216) : -(2 ^ 62) ≤ (j : Int) ∧ (j : Int) < 2 ^ 62 := ⟨by omega, by omega⟩
theorem rng1 {ma : MA} {j : Nat} {s : Sl} {A A1 : AH} (h : ma s A = .ok [.int (j : Int)] A1) (hj : j < 16777216) : mRng1 ma s A = .ok (.data ((List.range j).map fun i : Nat => D.int (i : Int))) A1 := by
  rw [← rngY]
  exact rngX h (rngZ hj)
/-! ### comprehensions by frames -/
def kFin (fin : List D → AH → R D) (r : R (List D)) : R D := r.bind fin
@[simp] theorem kFin_0 (fin : List D → AH → R D) (ds : List D) (A : AH) : kFin fin (.ok ds A) = fin ds A := rfl
def kL3 (y : D) (r : R (List D)) : R (List D) := r.bind fun ys A3 => .ok (y :: ys) A3
@[simp] theorem kL3_0 (y : D) (ys : List D) (A : AH) : kL3 y (.ok ys A) = .ok (y :: ys) A := rfl
def kL2 (g : MG) (tt : MT) (te : ME) (w : Sl) (ds : List D) (r : R D) : R (List D) := r.bindN fun y A2 => kL3 y (lcL g tt te w ds A2)
@[simp] theorem kL2_0 (g : MG) (tt : MT) (te : ME) (w : Sl) (ds : List D) (y : D) (A : AH) : kL2 g tt te w ds (.ok y A) = kL3 y (lcL g tt te w ds A) := rfl
def kL1 (g : MG) (tt : MT) (te : ME) (w : Sl) (ds : List D) (s1 : Sl) (r : R Bool) : R (List D) := r.bindN fun k A1 => if k then kL2 g tt te w ds (te s1 A1) else lcL g tt te w ds A1
@[simp] theorem kL1_0 (g : MG) (tt : MT) (te : ME) (w : Sl) (ds : List D) (s1 : Sl) (A : AH) : kL1 g tt te w ds s1 (.ok true A) = kL2 g tt te w ds (te s1 A) := rfl
@[simp] theorem kL1_1 (g : MG) (tt : MT) (te : ME) (w : Sl) (ds : List D) (s1 : Sl) (A : AH) : kL1 g tt te w ds s1 (.ok false A) = lcL g tt te w ds A := rfl
@[simp] theorem lcL_nil (g : MG) (tt : MT) (te : ME) (w : Sl) (A : AH) : lcL g tt te w [] A = .ok [] A := rfl
@[simp] theorem lcL_cons (i : Nat) (tt : MT) (te : ME) (w : Sl) (d : D) (ds : List D) (A : AH) : lcL (gmN i) tt te w (d :: ds) A = kL1 (gmN i) tt te w ds (w.set i (some d)) (tt (w.set i (some d)) A) := rfl
def kLc (g : MG) (tt : MT) (te : ME) (vs : List Nat) (fin : List D → AH → R D) (s : Sl) (r : R IT) : R D := r.bind fun it A1 => if itLen it A1 < 16777216 then (lcG g tt te it (wpD s vs) (itLen it A1 + 1) 0 A1).bind fin else .bad
@[simp] theorem e_lc {mi : Sl → AH → R IT} {g : MG} {tt : MT} {te : ME} {vs : List Nat} {fin : List D → AH → R D} {s : Sl} {A : AH} : mLc mi g tt te vs fin s A = kLc g tt te vs fin s (mi s A) := rfl
@[simp] theorem kLc_0 (g : MG) (tt : MT) (te : ME) (vs : List Nat) (fin : List D → AH → R D) (s : Sl) (it : List D) (A : AH) : kLc g tt te vs fin s (.ok (.data it) A) = if it.length < 16777216 then kFin fin (lcL g tt te (wpD s vs) it A) else .bad := by
  show (if it.length < 16777216 then (lcG g tt te (.data it) (wpD s vs) (it.length + 1) 0 A).bind fin else .bad) = _
  rw [lcG_data g tt te it (wpD s vs) _ _ _ (Nat.zero_add _), if_neg (Nat.succ_ne_zero _), List.drop_zero]
  rfl
@[simp] theorem finF_0 (ds : List D) (A : AH) : finF ds A = .ok (.lst ds) A := rfl
@[simp] theorem wp_nil (s : Sl) : wpD s [] = s := rfl
@[simp] theorem wp_cons (s : Sl) (v : Nat) (vs : List Nat) : wpD s (v :: vs) = (wpD s vs).set v none := rfl
def kR1 (r : R (List D)) : R IT := r.bind fun ds A1 => match ds with
  | [.int j] => if -(2 ^ 62) ≤ j ∧ j < 2 ^ 62 then .ok (.data (rngL 0 1 j.toNat)) A1 else .bad
  | _ => .bad
@[simp] theorem e_rng1 {ma : MA} {s : Sl} {A : AH} : mRng1 ma s A = kR1 (ma s A) := rfl
def kIt (r : R D) : R IT := r.bind itOf
@[simp] theorem e_any {m : ME} {s : Sl} {A : AH} : miAny m s A = kIt (m s A) := rfl
@[simp] theorem kIt_tup (ds : List D) (A : AH) : kIt (.ok (.tup ds) A) = .ok (.data ds) A := rfl
@[simp] theorem kIt_lst (ds : List D) (A : AH) : kIt (.ok (.lst ds) A) = .ok (.data ds) A := rfl
theorem ix_ofS {z : Str} {i : Int} {c : Nat} {A : AH} (h : z.length ≤ 16777216) (h2 : atI z.cps.toList i = some c) : ixD (.str z) (.int i) A = .ok (.str ⟨#[c]⟩) A := by
  show (match (if z.length ≤ 16777216 then atI z.cps.toList i else none) with
    | some c => R.ok (D.str ⟨#[c]⟩) A
    | none => .bad) = _
  rw [if_pos h, h2]
/-! ### == of flat tuples and lists -/
def okF : D → Bool
  | .int _ => true
  | .str z => PyData.strOk z
  | _ => false
def pyF : D → PyData
  | .int i => .int i
  | .str z => .str z
  | _ => .none
def feqs : List D → List D → Bool
  | [], [] => true
  | x :: xs, y :: ys => feq x y && feqs xs ys
  | _, _ => false
theorem pys_flat {n : Nat} {A : AH} : ∀ {ds : List D}, ds.all okF = true → pysOf (pyOf (n + 1) A) ds = some (ds.map pyF) ∧ PyData.canLayAll0 (ds.map pyF) = true ∧ PyData.depthAll (ds.map pyF) = 0
  | [], _ => ⟨rfl, by simp [PyData.canLayAll0], by simp [PyData.depthAll]⟩
  | d :: ds, h => by
    simp only [List.all_cons, Bool.and_eq_true] at h
    obtain ⟨i1, i2, i3⟩ := pys_flat (n := n) (A := A) h.2
    unfold pysOf
    cases d with
    | int i => exact ⟨by rw [i1]; rfl, by simp [PyData.canLayAll0, PyData.canLay0, pyF, i2], by simp [PyData.depthAll, PyData.depth, pyF, i3]⟩
    | str z =>
      have hz : PyData.strOk z = true := h.1
      exact ⟨by rw [i1]; rfl, by simp [PyData.canLayAll0, PyData.canLay0, pyF, i2, hz], by simp [PyData.depthAll, PyData.depth, pyF, i3]⟩
    | _ => cases (show false = true from h.1)
theorem eqv_flat : ∀ {ds es : List D}, ds.all okF = true → es.all okF = true → PyData.eqvAll (ds.map pyF) (es.map pyF) = feqs ds es
  | [], [], _, _ => by simp [PyData.eqvAll, feqs]
  | [], _ :: _, _, _ => by simp [PyData.eqvAll, feqs]
  | _ :: _, [], _, _ => by simp [PyData.eqvAll, feqs]
  | d :: ds, e :: es, h1, h2 => by
    simp only [List.all_cons, Bool.and_eq_true] at h1 h2
    have ih := eqv_flat h1.2 h2.2
    simp only [List.map_cons, PyData.eqvAll, feqs, ih]
    cases d <;> first
      | (cases (show false = true from h1.1))
      | (cases e <;> first
          | (cases (show false = true from h2.1))
          | (simp [PyData.eqv, pyF, feq]))
theorem shaped_tup {ds : List D} (h : PyData.canLayAll0 (ds.map pyF) = true) (h2 : PyData.depthAll (ds.map pyF) = 0) : SeqAt.shaped (.tuple (ds.map pyF)) = true := by
  simp [SeqAt.shaped, PyData.canLay0, PyData.depth, h, h2]
theorem shaped_lst {ds : List D} (h : PyData.canLayAll0 (ds.map pyF) = true) (h2 : PyData.depthAll (ds.map pyF) = 0) : SeqAt.shaped (.list (ds.map pyF)) = true := by
  simp [SeqAt.shaped, PyData.canLay0, PyData.depth, h, h2]
theorem eq_tupF {ds es : List D} {A : AH} (h : (ds.all okF && es.all okF) = true) : eqD (.tup ds) (.tup es) A = .ok (.bl (feqs ds es)) A := by
  obtain ⟨h1, h2⟩ := Bool.and_eq_true_iff.mp h
  obtain ⟨a1, a2, a3⟩ := pys_flat (n := 10) (A := A) h1
  obtain ⟨b1, b2, b3⟩ := pys_flat (n := 10) (A := A) h2
  have e1 : pyOf 12 A (.tup ds) = some (.tuple (ds.map pyF)) := by
    show (pysOf (pyOf 11 A) ds).map PyData.tuple = _
    rw [a1]
    rfl
  have e2 : pyOf 12 A (.tup es) = some (.tuple (es.map pyF)) := by
    show (pysOf (pyOf 11 A) es).map PyData.tuple = _
    rw [b1]
    rfl
  unfold eqD
  rw [e1, e2, show scEq (.tup ds) (.tup es) = none from rfl]
  simp only [shaped_tup a2 a3, shaped_tup b2 b3, Bool.and_self, if_true, PyData.eqv, eqv_flat h1 h2]
theorem eq_lstF {ds es : List D} {A : AH} (h : (ds.all okF && es.all okF) = true) : eqD (.lst ds) (.lst es) A = .ok (.bl (feqs ds es)) A := by
  obtain ⟨h1, h2⟩ := Bool.and_eq_true_iff.mp h
  obtain ⟨a1, a2, a3⟩ := pys_flat (n := 10) (A := A) h1
  obtain ⟨b1, b2, b3⟩ := pys_flat (n := 10) (A := A) h2
  have e1 : pyOf 12 A (.lst ds) = some (.list (ds.map pyF)) := by
    show (pysOf (pyOf 11 A) ds).map PyData.list = _
    rw [a1]
    rfl
  have e2 : pyOf 12 A (.lst es) = some (.list (es.map pyF)) := by
    show (pysOf (pyOf 11 A) es).map PyData.list = _
    rw [b1]
    rfl
  unfold eqD
  rw [e1, e2, show scEq (.lst ds) (.lst es) = none from rfl]
  simp only [shaped_lst a2 a3, shaped_lst b2 b3, Bool.and_self, if_true, PyData.eqv, eqv_flat h1 h2]
end Tg

set_option Elab.async false
set_option linter.all false
set_option maxRecDepth 100000
set_option maxHeartbeats 2000000
/-! TgLaw: what the laws share: drawing, likeness. -/
namespace Tg
open PySem L2
@[simp] theorem isi_int {T : String} {i : Int} {A : AH} : isiD T (.int i) A = .ok (.bl (subTy "int" T)) A := rfl
@[simp] theorem isi_str {T : String} {i : Str} {A : AH} : isiD T (.str i) A = .ok (.bl (subTy "str" T)) A := rfl
@[simp] theorem isi_tup {T : String} {i : List D} {A : AH} : isiD T (.tup i) A = .ok (.bl (subTy "tuple" T)) A := rfl
@[simp] theorem isi_lst {T : String} {i : List D} {A : AH} : isiD T (.lst i) A = .ok (.bl (subTy "list" T)) A := rfl
@[simp] theorem isi_non {T : String} {A : AH} : isiD T .non A = .ok (.bl (subTy "NoneType" T)) A := rfl
@[simp] theorem isi_bl {T : String} {b : Bool} {A : AH} : isiD T (.bl b) A = .ok (.bl (subTy "bool" T)) A := rfl
@[simp] theorem o_neB {a b : Bool} {A : AH} : neD (.bl a) (.bl b) A = .ok (.bl (!(a == b))) A := by cases a <;> cases b <;> rfl
@[simp] theorem o_eqB {a b : Bool} {A : AH} : eqD (.bl a) (.bl b) A = .ok (.bl (a == b)) A := by cases a <;> cases b <;> rfl
@[simp] theorem int_bl {b : Bool} {A : AH} : intD [.bl b] A = .ok (.int (if b then 1 else 0)) A := rfl
def RowAt (r : Nat) (ns : List Int) (A : AH) : Prop := ∃ a b c, A[r]? = some (rowO ns a b c) ∧ 0 ≤ a
theorem takenR {r : Nat} {ns : List Int} {A : AH} (many : Int) (h : RowAt r ns A) (hm : 0 < many ∧ many < 1073741824) : ∃ v A', m_taken [.ref r, .int many] A = .ok (.int v) A' ∧ RowAt r ns A' ∧ 0 ≤ v ∧ v < many := by
  obtain ⟨a, b, c, hA, ha⟩ := h
  obtain ⟨v, a', b', c', e, h1, h2, h3⟩ := taken_ok hA ha hm.1 hm.2
  have hr := (List.getElem?_eq_some_iff.mp hA).1
  exact ⟨v, _, e, ⟨a', b', c', List.getElem?_set_self hr, h3⟩, h1, h2⟩
/-- .. with things laid behind -/
theorem takenApp {r : Nat} {ns : List Int} {A : AH} (many : Int) (l : AH) (h : RowAt r ns A) (hm : 0 < many ∧ many < 1073741824) : ∃ (v : Nat) (A' : AH), m_taken [.ref r, .int many] (A ++ l) = .ok (.int (v : Int)) (A' ++ l) ∧ RowAt r ns A' ∧ A'.length = A.length ∧ (v : Int) < many := by
  obtain ⟨a, b, c, hA, ha⟩ := h
  have hr := (List.getElem?_eq_some_iff.mp hA).1
  obtain ⟨v, a', b', c', e, h1, h2, h3⟩ := taken_ok (A := A ++ l) (by rw [List.getElem?_append_left hr]; exact hA) ha hm.1 hm.2
  rw [List.set_append_left _ _ hr] at e
  obtain ⟨n, rfl⟩ := Int.eq_ofNat_of_zero_le h1
  exact ⟨n, _, e, ⟨a', b', c', List.getElem?_set_self hr, h3⟩, List.length_set, h2⟩
theorem RowAt.app {r : Nat} {ns : List Int} {A : AH} (h : RowAt r ns A) (l : AH) : RowAt r ns (A ++ l) := by
  obtain ⟨a, b, c, hA, ha⟩ := h
  exact ⟨a, b, c, by rw [List.getElem?_append_left (List.getElem?_eq_some_iff.mp hA).1]; exact hA, ha⟩
theorem RowAt.set {r n : Nat} {ns : List Int} {A : AH} {o : AO} (h : RowAt r ns A) (hn : n ≠ r) : RowAt r ns (A.set n o) := by
  obtain ⟨a, b, c, hA, ha⟩ := h
  exact ⟨a, b, c, by rw [List.getElem?_set_ne hn]; exact hA, ha⟩
theorem RowAt.lt {r : Nat} {ns : List Int} {A : AH} (h : RowAt r ns A) : r < A.length := by
  obtain ⟨a, b, c, hA, ha⟩ := h
  exact (List.getElem?_eq_some_iff.mp hA).1
theorem maps_of {α : Type} {f : α → D} {P : α → Prop} : ∀ {ys : List D}, (∀ y ∈ ys, ∃ v, y = f v ∧ P v) → ∃ vs : List α, ys = vs.map f ∧ ∀ v ∈ vs, P v
  | [], _ => ⟨[], rfl, fun _ h => nomatch h⟩
  | y :: ys, h => by
    obtain ⟨v, rfl, hv⟩ := h y List.mem_cons_self
    obtain ⟨vs, rfl, h2⟩ := maps_of (ys := ys) fun z hz => h z (List.mem_cons_of_mem _ hz)
    refine ⟨v :: vs, rfl, fun z hz => ?_⟩
    rcases List.mem_cons.mp hz with rfl | hz
    · exact hv
    · exact h2 z hz
/-! ### alike -/
def a1 : MS := mIfS (mOr (mTb (mBin neD (mUn (isiD "tuple") (mv 0)) (mUn (isiD "tuple") (mv 1)))) (mNot (mTb (mUn (isiD2 "tuple" "list") (mv 0))))) (mRet (mc (.bl false))) mNx
def a2 : MS := mIfS (mTb (mBin neD (mCall lenD (mCons (mv 0) mNil)) (mCall lenD (mCons (mv 1) mNil)))) (mRet (mc (.bl false))) mNx
def a3 : MS := mIfS (mOr (mTb (mBin isD (mv 1) (mc .non))) (mTb (mBin isD (mv 0) (mc .non)))) (mRet (mAndV (mBin isD (mv 1) (mc .non)) (mBin isD (mv 0) (mc .non)))) mNx
def a4 : MS := mIfS (mOr (mTb (mUn (isiD "bool") (mv 1))) (mTb (mUn (isiD "bool") (mv 0)))) (mRet (mAndV (mUn (isiD "bool") (mv 1)) (mAndV (mUn (isiD "bool") (mv 0)) (mBin eqD (mv 0) (mv 1))))) mNx
def a5 : MS := mIfS (mTb (mUn (isiD "str") (mv 1))) (mRet (mAndV (mUn (isiD "str") (mv 0)) (mBin eqD (mv 0) (mv 1)))) mNx
def a6 : MS := mRet (mAndV (mUn (isiD "int") (mv 0)) (mBin eqD (mv 0) (mv 1)))
section
variable {n : Nat} {A : AH} {x y : D} {ds es : List D} {T : String}
end
end Tg

set_option Elab.async false
set_option linter.all false
set_option maxRecDepth 100000
set_option maxHeartbeats 2000000
/-! TgZip: zip of a list and a text; get of a written dict. -/
namespace Tg
open PySem PySem.Spec PyProof.Rows L2
section
variable {X : Cx} {Wx : WX} {e e2 : Expr} {ta : TA} {ma : MA} {te : TE} {me : ME} {p pos tpos apos cpos : Pos} {elts : List Expr} {kk : Nat} {x : Str} {kvs : List (Str × Str)}
end
end Tg

set_option Elab.async false
set_option linter.all false
set_option maxRecDepth 100000
set_option maxHeartbeats 2000000
/-! TgTxt: texts by their signs; walks over lists, told item by item. -/
namespace Tg
open PySem L2
open SX (S)
section
variable {A : AH} {l : List Nat} {c : Nat} {d : D} {ds : List D}
theorem inB_S : inB (.str ⟨#[c]⟩) (.str (S l)) A = some (decide (c ∈ l)) := congrArg some (SX.in_one l c)
theorem in_S : inD (.str ⟨#[c]⟩) (.str (S l)) A = .ok (.bl (decide (c ∈ l))) A := by
  unfold inD
  rw [inB_S]
theorem len_S (h : l.length ≤ 16777216) : lenD [.str (S l)] A = .ok (.int l.length) A := by
  show (if (S l).length ≤ 16777216 then R.ok (D.int (S l).length) A else .bad) = _
  rw [SX.S_len, if_pos h]
/-- a number's signs -/
def numC (i : Int) : List Nat := if 0 ≤ i then TL.numL i.toNat else 45 :: TL.numL (-i).toNat
theorem str_num (i : Int) : Str.ofString (toString i) = S (numC i) := by
  cases i with
  | ofNat n =>
    have e : numC (Int.ofNat n) = TL.numL n := if_pos (Int.natCast_nonneg n)
    rw [e]
    exact SX.num_S n
  | negSucc m =>
    have e : numC (Int.negSucc m) = 45 :: TL.numL (m + 1) := by
      have h : ¬ (0 : Int) ≤ Int.negSucc m := by omega
      unfold numC
      rw [if_neg h]
      rfl
    rw [e]
    refine TL.ext_tl ?_
    rw [TL.tl_ofString]
    show (("-" ++ Nat.repr (m + 1) : String)).toList.map Char.toNat = _
    rw [String.toList_append, List.map_append]
    show _ = [45] ++ TL.numL (m + 1)
    unfold TL.numL
    rw [Nat.toList_repr]
    rfl
theorem numC_len {i : Int} (h0 : -100000 < i) (h1 : i < 100000) : (numC i).length ≤ 6 := by
  unfold numC
  split
  · have := TL.numL_len (n := i.toNat) (k := 5) (by decide) (by show i.toNat < 100000; omega)
    omega
  · have := TL.numL_len (n := (-i).toNat) (k := 5) (by decide) (by show (-i).toNat < 100000; omega)
    simp only [List.length_cons]
    omega
theorem numC_ne (i : Int) : numC i ≠ [] := by
  unfold numC
  split
  · exact TL.numL_ne _
  · simp
theorem numC_free {i : Int} {s : Nat} (h : s < 48 ∨ 57 < s) (h2 : s ≠ 45) : s ∉ numC i := by
  unfold numC
  split
  · exact TL.numL_free h
  · intro q
    rcases List.mem_cons.mp q with q | q
    · exact h2 q
    · exact TL.numL_free h q
theorem str_int {i : Int} (h0 : -100000 < i) (h1 : i < 100000) : strD [.int i] A = .ok (.str (S (numC i))) A := by
  have h : i.natAbs.log2 < 1920 := by
    by_cases h : i.natAbs = 0
    · rw [h]
      decide
    · exact Nat.lt_trans ((Nat.log2_lt h).mpr (show i.natAbs < 2 ^ 17 by omega)) (by decide)
  show (if i.natAbs.log2 < 1920 then R.ok (D.str (Str.ofString (toString i))) A else .bad) = _
  rw [if_pos h, str_num]
end
/-! ### joined and split -/
section
variable {A : AH} {s : List Nat} {ls : List (List Nat)} {k : Nat} {c : Nat}
theorem joinL_len : ∀ {ls : List (List Nat)}, (∀ l ∈ ls, l.length + s.length ≤ k) → (TL.joinL s ls).length ≤ ls.length * k
  | [], _ => Nat.zero_le _
  | [p], h => by
    have := h p List.mem_cons_self
    show p.length ≤ 1 * k
    omega
  | p :: q :: r, h => by
    have h1 := h p List.mem_cons_self
    have h2 := joinL_len (ls := q :: r) fun l hl => h l (List.mem_cons_of_mem _ hl)
    show (p ++ (s ++ TL.joinL s (q :: r))).length ≤ (q :: r).length.succ * k
    rw [List.length_append, List.length_append, Nat.succ_mul]
    omega
theorem sum_len : ∀ {ls : List (List Nat)}, (∀ l ∈ ls, l.length + s.length ≤ k) → (ls.map List.length).sum + ls.length * s.length ≤ ls.length * k
  | [], _ => by simp
  | p :: r, h => by
    have h1 := h p List.mem_cons_self
    have h2 := sum_len (ls := r) fun l hl => h l (List.mem_cons_of_mem _ hl)
    simp only [List.map_cons, List.sum_cons, List.length_cons, Nat.succ_mul]
    omega
theorem strs_S : ∀ {ls : List (List Nat)}, strsD (ls.map fun l => .str (S l)) = some (ls.map S)
  | [] => rfl
  | l :: ls => by
    show (strsD (ls.map fun l => .str (S l))).map (S l :: ·) = _
    rw [strs_S]
    rfl
theorem join_S (h : ∀ l ∈ ls, l.length + s.length ≤ k) (hk : ls.length * k ≤ 16777216) : joinD (.str (S s)) [.lst (ls.map fun l => .str (S l))] A = .ok (.str (S (TL.joinL s ls))) A := by
  have e : (itemsD A (.lst (ls.map fun l => .str (S l)))).bind strsD = some (ls.map S) := strs_S
  show (match (itemsD A (.lst (ls.map fun l => .str (S l)))).bind strsD with
    | some ys => if (ys.map (fun y : Str => y.length)).sum + ys.length * (S s).length ≤ 16777216 then R.ok (D.str (Txt.join (S s) ys)) A else .bad
    | none => .bad) = _
  rw [e]
  have e2 : (ls.map fun x => x.length).sum + ls.length * s.length ≤ ls.length * k := sum_len h
  dsimp only
  rw [SX.lens, List.length_map, SX.S_len, if_pos (by omega), SX.join_S]
end
/-! ### walks told item by item -/
inductive All2 {α β : Type} (P : α → β → Prop) : List α → List β → Prop
  | nil : All2 P [] []
  | cons {a b as bs} : P a b → All2 P as bs → All2 P (a :: as) (b :: bs)
theorem All2.len {α β : Type} {P : α → β → Prop} : ∀ {as : List α} {bs : List β}, All2 P as bs → as.length = bs.length
  | _, _, .nil => rfl
  | _, _, .cons _ h => by rw [List.length_cons, List.length_cons, h.len]
theorem All2.imp {α β : Type} {P Q : α → β → Prop} (f : ∀ a b, P a b → Q a b) : ∀ {as : List α} {bs : List β}, All2 P as bs → All2 Q as bs
  | _, _, .nil => .nil
  | _, _, .cons h h2 => .cons (f _ _ h) (h2.imp f)
theorem All2.get {α β : Type} {P : α → β → Prop} : ∀ {as : List α} {bs : List β} (i : Nat) (h : i < as.length) (h2 : i < bs.length), All2 P as bs → P as[i] bs[i]
  | _, _, 0, _, _, .cons h _ => h
  | _, _, i + 1, h, h2, .cons _ r => r.get i (by simpa using h) (by simpa using h2)
theorem All2.maps {α β γ : Type} {P : β → γ → Prop} {f : α → β} {g : α → γ} : ∀ {as : List α}, (∀ a ∈ as, P (f a) (g a)) → All2 P (as.map f) (as.map g)
  | [], _ => .nil
  | a :: as, h => .cons (h a List.mem_cons_self) (All2.maps fun b hb => h b (List.mem_cons_of_mem _ hb))
section
variable {g : MG} {tt : MT} {te : ME} {b : MS} {mi : Sl → AH → R IT} {vs : List Nat} {s : Sl} {A A1 : AH} {ds : List D}
theorem lcL_all2 {w : Sl} : ∀ {ds qs : List D}, All2 (fun d q => ∃ s1, g d w = some s1 ∧ tt s1 A = .ok true A ∧ te s1 A = .ok q A) ds qs → lcL g tt te w ds A = .ok qs A
  | _, _, .nil => rfl
  | _, _, .cons ⟨s1, h1, h2, h3⟩ h => by
    have ih := lcL_all2 h
    unfold lcL
    simp only [h1, h2, R.bindN_ok, if_true, h3, ih, R.bind_ok]
theorem lc_all2 {qs : List D} (h0 : mi s A = .ok (.data ds) A) (hl : ds.length < 16777216) (h : All2 (fun d q => ∃ s1, g d (wpD s vs) = some s1 ∧ tt s1 A = .ok true A ∧ te s1 A = .ok q A) ds qs) : mLc mi g tt te vs finF s A = .ok (.lst qs) A := by
  rw [mLc_of h0 hl, lcL_all2 h]
  rfl
theorem forL_at (I : Nat → Sl → AH → Prop) : ∀ {ds : List D} {s : Sl} {A : AH} (k : Nat), I k s A → (∀ j d s A, ds[j]? = some d → I (k + j) s A → ∃ s1 s2 A2, g d s = some s1 ∧ b s1 A = .nx s2 A2 ∧ I (k + j + 1) s2 A2) → ∃ s' A', forL g b ds s A = .nx s' A' ∧ I (k + ds.length) s' A'
  | [], s, A, k, hI, _ => ⟨s, A, rfl, hI⟩
  | d :: ds, s, A, k, hI, h => by
    obtain ⟨s1, s2, A2, h1, h2, h3⟩ := h 0 d s A rfl hI
    obtain ⟨s', A', e1, e2⟩ := forL_at (ds := ds) I (k + 1) h3 fun j e s A hj hI => by
      have := h (j + 1) e s A hj (by rw [show k + (j + 1) = k + 1 + j by omega]; exact hI)
      rw [show k + (j + 1) + 1 = k + 1 + j + 1 by omega] at this
      exact this
    refine ⟨s', A', ?_, by rw [show k + (d :: ds).length = k + 1 + ds.length by simp; omega]; exact e2⟩
    unfold forL
    simp only [h1, h2, e1]
/-- drawn tests: a part of what is walked -/
theorem lcL_sub {w : Sl} (I : AH → Prop) : ∀ {ds : List D} {A : AH}, I A → (∀ d ∈ ds, ∀ A, I A → ∃ s1 k A2, g d w = some s1 ∧ tt s1 A = .ok k A2 ∧ I A2 ∧ te s1 A2 = .ok d A2) → ∃ ys A', lcL g tt te w ds A = .ok ys A' ∧ I A' ∧ ys.Sublist ds
  | [], A, hI, _ => ⟨[], A, rfl, hI, .slnil⟩
  | d :: ds, A, hI, h => by
    obtain ⟨s1, k, A2, h1, h2, h3, h4⟩ := h d List.mem_cons_self A hI
    obtain ⟨ys, A', e1, e2, e3⟩ := lcL_sub (ds := ds) I h3 fun e he => h e (List.mem_cons_of_mem _ he)
    cases k with
    | true =>
      refine ⟨d :: ys, A', ?_, e2, e3.cons₂ d⟩
      unfold lcL
      simp only [h1, h2, R.bindN_ok, if_true, h4, e1, R.bind_ok]
    | false =>
      refine ⟨ys, A', ?_, e2, e3.cons d⟩
      unfold lcL
      simp [h1, h2, e1]
theorem lc_sub (I : AH → Prop) (h0 : mi s A = .ok (.data ds) A1) (hl : ds.length < 16777216) (hI : I A1) (h : ∀ d ∈ ds, ∀ A, I A → ∃ s1 k A2, g d (wpD s vs) = some s1 ∧ tt s1 A = .ok k A2 ∧ I A2 ∧ te s1 A2 = .ok d A2) :
    ∃ ys A', mLc mi g tt te vs finF s A = .ok (.lst ys) A' ∧ I A' ∧ ys.Sublist ds := by
  obtain ⟨ys, A', e1, e2⟩ := lcL_sub (w := wpD s vs) I hI h
  refine ⟨ys, A', ?_, e2⟩
  rw [mLc_of h0 hl, e1]
  rfl
end
end Tg

set_option Elab.async false
set_option linter.all false
set_option maxRecDepth 100000
set_option maxHeartbeats 2000000
/-! TgRng: list(range(n)), a list that will change. -/
namespace Tg
open PySem L2
section
variable {X : Cx} {Wx : WX} {a : Expr} {ta : TE} {ma : ME} {p p2 pos pos2 : Pos}
end
end Tg

set_option Elab.async false
set_option linter.all false
set_option maxRecDepth 100000
set_option maxHeartbeats 2000000
/-! TgDat: == and in of data of any depth. -/
namespace Tg
open PySem L2
open SX (S)
mutual
/-- numbers, texts, None, lists and tuples of them -/
def datD : D → Bool
  | .non => true
  | .int _ => true
  | .str z => PyData.strOk z
  | .tup ds => datL ds
  | .lst ds => datL ds
  | _ => false
def datL : List D → Bool
  | [] => true
  | d :: ds => datD d && datL ds
end
mutual
def depD : D → Nat
  | .tup ds => depL ds + 1
  | .lst ds => depL ds + 1
  | _ => 0
def depL : List D → Nat
  | [] => 0
  | d :: ds => max (depD d) (depL ds)
end
mutual
def pyD : D → PyData
  | .int i => .int i
  | .str z => .str z
  | .tup ds => .tuple (pyL ds)
  | .lst ds => .list (pyL ds)
  | _ => .none
def pyL : List D → List PyData
  | [] => []
  | d :: ds => pyD d :: pyL ds
end
mutual
theorem pyOf_dat {A : AH} : ∀ (d : D) (n : Nat), datD d = true → depD d < n → pyOf n A d = some (pyD d)
  | _, 0, _, h => absurd h (Nat.not_lt_zero _)
  | .non, n + 1, _, _ => by simp [pyOf, pyD]
  | .int i, n + 1, _, _ => by simp [pyOf, pyD]
  | .str z, n + 1, _, _ => by simp [pyOf, pyD]
  | .tup ds, n + 1, h, h2 => by
    have e := pysOf_dat (A := A) ds n (by simpa [datD] using h) (by simpa [depD] using h2)
    simp [pyOf, pyD, e]
  | .lst ds, n + 1, h, h2 => by
    have e := pysOf_dat (A := A) ds n (by simpa [datD] using h) (by simpa [depD] using h2)
    simp [pyOf, pyD, e]
  | .bl b, n + 1, h, _ => by simp [datD] at h
  | .dct ks ds, n + 1, h, _ => by simp [datD] at h
  | .ref r, n + 1, h, _ => by simp [datD] at h
  | .scr ns, n + 1, h, _ => by simp [datD] at h
theorem pysOf_dat {A : AH} : ∀ (ds : List D) (n : Nat), datL ds = true → depL ds < n → pysOf (pyOf n A) ds = some (pyL ds)
  | [], n, _, _ => by simp [pysOf, pyL]
  | d :: ds, n, h, h2 => by
    simp only [datL, Bool.and_eq_true] at h
    simp only [depL] at h2
    have e1 := pyOf_dat (A := A) d n h.1 (by omega)
    have e2 := pysOf_dat (A := A) ds n h.2 (by omega)
    simp [pysOf, pyL, e1, e2]
end
mutual
theorem lay_dat : ∀ (d : D), datD d = true → PyData.canLay0 (pyD d) = true ∧ PyData.depth (pyD d) = depD d
  | .non, _ => by simp [pyD, PyData.canLay0, PyData.depth, depD]
  | .int i, _ => by simp [pyD, PyData.canLay0, PyData.depth, depD]
  | .str z, h => by
    have : PyData.strOk z = true := by simpa [datD] using h
    simp [pyD, PyData.canLay0, PyData.depth, depD, this]
  | .tup ds, h => by
    obtain ⟨e1, e2⟩ := lays_dat ds (by simpa [datD] using h)
    simp [pyD, PyData.canLay0, PyData.depth, depD, e1, e2]
  | .lst ds, h => by
    obtain ⟨e1, e2⟩ := lays_dat ds (by simpa [datD] using h)
    simp [pyD, PyData.canLay0, PyData.depth, depD, e1, e2]
  | .bl b, h => by simp [datD] at h
  | .dct ks ds, h => by simp [datD] at h
  | .ref r, h => by simp [datD] at h
  | .scr ns, h => by simp [datD] at h
theorem lays_dat : ∀ (ds : List D), datL ds = true → PyData.canLayAll0 (pyL ds) = true ∧ PyData.depthAll (pyL ds) = depL ds
  | [], _ => by simp [pyL, PyData.canLayAll0, PyData.depthAll, depL]
  | d :: ds, h => by
    simp only [datL, Bool.and_eq_true] at h
    obtain ⟨a1, a2⟩ := lay_dat d h.1
    obtain ⟨b1, b2⟩ := lays_dat ds h.2
    simp [pyL, PyData.canLayAll0, PyData.depthAll, depL, a1, a2, b1, b2]
end
mutual
theorem eqv_dat : ∀ (d e : D), datD d = true → datD e = true → (PyData.eqv (pyD d) (pyD e) = true ↔ d = e)
  | .non, e, _, h => by cases e <;> simp [pyD, PyData.eqv, datD] at h ⊢
  | .int i, e, _, h => by cases e <;> simp [pyD, PyData.eqv, datD] at h ⊢
  | .str z, e, _, h => by cases e <;> simp [pyD, PyData.eqv, datD] at h ⊢
  | .tup ds, e, h1, h => by
    cases e with
    | tup es =>
      have := eqvs_dat ds es (by simpa [datD] using h1) (by simpa [datD] using h)
      simp [pyD, PyData.eqv, this]
    | _ => simp [pyD, PyData.eqv, datD] at h ⊢
  | .lst ds, e, h1, h => by
    cases e with
    | lst es =>
      have := eqvs_dat ds es (by simpa [datD] using h1) (by simpa [datD] using h)
      simp [pyD, PyData.eqv, this]
    | _ => simp [pyD, PyData.eqv, datD] at h ⊢
  | .bl b, _, h, _ => by simp [datD] at h
  | .dct ks ds, _, h, _ => by simp [datD] at h
  | .ref r, _, h, _ => by simp [datD] at h
  | .scr ns, _, h, _ => by simp [datD] at h
theorem eqvs_dat : ∀ (ds es : List D), datL ds = true → datL es = true → (PyData.eqvAll (pyL ds) (pyL es) = true ↔ ds = es)
  | [], [], _, _ => by simp [pyL, PyData.eqvAll]
  | [], _ :: _, _, _ => by simp [pyL, PyData.eqvAll]
  | _ :: _, [], _, _ => by simp [pyL, PyData.eqvAll]
  | d :: ds, e :: es, h1, h2 => by
    simp only [datL, Bool.and_eq_true] at h1 h2
    have a := eqv_dat d e h1.1 h2.1
    have b := eqvs_dat ds es h1.2 h2.2
    simp only [pyL, PyData.eqvAll, Bool.and_eq_true, a, b, List.cons.injEq]
end
theorem shaped_dat {d : D} (h : datD d = true) (h2 : depD d ≤ 11) : SeqAt.shaped (pyD d) = true := by
  obtain ⟨a, b⟩ := lay_dat d h
  unfold SeqAt.shaped
  rw [a, b, decide_eq_true (show depD d ≤ 64 by omega)]
  rfl
/-- == by trees -/
def eqB (x y : D) : Bool := PyData.eqv (pyD x) (pyD y)
theorem eqB_iff {x y : D} (hx : datD x = true) (hy : datD y = true) : eqB x y = true ↔ x = y := eqv_dat x y hx hy
theorem eqB_refl {x : D} (hx : datD x = true) : eqB x x = true := (eqB_iff hx hx).mpr rfl
theorem scEq_dat {x y : D} {b : Bool} (h : scEq x y = some b) (hx : datD x = true) (hy : datD y = true) : b = eqB x y := by
  unfold eqB
  cases x <;> cases y <;> simp [scEq, datD, pyD, PyData.eqv] at h hx hy ⊢
  all_goals first
    | exact h.symm
    | exact h
theorem ne_dat {x y : D} {A : AH} (h : (datD x && datD y) = true) (h2 : (decide (depD x ≤ 11) && decide (depD y ≤ 11)) = true) : neD x y A = .ok (.bl (!(eqB x y))) A := by
  simp only [Bool.and_eq_true, decide_eq_true_eq] at h h2
  unfold neD
  cases e : scEq x y with
  | some b =>
    rw [scEq_dat e h.1 h.2]
  | none =>
    rw [pyOf_dat x 12 h.1 (by omega), pyOf_dat y 12 h.2 (by omega)]
    simp only [shaped_dat h.1 h2.1, shaped_dat h.2 h2.2, Bool.and_self, if_true]
    rfl
end Tg

set_option Elab.async false
set_option linter.all false
set_option maxRecDepth 100000
set_option maxHeartbeats 1000000
/-! TgDatC: data with truths among it, compared. -/
namespace Tg
open PySem L2
mutual
def datC : D → Bool
  | .non => true
  | .bl _ => true
  | .int _ => true
  | .str z => PyData.strOk z
  | .tup ds => datCs ds
  | .lst ds => datCs ds
  | _ => false
def datCs : List D → Bool
  | [] => true
  | d :: ds => datC d && datCs ds
end
mutual
def pyC : D → PyData
  | .int i => .int i
  | .bl b => .bool b
  | .str z => .str z
  | .tup ds => .tuple (pyCs ds)
  | .lst ds => .list (pyCs ds)
  | _ => .none
def pyCs : List D → List PyData
  | [] => []
  | d :: ds => pyC d :: pyCs ds
end
mutual
theorem datC_of : ∀ d : D, datD d = true → datC d = true
  | .non, _ => by simp [datC]
  | .int i, _ => by simp [datC]
  | .str z, h => by simpa [datC, datD] using h
  | .tup ds, h => by
    have := datCs_of ds (by simpa [datD] using h)
    simpa [datC] using this
  | .lst ds, h => by
    have := datCs_of ds (by simpa [datD] using h)
    simpa [datC] using this
  | .bl b, _ => by simp [datC]
  | .dct ks ds, h => by simp [datD] at h
  | .ref r, h => by simp [datD] at h
  | .scr ns, h => by simp [datD] at h
theorem datCs_of : ∀ ds : List D, datL ds = true → datCs ds = true
  | [], _ => rfl
  | d :: ds, h => by
    simp only [datL, Bool.and_eq_true] at h
    simp only [datCs, Bool.and_eq_true]
    exact ⟨datC_of d h.1, datCs_of ds h.2⟩
end
mutual
theorem pyOf_C {A : AH} : ∀ (d : D) (n : Nat), datC d = true → depD d < n → pyOf n A d = some (pyC d)
  | _, 0, _, h => absurd h (Nat.not_lt_zero _)
  | .non, n + 1, _, _ => by simp [pyOf, pyC]
  | .bl b, n + 1, _, _ => by simp [pyOf, pyC]
  | .int i, n + 1, _, _ => by simp [pyOf, pyC]
  | .str z, n + 1, _, _ => by simp [pyOf, pyC]
  | .tup ds, n + 1, h, h2 => by
    have e := pysOf_C (A := A) ds n (by simpa [datC] using h) (by simpa [depD] using h2)
    simp [pyOf, pyC, e]
  | .lst ds, n + 1, h, h2 => by
    have e := pysOf_C (A := A) ds n (by simpa [datC] using h) (by simpa [depD] using h2)
    simp [pyOf, pyC, e]
  | .dct ks ds, n + 1, h, _ => by simp [datC] at h
  | .ref r, n + 1, h, _ => by simp [datC] at h
  | .scr ns, n + 1, h, _ => by simp [datC] at h
theorem pysOf_C {A : AH} : ∀ (ds : List D) (n : Nat), datCs ds = true → depL ds < n → pysOf (pyOf n A) ds = some (pyCs ds)
  | [], n, _, _ => by simp [pysOf, pyCs]
  | d :: ds, n, h, h2 => by
    simp only [datCs, Bool.and_eq_true] at h
    simp only [depL] at h2
    have e1 := pyOf_C (A := A) d n h.1 (by omega)
    have e2 := pysOf_C (A := A) ds n h.2 (by omega)
    simp [pysOf, pyCs, e1, e2]
end
mutual
theorem lay_C : ∀ (d : D), datC d = true → PyData.canLay0 (pyC d) = true ∧ PyData.depth (pyC d) = depD d
  | .non, _ => by simp [pyC, PyData.canLay0, PyData.depth, depD]
  | .bl b, _ => by simp [pyC, PyData.canLay0, PyData.depth, depD]
  | .int i, _ => by simp [pyC, PyData.canLay0, PyData.depth, depD]
  | .str z, h => by
    have : PyData.strOk z = true := by simpa [datC] using h
    simp [pyC, PyData.canLay0, PyData.depth, depD, this]
  | .tup ds, h => by
    obtain ⟨e1, e2⟩ := lays_C ds (by simpa [datC] using h)
    simp [pyC, PyData.canLay0, PyData.depth, depD, e1, e2]
  | .lst ds, h => by
    obtain ⟨e1, e2⟩ := lays_C ds (by simpa [datC] using h)
    simp [pyC, PyData.canLay0, PyData.depth, depD, e1, e2]
  | .dct ks ds, h => by simp [datC] at h
  | .ref r, h => by simp [datC] at h
  | .scr ns, h => by simp [datC] at h
theorem lays_C : ∀ (ds : List D), datCs ds = true → PyData.canLayAll0 (pyCs ds) = true ∧ PyData.depthAll (pyCs ds) = depL ds
  | [], _ => by simp [pyCs, PyData.canLayAll0, PyData.depthAll, depL]
  | d :: ds, h => by
    simp only [datCs, Bool.and_eq_true] at h
    obtain ⟨a1, a2⟩ := lay_C d h.1
    obtain ⟨b1, b2⟩ := lays_C ds h.2
    simp [pyCs, PyData.canLayAll0, PyData.depthAll, depL, a1, a2, b1, b2]
end
theorem shaped_C {d : D} (h : datC d = true) (h2 : depD d ≤ 11) : SeqAt.shaped (pyC d) = true := by
  obtain ⟨a, b⟩ := lay_C d h
  unfold SeqAt.shaped
  rw [a, b, decide_eq_true (show depD d ≤ 64 by omega)]
  rfl
mutual
theorem eqv_C : ∀ (d : D), datC d = true → PyData.eqv (pyC d) (pyC d) = true
  | .non, _ => by simp [pyC, PyData.eqv]
  | .bl b, _ => by simp [pyC, PyData.eqv]
  | .int i, _ => by simp [pyC, PyData.eqv]
  | .str z, _ => by simp [pyC, PyData.eqv]
  | .tup ds, h => by
    have := eqvs_C ds (by simpa [datC] using h)
    simp [pyC, PyData.eqv, this]
  | .lst ds, h => by
    have := eqvs_C ds (by simpa [datC] using h)
    simp [pyC, PyData.eqv, this]
  | .dct ks ds, h => by simp [datC] at h
  | .ref r, h => by simp [datC] at h
  | .scr ns, h => by simp [datC] at h
theorem eqvs_C : ∀ (ds : List D), datCs ds = true → PyData.eqvAll (pyCs ds) (pyCs ds) = true
  | [], _ => by simp [pyCs, PyData.eqvAll]
  | d :: ds, h => by
    simp only [datCs, Bool.and_eq_true] at h
    simp only [pyCs, PyData.eqvAll, Bool.and_eq_true]
    exact ⟨eqv_C d h.1, eqvs_C ds h.2⟩
end
theorem eqvs_len : ∀ {xs ys : List PyData}, xs.length ≠ ys.length → PyData.eqvAll xs ys = false
  | [], [], h => absurd rfl h
  | [], _ :: _, _ => by simp [PyData.eqvAll]
  | _ :: _, [], _ => by simp [PyData.eqvAll]
  | x :: xs, y :: ys, h => by
    simp only [PyData.eqvAll, eqvs_len (xs := xs) (ys := ys) (fun e => h (by simp [e])), Bool.and_false]
theorem pyCs_len : ∀ ds : List D, (pyCs ds).length = ds.length
  | [] => rfl
  | d :: ds => by simp [pyCs, pyCs_len ds]
theorem eq_C {x y : D} {A : AH} (hs : scEq x y = none) (hx : datC x = true) (hy : datC y = true) (dx : depD x ≤ 11) (dy : depD y ≤ 11) : eqD x y A = .ok (.bl (PyData.eqv (pyC x) (pyC y))) A := by
  unfold eqD
  rw [hs, pyOf_C x 12 hx (by omega), pyOf_C y 12 hy (by omega)]
  simp only [shaped_C hx dx, shaped_C hy dy, Bool.and_self, if_true]
/-- a tuple and itself; tuples of unlike lengths -/
theorem eq_tupC {ds : List D} {A : AH} (h : datCs ds = true) (hd : depL ds ≤ 10) : eqD (.tup ds) (.tup ds) A = .ok (.bl true) A := by
  have hx : datC (.tup ds) = true := by simpa [datC] using h
  rw [eq_C rfl hx hx (by simp only [depD]; omega) (by simp only [depD]; omega), eqv_C _ hx]
theorem eq_tupN {ds es : List D} {A : AH} (h : datCs ds = true) (h2 : datCs es = true) (hd : depL ds ≤ 10) (hd2 : depL es ≤ 10) (hl : ds.length ≠ es.length) : eqD (.tup ds) (.tup es) A = .ok (.bl false) A := by
  rw [eq_C rfl (by simpa [datC] using h) (by simpa [datC] using h2) (by simp only [depD]; omega) (by simp only [depD]; omega)]
  simp only [pyC, PyData.eqv]
  rw [eqvs_len (by rw [pyCs_len, pyCs_len]; exact hl)]
theorem datCs_all {ds : List D} : datCs ds = ds.all datC := by
  induction ds with
  | nil => rfl
  | cons d ds ih => simp [datCs, ih]
theorem depL_le {ds : List D} {k : Nat} (h : ∀ d ∈ ds, depD d ≤ k) : depL ds ≤ k := by
  induction ds with
  | nil => exact Nat.zero_le _
  | cons d ds ih =>
    simp only [depL]
    have h1 := h d List.mem_cons_self
    have h2 := ih fun e he => h e (List.mem_cons_of_mem _ he)
    omega
end Tg

set_option Elab.async false
set_option linter.all false
set_option maxRecDepth 100000
set_option maxHeartbeats 2000000
/-! TgWord: words of cells and boxes: numbers, keys, gates. -/
namespace Tg
open PySem L2
open SX (S)
/-! ### comprehensions that change nothing, over what is walked in any way -/
section
variable {g : MG} {tt : MT} {te : ME} {mi : Sl → AH → R IT} {vs : List Nat} {fin : List D → AH → R D} {s w : Sl} {A : AH} {it : IT} {ds : List D}
end
@[simp] theorem at4 {α : Type} {p q r s t : α} {xs : List α} : atI (p :: q :: r :: s :: t :: xs) 4 = some t := Tg.atI_nat 4
/-! ### words -/
def R16 : List (List Nat) := [[], [115], [108], [108, 115], [104], [104, 115], [104, 108], [104, 108, 115], [103], [103, 115], [103, 108], [103, 108, 115], [103, 104], [103, 104, 115], [103, 104, 108], [103, 104, 108, 115]]
/-- numbers, keys -/
inductive Pl where
  | num (i : Int) | key (b e a : Int) (r : List Nat)
  deriving DecidableEq
inductive Wo where
  | pl (p : Pl) | gate (g : Int) (p : Pl)
  deriving DecidableEq
def Pl.d : Pl → D
  | .num i => .int i
  | .key b e a r => .tup [.str "key", .int b, .int e, .int a, .str (S r)]
def Wo.d : Wo → D
  | .pl p => p.d
  | .gate g p => .tup [.str "gate", .int g, p.d]
inductive Pl.Ok (most : Nat) : Pl → Prop
  | num {i : Int} : -10000 ≤ i → i < 10000 → Pl.Ok most (.num i)
  | key {b e a : Int} {r : List Nat} : 0 ≤ b → b < most → b + 1 ≤ e → e ≤ most → -10000 ≤ a → a < 10000 → r ∈ R16 → Pl.Ok most (.key b e a r)
inductive Wo.Ok (rows most : Nat) : Wo → Prop
  | pl {p : Pl} : p.Ok most → Wo.Ok rows most (.pl p)
  | gate {g : Int} {p : Pl} : 0 ≤ g → g < rows + 1 → p.Ok most → Wo.Ok rows most (.gate g p)
def Wo.isNum : Wo → Bool
  | .pl (.num _) => true
  | _ => false
/-- w.d as a tuple's items -/
def Wo.items (w : Wo) : List D := match w.d with
  | .tup ds => ds
  | _ => []
/-! ### what is come to -/
def hasG (r : List Nat) : Bool := decide (103 ∈ r) && decide (104 ∈ r)
/-- the words that a word leads to -/
def succs (gates : Bool) (cells : List Wo) : Wo → List Wo
  | .pl (.num _) => []
  | .pl (.key b e _ r) => if hasG r then (cells.drop b.toNat).take (e.toNat - b.toNat) else []
  | .gate _ p => if gates then [.pl p] else []
inductive Reach (gates : Bool) (cells boxes : List Wo) : Wo → Prop
  | box {w : Wo} : w ∈ boxes → w.isNum = false → Reach gates cells boxes w
  | step {v w : Wo} : Reach gates cells boxes v → w ∈ succs gates cells v → w.isNum = false → Reach gates cells boxes w
def inner : Wo → List Wo
  | .gate _ p => [.pl p]
  | _ => []
theorem Reach.num {gates : Bool} {cells boxes : List Wo} {w : Wo} (h : Reach gates cells boxes w) : w.isNum = false := by
  cases h <;> assumption
end Tg

set_option Elab.async false
set_option linter.all false
set_option maxRecDepth 100000
set_option maxHeartbeats 4000000
/-! TgSrt: sorted(a dict whose keys are numbers), dict(a list of pairs), a tuple many or few times, x, o[i] = e. -/
namespace Tg
open PySem PySem.Spec PyProof.Rows L2
/-! ### sorted -/
section
variable {K : PySem.W.Frag} {mg : Str → Option Value}
/-! ### dict(pairs) -/
end
/-! ### a tuple some times -/
/-! ### x, o[i] = e -/
end Tg

set_option Elab.async false
set_option linter.all false
set_option maxRecDepth 100000
set_option maxHeartbeats 2000000
/-! TgRef: loops and comprehensions over what is walked in any way, while the heap changes. -/
namespace Tg
open PySem L2
section
variable {g : MG} {b : MS} {mi : Sl → AH → R IT} {it : IT} {ds : List D}
end
section
variable {g : MG} {tt : MT} {te : ME} {mi : Sl → AH → R IT} {vs : List Nat} {fin : List D → AH → R D} {s w : Sl} {A A1 : AH} {it : IT} {ds : List D}
end
/-! ### dicts -/
end Tg

set_option Elab.async false
set_option linter.all false
set_option maxRecDepth 100000
set_option maxHeartbeats 4000000
/-! TgExc: own exceptions whose __init__ says Base.__init__(self, x) and self.f = x: made, raised. -/
namespace Tg
open PySem PySem.Spec PyProof.Rows L2
/-- what the text must say of such a class -/
structure XC (K : PySem.W.Frag) (C : Addr) (B newId initId : String) (bmB : List Value) : Prop where
  F : ExcBaseFacts B newId initId bmB
  cls : ∃ nm q N bs bm sn sub ab col dd k0 k1 k2 k3 k5, K.lookup C = some (excClassObj nm q C N bs bm true sn sub ab col dd k0 k1 k2 k3 k5 newId) ∧
    (∀ Y : String, bm.contains (.type Y) = bmB.contains (.type Y)) ∧ (PySem.HandSPX.refsVE bm = true ∨ bm = PySem.ESX.exTail)
  sa : PySem.W.findIn K (.ref C) "__setattr__" = some (some (.builtin "object.__setattr__"))
  exC : PySem.W.subIn K (.ref C) (.type "BaseException") = some true
  tyC : PySem.W.typeIn K (.ref C) = some (.type "type")
  kC : PySem.W.keepIn K (.ref C) = true
section
variable {X : Cx} {pins : List (Addr × Obj)} {σ : L2.St} {H : Hp} {s : Shared} {a C : Addr} {f : Str} {y : V} {u : Value} {E : Value → Shared → Prop} {A : Around} {B newId initId : String} {bmB : List Value}
/-- Base.__init__(self, ..): nothing of it is told -/
theorem xinit {us : List Value} {Q : Value → Shared → Prop} (T : XC X.K C B newId initId bmB) (I : Inv X pins σ H s) (e : H a = some (exo a C none)) (few : us.length ≤ sizeLine) (go : ∀ s', Inv X pins σ H s' → Q .none s') :
    wpAny (model X.prog X.w) A (call (.builtin initId) (.ref a :: us)) Q E s := by
  obtain ⟨nm, q, N, bs, bm, sn, sub, ab, col, dd, k0, k1, k2, k3, k5, there, same, _⟩ := T.cls
  obtain ⟨t1, ho⟩ := exo_at I.hok e
  obtain ⟨hp, g, d, t, os⟩ := s
  refine wpAny_call (PySem.HandSPX.init_base T.F same (I.kIn _ _ there) ho few fun h' t2 kept now => ?_)
  have J := I.write (t' := t) (x := a) (e := a) (o := exo a C none) (by rw [e]; exact True.intro) (.inl rfl) kept ⟨_, now⟩ (exo_ok now)
  have again : upd H a (exo a C none) = H := by
    funext b
    by_cases z : b = a
    · rw [z, upd_same, e]
    · rw [upd_ne z]
  rw [again] at J
  exact go _ J
/-- self.f = y, the one field -/
theorem xstore {Q : Unit → Shared → Prop} (T : XC X.K C B newId initId bmB) (I : Inv X pins σ H s) (e : H a = some (exo a C none)) (no : PySem.W.findIn X.K (.ref C) f = some none) (ry : RelV y u)
    (go : ∀ dx s', H dx = none → dx ≠ a → Inv X pins σ (upd (upd H dx (exd dx [(f, y)])) a (exo a C (some dx))) s' → Q () s') : wpAny (model X.prog X.w) A (setAttr (.ref a) f u) Q E s := by
  obtain ⟨nm, q, N, bs, bm, sn, sub, ab, col, dd, k0, k1, k2, k3, k5, there, _, tail⟩ := T.cls
  have data : PySem.W.clsIn X.K C = some { name := nm, bases := bs, mro := .ref C :: bm, ns := N, qualname := q, hasDict := true, slotNames := sn, subclasses := sub, abstract := ab, collection := col, hasDel := false } := by
    unfold PySem.W.clsIn
    rw [there] <;> rfl
  obtain ⟨t1, ho⟩ := exo_at I.hok e
  obtain ⟨hp, g, d, t, os⟩ := s
  refine PySem.W.set_plain I.kIn (ox := { cls := .ref C, dict := none, data := .fields #[.ref t1, .none, .none, .none, .bool false, .none] }) (od := none) ⟨ho, rfl, rfl, trivial⟩ T.sa ?_
  have main : ∀ (h' : Heap) (tk' : Nat) (dx : Addr), (∀ b o, b ≠ a → hp.get? b = some o → h'.get? b = some o) → hp.objs.size ≤ dx → dx ≠ a → h'.get? a = some { cls := .ref C, dict := some dx, data := .fields #[.ref t1, .none, .none, .none, .bool false, .none] } →
      h'.Ns1 dx (fun y => if y = f then some u else none) → Q () ⟨h', g, d, tk', os⟩ := fun h' tk' dx kept big ne now ns => by
    have fresh : H dx = none := I.hok.fresh big
    have apart : ∀ {b : Addr} {o : Obj}, hp.get? b = some o → b ≠ dx := fun {b o} z => Nat.ne_of_lt (Nat.lt_of_lt_of_le (Heap.lt_size z) big)
    have other : ∀ {b : Addr}, H b = none → b ≠ a := fun {b} z w => by
      rw [w, e] at z
      cases z
    have U : Un X.fs [] H (upd (upd H dx (exd dx [(f, y)])) a (exo a C (some dx))) hp h' := by
      refine ⟨fun b o z1 z2 _ _ => kept b o (other z2) z1, fun b o z1 z2 _ _ => ⟨o.slots, kept b o (other z2) z1⟩, fun b o z1 z2 _ => ?_, fun b o z1 _ => ?_, fun b xs z1 => ?_, fun b o v z1 => ?_, fun b ps z1 => ?_⟩
      · rw [upd_ne (other z2), upd_ne (apart z1)]
        exact z2
      · by_cases q : b = a
        · exact ⟨_, by rw [q]; exact now⟩
        · exact ⟨o, kept b o q z1⟩
      · rw [upd_ne (at_ne e z1 exo_tup), upd_ne (ne_of_none z1 fresh)]
        exact z1
      · rw [upd_ne (at_ne e z1 exo_frz), upd_ne (ne_of_none z1 fresh)]
        exact z1
      · refine ⟨#[], ?_⟩
        rw [upd_ne (at_ne e z1 exo_tbl), upd_ne (ne_of_none z1 fresh), z1]
        simp
    refine go dx _ fresh ne (I.un (t' := tk') U fun b o z1 => ?_)
    by_cases q : b = a
    · subst q
      rw [upd_same] at z1
      cases z1
      exact exo_ok now
    · rw [upd_ne q] at z1
      by_cases q2 : b = dx
      · subst q2
        rw [upd_same] at z1
        cases z1
        exact exd_ok ns (relO_put (fs := []) ry fun _ => True.intro)
      · rw [upd_ne q2] at z1
        refine (I.hok b o z1).stay (fun c v z2 z3 => kept c v ?_ z3) (fun c z2 => ?_) fun c xs z2 => ?_
        · rcases z2 with z2 | z2
          · rw [z2]
            exact q
          · exact at_ne e z2 exo_own
        · rw [upd_ne (at_ne e z2 exo_own), upd_ne (ne_of_none z2 fresh)]
          exact z2
        · rw [upd_ne (at_ne e z2 exo_tup), upd_ne (ne_of_none z2 fresh)]
          exact z2
  rcases tail with tail | tail
  · exact PySem.HandSPX.exc_osa I.kIn ho data (show PySem.HandSPX.refsVE (.ref C :: bm) = true from tail) rfl no fun h' tk' dx z1 z2 z3 z4 z5 => main h' tk' dx z1 z2 z3 z4 z5
  · subst tail
    exact PySem.ESX.osa_new I.kIn ho data rfl rfl no fun h' tk' dx z1 z2 z3 z4 z5 => main h' tk' dx z1 z2 z3 z4 z5
end
/-! ### the base's __init__, by its name -/
/-- the name x is a class (built-in or own) whose __init__ is the built-in initId -/
def XBase (K : PySem.W.Frag) (mg : Str → Option Value) (x : Str) (initId : String) : Prop :=
  (mg x = none ∧ ∃ T : String, bootBuiltins x = some (.type T) ∧ x ≠ "__name__" ∧ typeOf (.type T) = pure (.type "type") ∧ Manifest.isStub T = false ∧ PySem.W.findCls K (.type T) (.type "type") "__init__" = some (.val (.builtin initId)) ∧ PySem.W.handedIn (.builtin initId) = true) ∨
  ∃ C, mg x = some (.ref C) ∧ PySem.W.readsIn K C (.type "type") = true ∧ PySem.W.specialIn K (.ref C) "__getattribute__" = some (some (.builtin "type.__getattribute__")) ∧ PySem.W.findCls K (.ref C) (.type "type") "__init__" = some (.val (.builtin initId)) ∧ PySem.W.handedIn (.builtin initId) = true
def tXin (ta : TA) (P : Addr → Hp → Prop) : TE := fun σ H Q => ta σ H fun vs H1 => ∃ (a : Addr) (ws : List V), vs = .ref a :: ws ∧ ws.length ≤ 1000 ∧ P a H1 ∧ Q .non H1
section
variable {X : Cx} {o e : Expr} {es : List Expr} {to te : TE} {ta : TA} {f x : Str} {p p' p1 p2 pos : Pos} {C : Addr} {B newId initId : String} {bmB : List Value}
theorem pe_xin {pl : Sem Bool} (hb : XBase X.K X.mg x initId) (T : XC X.K C B newId initId bmB) (hg : Gl X x) (ha : PA X (e :: es) ta) (hdb : (x == ("__debug__" : Str)) = false := by decide)
    (hc : eval (.Call (.Attribute (.Name x p1) "__init__" p2) (e :: es) [] pos) X.env = (do
      let ov ← eval (.Name x p1) X.env
      standAt p2.atName
      let (f, first) ← holding [ov] (getMethod ov "__init__" pl)
      callWith pos f first (backTo pos (starEach (e :: es) X.env)) (backToKw pos (keywordEach [] X.env))) := by rfl)
    (he : starEach (e :: es) X.env = (false, eval e X.env) :: starEach es X.env := by rfl) (hpl : (backTo pos (starEach es X.env)).any (·.1) = false := by rfl) :
    PE X (.Call (.Attribute (.Name x p1) "__init__" p2) (e :: es) [] pos) (tXin ta fun a H1 => H1 a = some (exo a C none)) := by
  refine ⟨fun pins s σ H Q I h => ?_⟩
  have fin : ∀ s0, Inv X pins σ H s0 → wpAny (model X.prog X.w) X.A (callWith pos (Value.builtin initId) [] (backTo pos (starEach (e :: es) X.env)) []) (EP X pins σ Q) X.xe s0 := fun s0 I0 => by
    refine PyProof.Rows.callWith_method1 (thn (ha.run pos pins s0 σ H _ I0 h) fun us s1 ⟨vs, H1, I1, r1, a, ws, ev, few, ea, q⟩ => ?_) he hpl
    subst ev
    cases r1 with
    | @cons _ u0 _ ur ra rw' =>
      obtain rfl : u0 = Value.ref a := ra
      have hlen : ur.length ≤ sizeLine := by
        rw [← Paired.length rw', sizeLine_eq]
        exact Nat.le_trans few (by decide)
      exact xinit T I1 ea hlen fun s' J => ⟨.non, H1, J, rfl, q⟩
  rcases hb with ⟨hm, Ty, h1, h2, h3, h4, h5, h6⟩ | ⟨D, hm, h1, h2, h3, h4⟩
  · refine PySem.W.methodCall_KW (ld_blt I hg hm h1 ?_ h2 hdb) hc
    obtain ⟨m, fr⟩ := I.fr
    exact PySem.W.method_type fr I.ok.mod.kin h3 h4 h5 h6 (fin _ (I.tok _))
  · refine PySem.W.methodCall_KW (ld_glob I hg hm ?_ hdb) hc
    exact PySem.W.method_cls I.kIn h2 (PySem.W.cls_value I.kIn h1 h3 h4 (fin _ (I.tok _)))
def tXst (f : Str) (to te : TE) (C : Addr) : TS := fun D σ H => te σ H fun y H1 => to σ H1 fun v H2 => ∃ a, v = .ref a ∧ H2 a = some (exo a C none) ∧ ∀ dx, H2 dx = none → dx ≠ a → D.nx σ (upd (upd H2 dx (exd dx [(f, y)])) a (exo a C (some dx)))
theorem ps_xst (T : XC X.K C B newId initId bmB) (no : PySem.W.findIn X.K (.ref C) f = some none) (ho : PE X o to) (he : PE X e te) (hs : swapsWith e (some (.Attribute o f p')) pos.line X.env = pure false := by rfl) : PS X (.Assign [.Attribute o f p'] e pos) (tXst f to te C) := by
  refine ⟨fun pins s σ H D I h => ?_⟩
  refine plainObj_wpAny_Assign_Attribute (thn (he.run pins s σ H _ I h) fun v s1 ⟨y, H1, I1, r1, q1⟩ => thn (ho.run pins s1 σ H1 _ I1 q1) fun w s2 ⟨z, H2, I2, r2, a, ez, ea, q⟩ => ?_) hs
  subst ez
  obtain rfl : w = Value.ref a := r2
  exact xstore T I2 ea no r1 fun dx s' n ne J => ⟨σ, _, J, q dx n ne⟩
end
/-! ### __init__ as a def, the class called -/
/-- __init__(self, y) of a class at C: self.f = y -/
def spX (f : Str) (C : Addr) : Sp := fun vs H Q _ => ∃ (a : Addr) (y : V), vs = [.ref a, y] ∧ H a = some (exo a C none) ∧ ∀ dx, H dx = none → dx ≠ a → Q .non (upd (upd H dx (exd dx [(f, y)])) a (exo a C (some dx)))
def tMkX (C : Addr) (f : Str) (ta : TA) : L2.St → Hp → XK → Prop := fun σ H Q => ta σ H fun vs H1 => ∃ y, vs = [y] ∧ ∀ d, H1 d = none → Q (.ref C) (some d) (upd H1 d (.xd [(f, y)]))
section
variable {X : Cx} {e : Expr} {ta : TA} {p pos : Pos} {B newId initId : String} {bmB : List Value}
theorem pmk_x {x f : Str} {C fI : Addr} {k : Nat} {fd : FuncData} {ps : List Str} (T : XC X.K C B newId initId bmB) (iC : PySem.W.findIn X.K (.ref C) "__init__" = some (some (.ref fI))) (tI : PySem.W.typeIn X.K (.ref fI) = some (.type "function"))
    (F1 : FnOk X.prog X.w X.K X.mg X.base (L2.CX X.prog X.w) k fI fd ps (spX f C)) (hr : Room (k + 1) X.A) (hb : Binds X.K fd ps []) (hg : Gl X x) (hm : X.mg x = some (.ref C)) (ha : PA X [e] ta)
    (hdb : (x == ("__debug__" : Str)) = false := by decide) (he : starEach (e :: []) X.env = (false, eval e X.env) :: starEach [] X.env := by rfl) (hpl : (backTo pos (starEach [] X.env)).any (·.1) = false := by rfl) :
    PMk X (.Call (.Name x p) [e] [] pos) (tMkX C f ta) := by
  intro pins s σ H Q I h
  obtain ⟨nm, q, N, bs, bm, sn, sub, ab, col, dd, k0, k1, k2, k3, k5, there, same, tail⟩ := T.cls
  refine wpAny_Call_Name_kw (ld_glob I hg hm ?_ hdb)
  refine PySem.W.callWith_K (h₀ := X.base) I.ok.mod.kin T.kC (thn (ha.run pos pins s σ H _ I h) fun us s1 ⟨vs, H1, I1, r1, y, ev, q1⟩ => ⟨I1.kIn, ?_⟩) he hpl
  subst ev
  show wpAny _ _ (call (.ref C) us) _ _ _
  have ulen : us.length = 1 := (Paired.length r1).symm
  obtain ⟨hp, g, dr, tk, os⟩ := s1
  have big : hp.objs.size ≤ hp.objs.size + 1 := Nat.le_succ _
  have fresh : H1 (hp.objs.size + 1) = none := I1.hok.fresh big
  have old : ∀ b o, hp.get? b = some o → ((hp.push (PySem.W.kdv_tup us)).push (PySem.HandSPX.excO C hp.objs.size)).get? b = some o := fun b o z => Heap.get?_push_of_some _ (Heap.get?_push_of_some _ z)
  have new : ((hp.push (PySem.W.kdv_tup us)).push (PySem.HandSPX.excO C hp.objs.size)).get? (hp.objs.size + 1) = some (PySem.HandSPX.excO C hp.objs.size) := by heap_get
  have I2 : Inv X pins σ (upd H1 (hp.objs.size + 1) (exo (hp.objs.size + 1) C none)) ⟨(hp.push (PySem.W.kdv_tup us)).push (PySem.HandSPX.excO C hp.objs.size), g, dr, tk, os⟩ :=
    I1.laid (t' := tk) (a := hp.objs.size + 1) (o := exo (hp.objs.size + 1) C none) (h' := (hp.push (PySem.W.kdv_tup us)).push (PySem.HandSPX.excO C hp.objs.size)) old big (exo_ok new)
  have r2 : Vals (V.ref (hp.objs.size + 1) :: [y]) (Value.ref (hp.objs.size + 1) :: us) := .cons rfl r1
  have hq : spX f C (.ref (hp.objs.size + 1) :: [y]) (upd H1 (hp.objs.size + 1) (exo (hp.objs.size + 1) C none)) (fun v H2 => v = .non ∧ ∃ (d : Addr) (fs : List (Str × V)), H2 (hp.objs.size + 1) = some (exo (hp.objs.size + 1) C (some d)) ∧ H2 d = some (exd d fs) ∧ H1 d = none ∧ Q (.ref C) (some d) (upd (del H2 (hp.objs.size + 1)) d (.xd fs))) (fun _ _ _ => False) := by
    refine ⟨_, y, rfl, upd_same, fun dx n ne => ⟨rfl, dx, [(f, y)], upd_same, ?_, ?_, ?_⟩⟩
    · rw [upd_ne ne, upd_same]
    · rw [upd_ne ne] at n
      exact n
    · have n' : H1 dx = none := by
        rw [upd_ne ne] at n
        exact n
      have := q1 dx n'
      have same' : upd (del (upd (upd (upd H1 (hp.objs.size + 1) (exo (hp.objs.size + 1) C none)) dx (exd dx [(f, y)])) (hp.objs.size + 1) (exo (hp.objs.size + 1) C (some dx))) (hp.objs.size + 1)) dx (.xd [(f, y)]) = upd H1 dx (.xd [(f, y)]) := by
        funext b
        by_cases z : b = dx
        · rw [z, upd_same, upd_same]
        · rw [upd_ne z, upd_ne z]
          by_cases z2 : b = hp.objs.size + 1
          · rw [z2, del_same, fresh]
          · rw [del_ne z2, upd_ne z2, upd_ne z, upd_ne z2]
      rw [same']
      exact this
  have hl : (Value.ref (hp.objs.size + 1) :: us ++ []).length = ps.length := by
    have z := F1.len _ _ _ _ hq
    rw [List.append_nil, List.length_cons, ulen, ← z]
    rfl
  have hbinds := hb _ (Value.ref (hp.objs.size + 1) :: us) I2.kIn hl
  rw [List.append_nil] at hbinds
  refine wpAny_call (PySem.HandSPX.call_own T.F same (I1.kIn _ _ there) (PySem.W.looks_findIn I1.kIn iC) (fun self => PySem.W.bind_fn I1.kIn self tI) (by rw [ulen, sizeLine_eq]; decide)
    (codeAny_mono (F1.run _ X.stack _ _ ⟨Value.ref (hp.objs.size + 1) :: us, []⟩ _ _ _ (fun _ _ _ => False) (hr.make C us []) (I2.env0.make C us []) hbinds r2 hq) fun r s' hq' => ?_))
  cases r with
  | error er => exact passL pins σ _ _ er s' I2 hq'
  | ok fl =>
    cases fl with
    | ret u =>
      obtain ⟨v, H2, os2, bare2, un2, hok2, rv, ev, d, fs, ea, ed, hd1, q2⟩ := hq'
      subst ev
      obtain ⟨h2, g2, d2, t2, os'⟩ := s'
      exact ⟨rv, mk_end (raises_own T.exC T.tyC) I1 big old un2 hok2 os2 bare2 ea ed hd1 q2⟩
    | next => exact False.elim hq'
    | brk => exact False.elim hq'
    | cont => exact False.elim hq'
end
end Tg

set_option Elab.async false
set_option linter.all false
set_option maxRecDepth 100000
set_option maxHeartbeats 4000000
/-! TgRaise: raise C(e), try .. except C as n, C.m(self, ..). -/
namespace Tg
open PySem PySem.Spec PyProof.Rows L2
/-! ### raise -/
/-- what the text says of the class named c, whose __init__(self, p) keeps p in f -/
def TX (K : PySem.W.Frag) (mg : Str → Option Value) (c b f qual : Str) (st : Stmt) (ps : List Str) : Prop :=
  ∃ (C fI : Addr) (fd : FuncData) (B newId initId : String) (bmB : List Value), Fun K "__init__" qual st fI fd ∧ mg c = some (.ref C) ∧ XC K C B newId initId bmB ∧ PySem.W.findIn K (.ref C) "__init__" = some (some (.ref fI)) ∧
    PySem.W.typeIn K (.ref fI) = some (.type "function") ∧ Binds K fd ps [] ∧ XBase K mg b initId ∧ PySem.W.findIn K (.ref C) f = some none
/-- .. and of a class that is made so -/
def Xmk (P : Program) (w : World) (K : PySem.W.Frag) (mg : Str → Option Value) (base : Heap) (c f : Str) (k : Nat) : Prop :=
  ∃ (C fI : Addr) (fd : FuncData) (ps : List Str) (B newId initId : String) (bmB : List Value), FnOk P w K mg base (L2.CX P w) k fI fd ps (spX f C) ∧ mg c = some (.ref C) ∧ XC K C B newId initId bmB ∧
    PySem.W.findIn K (.ref C) "__init__" = some (some (.ref fI)) ∧ PySem.W.typeIn K (.ref fI) = some (.type "function") ∧ Binds K fd ps []
section
variable {P : Program} {w : World} {K : PySem.W.Frag} {mg : Str → Option Value} {base : Heap}
theorem xmk_of {c b f qual p : Str} {st : Stmt} {k : Nat} (T : TX K mg c b f qual st ["self", p]) (S : FnScope ["self", p] ["self", p] (defScope st))
    (h : ∀ (C : Addr) (B newId initId : String) (bmB : List Value) (fI : Addr) (cdv : Value) (A : Around) (outer : List Env) (s : Shared) (H : Hp) (E : XK), XC K C B newId initId bmB → XBase K mg b initId → PySem.W.findIn K (.ref C) f = some none →
      PSs (CxT P w K mg base ["self", p] qual st fI cdv A outer s H E) (defBody st) (tSeq (tDrop (tXin (tCons (tVar 0) (tCons (tVar 1) tNil)) fun a H1 => H1 a = some (exo a C none))) (tXst f (tVar 0) (tVar 1) C))) :
    Xmk P w K mg base c f (k + 1) := by
  obtain ⟨C, fI, fd, B, newId, initId, bmB, F, hm, xc, iC, tI, hb, hx, no⟩ := T
  refine ⟨C, fI, fd, ["self", p], B, newId, initId, bmB, ?_, hm, xc, iC, tI, hb⟩
  refine F.okX S (fun vs H Q E ⟨a, y, e, _⟩ => by rw [e]; rfl) fun cdv A outer s H vs Q E hr hsp => ?_
  obtain ⟨a, y, rfl, ea, q⟩ := hsp
  refine ⟨_, h C B newId initId bmB fI cdv A outer s H E xc hx no, ?_⟩
  exact ⟨.ref a, rfl, y, rfl, a, [y], rfl, Nat.le_of_lt_succ (by decide : 1 < 1001), ea, y, rfl, .ref a, rfl, a, rfl, ea, fun dx n ne => q dx n ne⟩
end
def mRaise (c f : Str) (me : ME) : MS := fun s A => (me s A).thenS s fun d A1 => .exc ⟨c, some [(f, d)]⟩ s A1
section
variable {X : Cx} {Wx : WX} {e : Expr} {te : TE} {me : ME} {c f : Str} {p pos pos2 : Pos} {j k : Nat}
theorem sraise (hc : X.calm = true) (d : Xmk X.prog X.w X.K X.mg X.base c f k) (hr : Room j X.A) (hk : k + 1 ≤ j) (tk : Takes X Wx) (h : SE X Wx e te me) (hg : Gl X c := by rfl) (hdb : (c == ("__debug__" : Str)) = false := by decide)
    (he : starEach (e :: []) X.env = (false, eval e X.env) :: starEach [] X.env := by rfl) (hpl : (backTo pos (starEach [] X.env)).any (·.1) = false := by rfl) :
    SS X Wx (.Raise (some (.Call (.Name c p) [e] [] pos)) none pos2) (fun _ σ H => tMkX (clA X.mg c) f (tCons te tNil) σ H fun cls d H' => Wx cls d σ H') (mRaise c f me) := by
  obtain ⟨C, fI, fd, ps, B, newId, initId, bmB, F, hm, xc, iC, tI, hb⟩ := d
  have eC : clA X.mg c = C := clA_of hm
  rw [eC]
  refine ⟨ps_raise hc tk (pmk_x xc iC tI F (hr.mono hk) hb hg hm (pa_cons h.pe pa_nil he) hdb he hpl), fun W σ s A H De kk sr z => ?_⟩
  refine h.sim W σ s A H _ kk sr (PostS.bind (rel := Rep X.K) sr z fun d A1 v W1 H1 e1 k1 r1 z1 => ⟨v, rfl, fun dd n => ?_⟩)
  obtain ⟨k2, e2⟩ := k1.aside n (.xd [(f, v)])
  exact z1 W1 σ _ _ _ e2 k2 (sr.le e1.le) ⟨by rw [eC], dd, [(f, v)], rfl, upd_same, rfl, ⟨v, [], rfl, r1, rfl⟩, k1.notF n, k1.notm n⟩
end
/-! ### try -/
theorem xrep_ext {K : PySem.W.Frag} {mg : Str → Option Value} {W W' : Wd} {x : XV} {c : Value} {d : Option Addr} {H H' : Hp} (h : XRep K mg W x c d H) (e : Ext W H W' H') : XRep K mg W' x c d H' := by
  obtain ⟨h1, h2⟩ := h
  refine ⟨h1, ?_⟩
  cases hx : x.fs with
  | none =>
    rw [hx] at h2
    exact h2
  | some fs =>
    rw [hx] at h2
    obtain ⟨dd, vs, q1, q2, q3, q4, q5, q6⟩ := h2
    refine ⟨dd, vs, q1, e.out dd _ q2 (fun _ q => nomatch q) q6, q3, q4.le e.le, ?_, fun q => ?_⟩
    · cases z : W'.F dd with
      | none => rfl
      | some o =>
        have := e.fF dd o z q5
        rw [this] at q2
        cases q2
    · have := e.fm dd q q6
      rw [this] at q2
      cases q2
theorem SlR.len {K : PySem.W.Frag} {W : Wd} : ∀ {s : Sl} {σ : L2.St}, SlR K W s σ → σ.length = s.length
  | [], _, h => by
    rw [show _ = [] from h]
    rfl
  | none :: s, _, h => by
    obtain ⟨o, r, rfl, h2⟩ := h
    rw [List.length_cons, List.length_cons, SlR.len h2]
  | some _ :: s, _, h => by
    obtain ⟨v, r, rfl, _, h2⟩ := h
    rw [List.length_cons, List.length_cons, SlR.len h2]
section
variable {X : Cx} {Wx : WX} {c n f c0 w : Str} {i : Nat} {body : List Stmt} {o h : Expr} {np pos pos' p1 p2 p3 p4 p5 p6 p7 : Pos} {j1 j2 : Nat} {tb : WX → TS} {to th : TE} {mb : MS} {mo mh : ME} {cs : List Str}
end
/-! ### C.m(self, ..) by the class's name -/
section
variable {X : Cx} {Wx : WX} {e : Expr} {es : List Expr} {t : TA} {ma : MA} {g : List D → AH → R D} {c m : Str} {p1 p2 pos : Pos} {j k : Nat}
end
end Tg

set_option Elab.async false
set_option linter.all false
set_option maxRecDepth 100000
set_option maxHeartbeats 2000000
/-! TgHeir: defs by another name, dicts that change made of pairs; what the end asks of exceptions and classes. -/
namespace Tg
open PySem PySem.Spec PyProof.Rows L2
/-! ### a def that the module knows by another name -/
def TFA (K : PySem.W.Frag) (mg : Str → Option Value) (y x qual : Str) (st : Stmt) (ps : List Str) : Prop := ∃ f fd, Fun K x qual st f fd ∧ mg y = some (.ref f) ∧ Binds K fd ps []
theorem dfn_ofA {P : Program} {w : World} {K : PySem.W.Frag} {mg : Str → Option Value} {base : Heap} {y x qual : Str} {st : Stmt} {N ps : List Str} {k : Nat} {m : MS} (T : TFA K mg y x qual st ps) (S : FnScope N ps (defScope st)) (h : Body P w K mg base N qual st k m) : Dfn P w K mg base y (k + 1) (mFun ps.length N.length m) := by
  obtain ⟨f, fd, F, hm, hb⟩ := T
  exact ⟨f, fd, ps, fnok_of F S h, hm, F.kp, hb⟩
/-! ### dict(pairs), a new one that will change -/
/-! ### the end -/
section
variable {K : PySem.W.Frag} {h : Heap} {mg : Str → Option Value} {c x qual : Str} {st : Stmt} {ps : List Str} {C f : Addr} {oc kV doc pm cdv ct : Value} {od an : Option Addr} {osl : Array (Option Value)}
theorem tfa_of {y : Str} (X : K.In h) (G : h.Ns mainGlobals mg) (a : PySem.W.nsIn K mainGlobals y = some (some (.ref f))) (l : K.lookup f = some ⟨oc, od, .func (PySem.W.fnOf x qual (defArgs st) (defBody st) (defScope st) .none kV doc pm an cdv ct), osl⟩)
    (cc : PySem.W.codeIn K cdv qual = true) (k : PySem.W.keepIn K (.ref f) = true) (b : HB x qual st ps) : TFA K mg y x qual st ps :=
  ⟨f, _, fun_mk l cc k, PySem.W.mg_of X G a, (fun_mk l cc k).binds b⟩
theorem xb_own {b : Str} {D : Addr} {initId : String} (X : K.In h) (G : h.Ns mainGlobals mg) (a : PySem.W.nsIn K mainGlobals b = some (some (.ref D))) (r : PySem.W.readsIn K D (.type "type") = true) (g : PySem.W.specialIn K (.ref D) "__getattribute__" = some (some (.builtin "type.__getattribute__")))
    (h5 : PySem.W.findCls K (.ref D) (.type "type") "__init__" = some (.val (.builtin initId))) (h6 : PySem.W.handedIn (.builtin initId) = true) : XBase K mg b initId := .inr ⟨D, PySem.W.mg_of X G a, r, g, h5, h6⟩
theorem tx_of {b fl : Str} {fI N : Addr} {B newId initId : String} {bmB bs bm sub : List Value} {nm q : Str} {sn : List Str} {ab : Bool} {col : Option Bool} {dd : Option Addr} {k0 k1 k2 k3 k5 : Option Value} (F : ExcBaseFacts B newId initId bmB) (X : K.In h) (G : h.Ns mainGlobals mg)
    (a : PySem.W.nsIn K mainGlobals c = some (some (.ref C))) (xl : K.lookup C = some (excClassObj nm q C N bs bm true sn sub ab col dd k0 k1 k2 k3 k5 newId)) (same : ∀ Y : String, bm.contains (.type Y) = bmB.contains (.type Y)) (tail : PySem.HandSPX.refsVE bm = true ∨ bm = PySem.ESX.exTail)
    (sa : PySem.W.findIn K (.ref C) "__setattr__" = some (some (.builtin "object.__setattr__"))) (eC : PySem.W.subIn K (.ref C) (.type "BaseException") = some true) (tC : PySem.W.typeIn K (.ref C) = some (.type "type")) (kC : PySem.W.keepIn K (.ref C) = true)
    (m : PySem.W.findIn K (.ref C) "__init__" = some (some (.ref fI))) (ti : PySem.W.typeIn K (.ref fI) = some (.type "function")) (l : K.lookup fI = some ⟨oc, od, .func (PySem.W.fnOf "__init__" qual (defArgs st) (defBody st) (defScope st) .none kV doc pm an cdv ct), osl⟩) (cc : PySem.W.codeIn K cdv qual = true)
    (k : PySem.W.keepIn K (.ref fI) = true) (hb : HB "__init__" qual st ps) (xb : XBase K mg b initId) (no : PySem.W.findIn K (.ref C) fl = some none) : TX K mg c b fl qual st ps :=
  ⟨C, fI, _, B, newId, initId, bmB, fun_mk l cc k, PySem.W.mg_of X G a, ⟨F, ⟨nm, q, N, bs, bm, sn, sub, ab, col, dd, k0, k1, k2, k3, k5, xl, same, tail⟩, sa, eC, tC, kC⟩, m, ti, (fun_mk l cc k).binds hb, xb, no⟩
end
end Tg

set_option Elab.async false
set_option linter.all false
set_option maxRecDepth 100000
/-! TgXev: mirrors run on; what is raised goes by. -/
namespace Tg
open PySem L2
section
variable {x : XV} {A A1 A2 A3 : AH} {s s2 : Sl}
@[simp] theorem kB1_x {f : D → D → AH → R D} {b : ME} : kB1 f b s (.exc x A) = .exc x A := rfl
@[simp] theorem kB2_x {f : D → D → AH → R D} {d : D} : kB2 f d (.exc x A) = .exc x A := rfl
@[simp] theorem kC1_x {m : MA} : kC1 m s (.exc x A) = .exc x A := rfl
@[simp] theorem kC2_x {d : D} : kC2 d (.exc x A) = .exc x A := rfl
@[simp] theorem kCall_x {g : List D → AH → R D} : kCall g (.exc x A) = .exc x A := rfl
@[simp] theorem kMe3_x {g : List D → AH → R D} {n : Nat} : kMe3 g n (.exc x A) = .exc x A := rfl
@[simp] theorem kMe1_x {c m : Str} {g : List D → AH → R D} {ma : MA} : kMe1 c m g ma s (.exc x A) = .exc x A := rfl
@[simp] theorem kRet_x : kRet s (.exc x A) = .exc x s A := rfl
@[simp] theorem kAsg_x {i : Nat} : kAsg i s (.exc x A) = .exc x s A := rfl
@[simp] theorem kDrop_x : kDrop s (.exc x A) = .exc x s A := rfl
@[simp] theorem kSub1_x {a b : ME} : kSub1 a b s (.exc x A) = .exc x s A := rfl
@[simp] theorem kFS1_x {cs : List Str} {f : Str} {a : ME} : kFS1 cs f a s (.exc x A) = .exc x s A := rfl
@[simp] theorem finS_x : finS (.exc x s A) = .exc x A := rfl
theorem bin_ok {f : D → D → AH → R D} {a b : ME} {u v z : D} (ha : a s A = .ok u A1) (hb : b s A1 = .ok v A2) (hf : f u v A2 = .ok z A3) : mBin f a b s A = .ok z A3 := by
  rw [e_bin, ha, kB1_0, hb, kB2_0, hf]
theorem cons_ok {e : ME} {m : MA} {d : D} {ds : List D} (h1 : e s A = .ok d A1) (h2 : m s A1 = .ok ds A2) : mCons e m s A = .ok (d :: ds) A2 := by
  rw [e_cons, h1, kC1_0, h2, kC2_0]
theorem call_ok {g : List D → AH → R D} {ma : MA} {ds : List D} {d : D} (ha : ma s A = .ok ds A1) (hg : g ds A1 = .ok d A2) : mCall g ma s A = .ok d A2 := by
  rw [e_call, ha, kCall_0, hg]
theorem call_x {g : List D → AH → R D} {ma : MA} {ds : List D} (ha : ma s A = .ok ds A1) (hg : g ds A1 = .exc x A2) : mCall g ma s A = .exc x A2 := by
  rw [e_call, ha, kCall_0, hg]
theorem asg_ok {me : ME} {i : Nat} {d : D} (h : me s A = .ok d A1) : mAsg me (gmN i) s A = .nx (s.set i (some d)) A1 := by
  rw [e_asgN, h, kAsg_0]
theorem drop_ok {me : ME} {d : D} (h : me s A = .ok d A1) : mDrop me s A = .nx s A1 := by
  rw [e_drop, h, kDrop_0]
theorem drop_x {me : ME} (h : me s A = .exc x A1) : mDrop me s A = .exc x s A1 := by
  rw [e_drop, h, kDrop_x]
theorem ret_ok {me : ME} {d : D} (h : me s A = .ok d A1) : mRet me s A = .rt d A1 := by
  rw [e_ret, h, kRet_0]
theorem seq_nx {m n : MS} {r : RS} (h : m s A = .nx s2 A1) (h2 : n s2 A1 = r) : mSeq m n s A = r := by
  rw [e_seq, h, RS.nxt_nx, h2]
theorem seq_x {m n : MS} (h : m s A = .exc x s2 A1) : mSeq m n s A = .exc x s2 A1 := by
  rw [e_seq, h, RS.nxt_exc]
theorem ifS_f {t : ME} {a b : MS} {r : RS} (h : t s A = .ok (.bl false) A1) (h2 : b s A1 = r) : mIfS (mTb t) a b s A = r := by
  rw [e_ifS, e_tb, h, kT_0, kIf_1, h2]
end
end Tg

set_option Elab.async false
set_option linter.all false
set_option maxRecDepth 100000
set_option maxHeartbeats 2000000
/-! TgNev: tests that are never asked. -/
namespace Tg
open PySem L2
/-! ### dict(d), a new one that will change -/
end Tg

set_option Elab.async false
set_option linter.all false
set_option maxRecDepth 100000
set_option maxHeartbeats 2000000
/-! TgOwn: things of one owner on the heap; what stays. -/
namespace Tg
open PySem L2
structure Own {ι : Type} (A : AH) (base : Nat) (ρ : ι → Nat) (c : ι → AO) : Prop where
  at_ : ∀ i, A[ρ i]? = some (c i)
  inj : ∀ i j, ρ i = ρ j → i = j
  ge : ∀ i, base ≤ ρ i
def Fr (base : Nat) (A A' : AH) : Prop := A.length ≤ A'.length ∧ ∀ i, i < base → A'[i]? = A[i]?
theorem Fr.refl {b : Nat} {A : AH} : Fr b A A := ⟨Nat.le_refl _, fun _ _ => rfl⟩
theorem Fr.trans {b : Nat} {A B C : AH} (h : Fr b A B) (g : Fr b B C) : Fr b A C := ⟨Nat.le_trans h.1 g.1, fun i hi => (g.2 i hi).trans (h.2 i hi)⟩
theorem Fr.mono {a b : Nat} {A B : AH} (h : Fr b A B) (l : a ≤ b) : Fr a A B := ⟨h.1, fun i hi => h.2 i (Nat.lt_of_lt_of_le hi l)⟩
theorem Fr.app {b : Nat} {A : AH} (l : AH) (h : b ≤ A.length) : Fr b A (A ++ l) := ⟨by rw [List.length_append]; omega, fun i hi => List.getElem?_append_left (Nat.lt_of_lt_of_le hi h)⟩
theorem Fr.set {b n : Nat} {A : AH} {o : AO} (h : b ≤ n) : Fr b A (A.set n o) := ⟨by rw [List.length_set]; exact Nat.le_refl _, fun i hi => List.getElem?_set_ne (by omega)⟩
section
variable {ι : Type} {A A' : AH} {base : Nat} {ρ : ι → Nat} {c c' : ι → AO}
theorem Own.lt (O : Own A base ρ c) (i : ι) : ρ i < A.length := (List.getElem?_eq_some_iff.mp (O.at_ i)).1
theorem Own.le (O : Own A base ρ c) (i : ι) : base ≤ A.length := Nat.le_of_lt (Nat.lt_of_le_of_lt (O.ge i) (O.lt i))
theorem Own.set [DecidableEq ι] (O : Own A base ρ c) (k : ι) {x : AO} (h : ∀ i, c' i = if i = k then x else c i) : Own (A.set (ρ k) x) base ρ c' :=
  ⟨fun i => by
    rw [h i]
    by_cases e : i = k
    · subst e
      rw [if_pos rfl, List.getElem?_set_self (O.lt i)]
    · rw [if_neg e, List.getElem?_set_ne (fun q => e (O.inj _ _ q).symm), O.at_ i], O.inj, O.ge⟩
theorem Own.new [DecidableEq ι] {ρ' : ι → Nat} (O : Own A base ρ c) (k : ι) {x : AO} (hr : ∀ i, ρ' i = if i = k then A.length else ρ i) (h : ∀ i, c' i = if i = k then x else c i) : Own (A ++ [x]) base ρ' c' := by
  refine ⟨fun i => ?_, fun i j e => ?_, fun i => ?_⟩
  · rw [h i, hr i]
    by_cases e : i = k
    · rw [if_pos e, if_pos e, List.getElem?_concat_length]
    · rw [if_neg e, if_neg e, List.getElem?_append_left (O.lt i), O.at_ i]
  · rw [hr i, hr j] at e
    by_cases p : i = k
    · by_cases q : j = k
      · rw [p, q]
      · rw [if_pos p, if_neg q] at e
        have := O.lt j
        omega
    · by_cases q : j = k
      · rw [if_neg p, if_pos q] at e
        have := O.lt i
        omega
      · rw [if_neg p, if_neg q] at e
        exact O.inj _ _ e
  · rw [hr i]
    by_cases e : i = k
    · rw [if_pos e]
      exact O.le k
    · rw [if_neg e]
      exact O.ge i
/-- what others do leaves it -/
theorem Own.fr {b : Nat} (O : Own A base ρ c) (h : ∀ i, A'[ρ i]? = A[ρ i]?) : Own A' base ρ c := ⟨fun i => by rw [h i, O.at_ i], O.inj, O.ge⟩
end
/-! ### mirrors run on -/
theorem mt_ok {T : String} {f : D → List D → AH → R D} {o : ME} {ma : MA} {s : Sl} {A A1 A2 A3 : AH} {x d : D} {ds : List D} (ho : o s A = .ok x A1) (ty : tyMD A1 T x = true) (ha : ma s A1 = .ok ds A2) (hf : f x ds A2 = .ok d A3) : mMt T f o ma s A = .ok d A3 := by
  rw [e_mt, ho, kM1_0, if_pos ty, ha, kM2_0, hf]
theorem fin_of {m : MS} {s : Sl} {A A1 : AH} {d : D} (h : m s A = .rt d A1) : finS (m s A) = .ok d A1 := by rw [h, finS_rt]
theorem fin_x {m : MS} {s s2 : Sl} {A A1 : AH} {x : XV} (h : m s A = .exc x s2 A1) : finS (m s A) = .exc x A1 := by rw [h, finS_x]
theorem int_b {b : Bool} {A : AH} : intD [.bl b] A = .ok (.int (if b then 1 else 0)) A := rfl
theorem if_t {t : MT} {a b : ME} {s : Sl} {A A1 : AH} {r : R D} (h : t s A = .ok true A1) (h2 : a s A1 = r) : mIf t a b s A = r := by
  rw [e_if, h, kI_0, h2]
theorem if_f {t : MT} {a b : ME} {s : Sl} {A A1 : AH} {r : R D} (h : t s A = .ok false A1) (h2 : b s A1 = r) : mIf t a b s A = r := by
  rw [e_if, h, kI_1, h2]
theorem iS_t {t : MT} {a b : MS} {s : Sl} {A A1 : AH} {r : RS} (h : t s A = .ok true A1) (h2 : a s A1 = r) : mIfS t a b s A = r := by
  rw [e_ifS, h, kIf_0, h2]
theorem iS_f {t : MT} {a b : MS} {s : Sl} {A A1 : AH} {r : RS} (h : t s A = .ok false A1) (h2 : b s A1 = r) : mIfS t a b s A = r := by
  rw [e_ifS, h, kIf_1, h2]
theorem tb_ok {a : ME} {b : Bool} {s : Sl} {A A1 : AH} (h : a s A = .ok (.bl b) A1) : mTb a s A = .ok b A1 := by
  rw [e_tb, h, kT_0]
theorem or_t {a b : MT} {s : Sl} {A A1 : AH} (h : a s A = .ok true A1) : mOr a b s A = .ok true A1 := by
  rw [e_or, h, kOr_0]
theorem or_f {a b : MT} {s : Sl} {A A1 : AH} {r : R Bool} (h : a s A = .ok false A1) (h2 : b s A1 = r) : mOr a b s A = r := by
  rw [e_or, h, kOr_1, h2]
theorem not_ok {a : MT} {b : Bool} {s : Sl} {A A1 : AH} (h : a s A = .ok b A1) : mNot a s A = .ok (!b) A1 := by
  rw [e_not, h, kN_0]
theorem tup_ok {a : MA} {s : Sl} {A A1 : AH} {ds : List D} (h : a s A = .ok ds A1) (hl : ds.length ≤ 16777216 := by exact Nat.le_of_ble_eq_true rfl) : mTup a s A = .ok (.tup ds) A1 := by
  rw [e_tup, h, kTup_0, if_pos hl]
theorem lst_ok {a : MA} {s : Sl} {A A1 : AH} {ds : List D} (h : a s A = .ok ds A1) (hl : ds.length ≤ 16777216 := by exact Nat.le_of_ble_eq_true rfl) : mLst a s A = .ok (.lst ds) A1 := by
  rw [e_lst, h, kLst_0, if_pos hl]
theorem app_at {n : Nat} {d : D} {ds : List D} {A : AH} (hA : A[n]? = some (.lst ds)) (h : ds.length < 16777216) : appD (.ref n) [d] A = .ok .non (A.set n (.lst (ds ++ [d]))) := by
  rw [app_ref, hA]
  dsimp only
  rw [if_pos h]
theorem ty_ref {n : Nat} {ds : List D} {A : AH} (hA : A[n]? = some (.lst ds)) : tyMD A "list" (.ref n) = true := by simp [tyMD, seq_ref, hA]
theorem flat1 {d : D} : ∀ k : Nat, (List.replicate k [d]).flatten = List.replicate k d
  | 0 => rfl
  | k + 1 => by
    rw [List.replicate_succ, List.replicate_succ, List.flatten_cons, flat1 k]
    rfl
theorem mulL {d : D} {k : Nat} {A : AH} (hk : k ≤ 1000) : mulD (.lst [d]) (.int (k : Int)) A = .ok (.lst (List.replicate k d)) A := by
  simp only [mulD, lstL]
  rw [Int.toNat_natCast, if_pos ⟨by omega, by omega, by rw [List.length_singleton]; omega⟩]
  unfold repD
  rw [flat1]
end Tg

set_option Elab.async false
set_option linter.all false
set_option maxRecDepth 100000
set_option maxHeartbeats 2000000
/-! TgSrl: sorted(a list of numbers), a list taken apart. -/
namespace Tg
open PySem L2
section
variable {K : PySem.W.Frag} {mg : Str → Option Value}
end
section
variable {X : Cx} {es : List Expr} {pos : Pos}
end
end Tg

set_option Elab.async false
set_option linter.all false
set_option maxRecDepth 100000
set_option maxHeartbeats 4000000
/-! TgTry: try .. except C as n: o.append(n.w); list(reversed(a list)); list(range(a, b, c)). -/
namespace Tg
open PySem PySem.Spec PyProof.Rows L2
section
variable {X : Cx} {Wx : WX} {c n w : Str} {i : Nat} {body : List Stmt} {o : Expr} {np ap cp pos pos' p3 p4 p6 : Pos} {tb : WX → TS} {to : TE} {mb : MS} {mo : ME}
end
/-! ### list(range(a, b, c)) -/
section
variable {X : Cx} {Wx : WX} {a b c : Expr} {ta : TA} {ma : MA} {p p2 pos pos2 : Pos}
end
/-! ### list(reversed(a list)) -/
section
variable {prog : Program} {w : World} {A : Around} {E : Value → Shared → Prop} {s : Shared}
end
section
variable {X : Cx} {Wx : WX} {e : Expr} {te : TE} {me : ME} {p p2 pos pos2 : Pos}
end
end Tg

set_option Elab.async false
set_option linter.all false
set_option maxRecDepth 100000
set_option maxHeartbeats 4000000
/-! TgVal: text not in d.values(), the values texts. -/
namespace Tg
open PySem PySem.Spec PyProof.Rows L2
section
variable {prog : Program} {w : World} {A : Around} {I : Addr} {fp wr : List Addr} {G : Array GenState → Array GenState → Prop} {n : Nat} {P : Nat → Value → Prop} {St : Nat → Shared → Prop} {R : Result → Shared → Prop}
end
section
variable {prog : Program} {w : World} {A : Around} {E : Value → Shared → Prop} {s : Shared}
end
section
variable {X : Cx} {a o : Expr} {ta td : TE} {pos apos mpos : Pos}
end
section
variable {X : Cx} {Wx : WX} {a o : Expr} {ta td : TE} {ma mo : ME} {pos apos mpos : Pos}
end

/-! ### the same, as a test -/
section
variable {P : Program} {w : World} {A : Around} {l r : Expr} {op : CmpOp} {env : Env} {pos : Pos} {whole : Sem Value} {E : Value → Shared → Prop} {s : Shared}
end
section
variable {X : Cx} {Wx : WX} {a b : Expr} {t : TE} {m : ME} {op : CmpOp} {pos : Pos}
end

/-! ### x, o[j], p[k] = e -/
end Tg

set_option Elab.async false
set_option linter.all false
set_option maxRecDepth 100000
set_option maxHeartbeats 2000000
/-! TgLck: a comprehension that walks a dict that changes elsewhere: locked meanwhile. -/
namespace Tg
open PySem PySem.Spec PyProof.Rows L2
def Wd.free (W : Wd) (a : Addr) : Wd := ⟨fun b => if b = a then none else W.F b, W.m⟩
theorem Wd.free_ne {W : Wd} {a b : Addr} (h : b ≠ a) : (W.free a).F b = W.F b := if_neg h
section
variable {K : PySem.W.Frag} {W : Wd} {a : Addr} {od : Obj} {ws : List (Key × V)}
theorem free_rd (h : W.F a = some (.frz od (.dK ws))) {b : Addr} {u : HO} (hu : ∀ kvs, u ≠ .dK kvs) (hf : ∀ o v, u ≠ .frz o v) (r : Rd W.F b u) : Rd (W.free a).F b u := by
  have n : b ≠ a := fun q => by
    subst q
    rcases r with r | ⟨o, r⟩
    · rw [h] at r
      exact hf _ _ (Option.some.inj r).symm
    · rw [h] at r
      cases r
      exact hu _ rfl
  rcases r with r | ⟨o, r⟩
  · exact .inl ((Wd.free_ne n).trans r)
  · exact .inr ⟨o, (Wd.free_ne n).trans r⟩
mutual
theorem Rep.free (h : W.F a = some (.frz od (.dK ws))) : ∀ {d : D} {v : V}, Rep K W d v → Rep K (W.free a) d v
  | .non, _, r => r
  | .bl _, _, r => r
  | .int _, _, r => r
  | .str _, _, r => r
  | .tup _, _, r => by
    obtain ⟨b, xs, e, s, rr⟩ := r
    exact ⟨b, xs, e, s.elim (fun z => .inl (free_rd h (fun _ q => nomatch q) (fun _ _ q => nomatch q) z)) .inr, Reps.free h rr⟩
  | .lst _, _, r => by
    obtain ⟨b, xs, e, s, rr⟩ := r
    have n : b ≠ a := fun q => by
      rw [q, h] at s
      cases s
    exact ⟨b, xs, e, (Wd.free_ne n).trans s, Reps.free h rr⟩
  | .dct _ _, _, r => by
    obtain ⟨b, xs, e, s, k, rr⟩ := r
    have n : b ≠ a := fun q => by
      rw [q, h] at s
      cases s
    exact ⟨b, xs, e, (Wd.free_ne n).trans s, k, Reps.free h rr⟩
  | .ref _, _, r => r
  | .scr _, _, r => by
    obtain ⟨b, e, s⟩ := r
    exact ⟨b, e, s.elim (fun z => .inl (free_rd h (fun _ q => nomatch q) (fun _ _ q => nomatch q) z)) .inr⟩
theorem Reps.free (h : W.F a = some (.frz od (.dK ws))) : ∀ {ds : List D} {vs : List V}, Reps K W ds vs → Reps K (W.free a) ds vs
  | [], _, r => r
  | _ :: _, _, r => by
    obtain ⟨v, r', e, h1, h2⟩ := r
    exact ⟨v, r', e, Rep.free h h1, Reps.free h h2⟩
end
theorem ObR.free {mg : Str → Option Value} (h : W.F a = some (.frz od (.dK ws))) : ∀ {o : AO} {u : Option HO}, ObR K mg W o u → ObR K mg (W.free a) o u
  | .lst _, _, z => by
    obtain ⟨xs, e, r⟩ := z
    exact ⟨xs, e, r.free h⟩
  | .dct _, _, z => by
    obtain ⟨xs, e, k, r⟩ := z
    exact ⟨xs, e, k, r.free h⟩
  | .ins _ _, _, z => by
    obtain ⟨dx, xs, e, k, r⟩ := z
    exact ⟨dx, xs, e, k, r.free h⟩
  | .lck _, _, z => by
    obtain ⟨dx, xs, e, k, r⟩ := z
    exact ⟨dx, xs, e, k, r.free h⟩
  | .lam, _, z => z
end
section
variable {K : PySem.W.Frag} {mg : Str → Option Value} {W : Wd} {A : AH} {H : Hp}
theorem Ok.inj (k : Ok K mg W A H) {n j : Nat} {a : Addr} (h : W.m[n]? = some a) (h' : W.m[j]? = some a) : n = j := by
  obtain ⟨h1, e1⟩ := List.getElem?_eq_some_iff.mp h
  obtain ⟨h2, e2⟩ := List.getElem?_eq_some_iff.mp h'
  rcases Nat.lt_trichotomy n j with z | z | z
  · exact absurd (e1.trans e2.symm) (List.pairwise_iff_getElem.mp k.nd n j h1 h2 z)
  · exact z
  · exact absurd (e2.trans e1.symm) (List.pairwise_iff_getElem.mp k.nd j n h2 h1 z)
end
section
variable {X : Cx} {Wx : WX} {e tg : Expr} {te : TE} {me : ME}
/-! ### what is read of a locked dict -/
end
section
variable {X : Cx} {Wx : WX} {a b : Expr} {ta tb : TE} {ma mb : ME} {pos : Pos}
end
end Tg

set_option Elab.async false
set_option linter.all false
set_option maxRecDepth 100000
set_option maxHeartbeats 2000000
/-! TgOver: raise C(e), C an own class without __init__ of its own: an exception without fields. -/
namespace Tg
open PySem PySem.Spec PyProof.Rows L2
/-- what the text says of such a class -/
def X0 (K : PySem.W.Frag) (mg : Str → Option Value) (c : Str) : Prop :=
  ∃ (C : Addr) (B newId initId : String) (bmB : List Value), mg c = some (.ref C) ∧ ExcBaseFacts B newId initId bmB ∧ PySem.W.excIn K C bmB newId = true ∧ PySem.W.keepIn K (.ref C) = true ∧
    PySem.W.subIn K (.ref C) (.type "BaseException") = some true ∧ PySem.W.typeIn K (.ref C) = some (.type "type")
def mRaise0 (c : Str) (me : ME) : MS := fun s A => (me s A).thenS s fun _ A1 => .exc ⟨c, none⟩ s A1
section
variable {X : Cx} {Wx : WX} {e : Expr} {te : TE} {me : ME} {c : Str} {p pos pos2 : Pos}
theorem sraise0 (hc : X.calm = true) (d : X0 X.K X.mg c) (tk : Takes X Wx) (h : SE X Wx e te me) (hg : Gl X c := by rfl) (hdb : (c == ("__debug__" : Str)) = false := by decide)
    (hs : starEach [e] X.env = (false, eval e X.env) :: starEach [] X.env := by rfl) :
    SS X Wx (.Raise (some (.Call (.Name c p) [e] [] pos)) none pos2) (fun _ σ H => te σ H fun _ H1 => Wx (.ref (clA X.mg c)) none σ H1) (mRaise0 c me) := by
  obtain ⟨C, B, newId, initId, bmB, hm, F, q, kC, h1, h2⟩ := d
  have eC : clA X.mg c = C := clA_of hm
  rw [eC]
  refine ⟨ps_raise hc tk (SkE.pmk_own1 F q hm kC (raises_own h1 h2) hg h.pe hs hdb), fun W σ s A H De kk sr z => ?_⟩
  refine h.sim W σ s A H _ kk sr (PostS.bind (rel := Rep X.K) sr z fun d A1 v W1 H1 e1 k1 r1 z1 => ?_)
  exact z1 W1 σ _ _ _ (Ext.refl _ _) k1 (sr.le e1.le) ⟨by rw [eC], rfl⟩
end
end Tg

set_option Elab.async false
set_option linter.all false
set_option maxRecDepth 100000
set_option maxHeartbeats 4000000
/-! TgHead: the small head: the top is run once in the kernel, and what it left is looked at there. -/
namespace Tg
open PySem PySem.Spec PyProof.Rows L2
/-- a fact about what the top left -/
abbrev Fc : Type := PySem.W.Frag → Bool
abbrev AlX : Type := He.Al × List (Option (List (Option (Str × Int))))
def obsX (fc : List Fc) (fn : List He.FnD) (ts : List (Str × List Str)) (K : PySem.W.Frag) : AlX :=
  (((fc.all fun f => f K) && (fn.all fun d => (He.Fa.code d.at_ d.qual).ok K), fn.map fun d => He.fnObs K d.at_), ts.map fun t => He.dicW K (He.ga K t.1))
def valX (fn : List He.FnD) (ts : List (Str × List Str)) (w : World) : AlX := ((true, fn.map He.FnD.val), ts.map fun t => some (He.keysIn w.params t.2))
def SaysX (fc : List Fc) (fn : List He.FnD) (ts : List (Str × List Str)) (w : World) (K : PySem.W.Frag) : Prop := obsX fc fn ts K = valX fn ts w
/-- what the module's names lead to, in four steps -/
def ledTo (g : Addr → Option Obj) (as : List Addr) : List Addr := as.flatMap fun a => match g a with
  | some o => He.refsO o
  | none => []
def asX (g : Addr → Option Obj) : List Addr :=
  let l1 := ledTo g [mainGlobals]
  let l2 := ledTo g l1
  let l3 := ledTo g l2
  mainGlobals :: cStatics :: (l1 ++ (l2 ++ (l3 ++ ledTo g l3)))
/-- a def that stands so -/
def FnX (K : PySem.W.Frag) (d : He.FnD) : Prop :=
  ∃ oc od osl kV doc pm an cdv ct, K.lookup (He.fAd K d.at_) = some ⟨oc, od, .func (PySem.W.fnOf d.name d.qual d.params d.body d.scope .none kV doc pm an cdv ct), osl⟩ ∧ PySem.W.codeIn K cdv d.qual = true
section
variable {fc : List Fc} {fn : List He.FnD} {ts : List (Str × List Str)} {w : World} {K : PySem.W.Frag}
theorem SaysX.fact (c : SaysX fc fn ts w K) (i : Nat) {f : Fc} (h : fc[i]? = some f) : f K = true := by
  have c1 : ((fc.all fun f => f K) && (fn.all fun d => (He.Fa.code d.at_ d.qual).ok K)) = true := congrArg (fun z : AlX => z.1.1) c
  exact List.all_eq_true.mp (Bool.and_eq_true_iff.mp c1).1 f (List.mem_of_getElem? h)
theorem SaysX.df (c : SaysX fc fn ts w K) (i : Nat) {d : He.FnD} (h : fn[i]? = some d) : FnX K d := by
  have c1 : ((fc.all fun f => f K) && (fn.all fun d => (He.Fa.code d.at_ d.qual).ok K)) = true := congrArg (fun z : AlX => z.1.1) c
  have c2 : (fn.map fun d => He.fnObs K d.at_) = fn.map He.FnD.val := congrArg (fun z : AlX => z.1.2) c
  have c3 : (fn.map fun d => He.fnObs K d.at_)[i]? = (fn.map He.FnD.val)[i]? := by rw [c2]
  rw [List.getElem?_map, List.getElem?_map, h] at c3
  exact He.fn_ok (Option.some.inj c3) (List.all_eq_true.mp (Bool.and_eq_true_iff.mp c1).2 d (List.mem_of_getElem? h))
theorem SaysX.tab (c : SaysX fc fn ts w K) (i : Nat) {t : Str × List Str} (h : ts[i]? = some t) : He.dicW K (He.ga K t.1) = some (He.keysIn w.params t.2) := by
  have c2 : (ts.map fun t => He.dicW K (He.ga K t.1)) = ts.map fun t => some (He.keysIn w.params t.2) := congrArg (fun z : AlX => z.2) c
  have c3 : (ts.map fun t => He.dicW K (He.ga K t.1))[i]? = (ts.map fun t => some (He.keysIn w.params t.2))[i]? := by rw [c2]
  rw [List.getElem?_map, List.getElem?_map, h] at c3
  exact Option.some.inj c3
end
/-! ### facts -/
def fa (a : He.Fa) : Fc := fun K => a.ok K
/-- a class's method stays -/
def kpm (c m : Str) : Fc := fun K => PySem.W.keepIn K (.ref (He.ma K (He.ga K c) m))
/-- a class whose functions are called by its name -/
def clr (c : Str) : Fc := fun K => PySem.W.readsIn K (He.ga K c) (.type "type") && He.eqO (PySem.W.specialIn K (.ref (He.ga K c)) "__getattribute__") (some (some (.builtin "type.__getattribute__")))
def excY (c f : Str) : Fc := fun K => He.eqO (PySem.W.findIn K (.ref (He.ga K c)) "__setattr__") (some (some (.builtin "object.__setattr__"))) && (decide (PySem.W.subIn K (.ref (He.ga K c)) (.type "BaseException") = some true) &&
  (decide (PySem.W.typeIn K (.ref (He.ga K c)) = some (.type "type")) && (PySem.W.keepIn K (.ref (He.ga K c)) && (He.eqO (PySem.W.findIn K (.ref (He.ga K c)) "__init__") (some (some (.ref (He.ma K (He.ga K c) "__init__")))) &&
  (decide (PySem.W.typeIn K (.ref (He.ma K (He.ga K c) "__init__")) = some (.type "function")) && He.eqO (PySem.W.findIn K (.ref (He.ga K c)) f) (some none))))))
def tupF (x : Str) (ds : List D) : Fc := fun K => tupAt K (He.ga K x) ds
def tabF (x : Str) (kvs : List (Str × Str)) : Fc := fun K => decide (dicT K (He.ga K x) = kvs.map some)
/-! ### what they give -/
section
variable {K : PySem.W.Frag} {h : Heap} {mg : Str → Option Value} {x y qual c f p : Str} {st : Stmt} {ps : List Str}
theorem tfH (X : K.In h) (G : h.Ns mainGlobals mg) (a : fa (.glo x) K = true) (d : FnX K ⟨(x, none), x, qual, defArgs st, defBody st, defScope st⟩) (k : fa (.keep x) K = true) (b : HB x qual st ps) : TF K mg x qual st ps := by
  obtain ⟨oc, od, osl, kV, doc, pm, an, cdv, ct, l, cc⟩ := d
  exact tf_of X G (He.eqO_ok a) l cc k b
theorem tfaH (X : K.In h) (G : h.Ns mainGlobals mg) (a : fa (.glo y) K = true) (d : FnX K ⟨(y, none), x, qual, defArgs st, defBody st, defScope st⟩) (k : fa (.keep y) K = true) (b : HB x qual st ps) : TFA K mg y x qual st ps := by
  obtain ⟨oc, od, osl, kV, doc, pm, an, cdv, ct, l, cc⟩ := d
  exact tfa_of X G (He.eqO_ok a) l cc k b
theorem tlH (X : K.In h) (G : h.Ns mainGlobals mg) (a : fa (.glo x) K = true) (d : FnX K ⟨(x, none), x, x, defArgs st, defBody st, defScope st⟩) (k : fa (.keep x) K = true) (b : HB x x st [p]) : TL K mg x st p := by
  obtain ⟨oc, od, osl, kV, doc, pm, an, cdv, ct, l, cc⟩ := d
  exact tl_of X G (He.eqO_ok a) l cc k b
theorem tiH (X : K.In h) (G : h.Ns mainGlobals mg) (a : fa (.glo c) K = true) (m : fa (.mkr c) K = true) (d : FnX K ⟨(c, some "__init__"), "__init__", qual, defArgs st, defBody st, defScope st⟩) (k : kpm c "__init__" K = true) (b : HB "__init__" qual st ps) : TI K mg c qual st ps := by
  obtain ⟨oc, od, osl, kV, doc, pm, an, cdv, ct, l, cc⟩ := d
  obtain ⟨m1, m2, m3, m4⟩ := He.mkr_ok m
  exact ti_of X G (He.eqO_ok a) m2 m3 l cc k b m1 m4
theorem intH {i : Int} (X : K.In h) (G : h.Ns mainGlobals mg) (a : fa (.int x i) K = true) : GDat K mg x (.int i) := by
  obtain ⟨t, e⟩ := He.int_ok X G a
  exact gint e
theorem strH {z : Str} (X : K.In h) (G : h.Ns mainGlobals mg) (a : fa (.str x z) K = true) : GDat K mg x (.str z) := by
  obtain ⟨t, e⟩ := He.str_ok X G a
  exact gstr e
theorem tupH {ds : List D} (X : K.In h) (G : h.Ns mainGlobals mg) (a : fa (.glo x) K = true) (t : tupF x ds K = true) : GDat K mg x (.tup ds) := gtupc (He.glo_ok X G a) t
theorem tabH {w : World} {ks : List Str} {kvs : List (Str × Str)} (X : K.In h) (G : h.Ns mainGlobals mg) (a : fa (.glo x) K = true) (d : He.dicW K (He.ga K x) = some (He.keysIn w.params ks)) (t : tabF x kvs K = true) : GTab K w mg x kvs := by
  obtain ⟨es, n, kd⟩ := He.dicW_ok d
  have e : es.toList.map entOf = kvs.map some := by
    have q : dicT K (He.ga K x) = kvs.map some := of_decide_eq_true t
    unfold dicT at q
    rw [kd.at_] at q
    exact q
  exact gtab_at (He.glo_ok X G a) kd.at_ kd.lit kd.low e
theorem noneH (X : K.In h) (G : h.Ns mainGlobals mg) (a : fa (.free x) K = true) : mg x = none := He.free_ok X G a
end
end Tg

set_option Elab.async false
set_option linter.all false
set_option maxRecDepth 100000
set_option maxHeartbeats 4000000
/-! TgHeadV: the small head for own classes over ValueError, whose __init__ calls an own base's. -/
namespace Tg
open PySem PySem.Spec PyProof.Rows L2
def excV (c : Str) (newId : String) : Fc := fun K => match K.lookup (He.ga K c) with
  | some ⟨.type "type", _, .cls cd, sl⟩ => (match cd.mro, sl.toList with
    | .ref C' :: bm, [_, _, _, _, some (.builtin n), _] => C' == He.ga K c && n == newId && !cd.hasDel && cd.hasDict && PySem.HandSPX.refsVE bm
    | _, _ => false)
  | _ => false
def clb (c initId : Str) (n : String) : Fc := fun K => match PySem.W.findCls K (.ref (He.ga K c)) (.type "type") initId with
  | some (.val (.builtin z)) => decide (z = n)
  | _ => false
section
variable {K : PySem.W.Frag} {h : Heap} {mg : Str → Option Value} {x y qual c f p : Str} {st : Stmt} {ps : List Str}
theorem excV_ok {newId : String} (q : excV c newId K = true) : ∃ nm qn N bs bm sn sub ab col dd k0 k1 k2 k3 k5, K.lookup (He.ga K c) = some (excClassObj nm qn (He.ga K c) N bs bm true sn sub ab col dd k0 k1 k2 k3 k5 newId) ∧ PySem.HandSPX.refsVE bm = true := by
  unfold excV at q
  split at q
  · rename_i dd cd sl ho
    split at q
    · rename_i C' bm k0 k1 k2 k3 n k5 hm hs
      simp only [Bool.and_eq_true, beq_iff_eq, Bool.not_eq_true'] at q
      obtain ⟨⟨⟨⟨q1, q2⟩, q3⟩, q4⟩, q5⟩ := q
      obtain ⟨nm, bs, mro, ns, qn, hd, sn, sub, ab, col, del⟩ := cd
      dsimp only at hm q3 q4
      subst hm q3 q4 q2
      rw [q1] at ho
      have hsl : sl = #[k0, k1, k2, k3, some (.builtin n), k5] := by
        obtain ⟨l⟩ := sl
        simp only at hs
        rw [hs]
      subst hsl
      exact ⟨nm, qn, ns, bs, bm, sn, sub, ab, col, dd, k0, k1, k2, k3, k5, ho, q5⟩
    · cases q
  · cases q
theorem clb_ok {m : Str} {n : String} (q : clb c m n K = true) : PySem.W.findCls K (.ref (He.ga K c)) (.type "type") m = some (.val (.builtin n)) := by
  unfold clb at q
  split at q
  · rename_i z e
    rw [e, of_decide_eq_true q]
  · cases q
theorem xbH {b : Str} {n : String} (X : K.In h) (G : h.Ns mainGlobals mg) (a : fa (.glo b) K = true) (r : clr b K = true) (z : clb b "__init__" n K = true) (hh : PySem.W.handedIn (.builtin n) = true) : XBase K mg b n := by
  obtain ⟨r1, r2⟩ := Bool.and_eq_true_iff.mp (show (_ && _) = true from r)
  exact xb_own X G (He.eqO_ok a) r1 (He.eqO_ok r2) (clb_ok z) hh
theorem txVH {b : Str} (X : K.In h) (G : h.Ns mainGlobals mg) (a : fa (.glo c) K = true) (e : excV c "ValueError.__new__" K = true) (z : excY c f K = true)
    (d : FnX K ⟨(c, some "__init__"), "__init__", qual, defArgs st, defBody st, defScope st⟩) (k : kpm c "__init__" K = true) (hb : HB "__init__" qual st ps) (xb : XBase K mg b "ValueError.__init__") : TX K mg c b f qual st ps := by
  obtain ⟨oc, od, osl, kV, doc, pm, an, cdv, ct, l, cc⟩ := d
  obtain ⟨nm, qn, N, bs, bm, sn, sub, ab, col, dd, k0, k1, k2, k3, k5, xl, hv⟩ := excV_ok e
  obtain ⟨z1, z⟩ := Bool.and_eq_true_iff.mp (show (_ && _) = true from z)
  obtain ⟨z2, z⟩ := Bool.and_eq_true_iff.mp z
  obtain ⟨z3, z⟩ := Bool.and_eq_true_iff.mp z
  obtain ⟨z4, z⟩ := Bool.and_eq_true_iff.mp z
  obtain ⟨z5, z⟩ := Bool.and_eq_true_iff.mp z
  obtain ⟨z6, z7⟩ := Bool.and_eq_true_iff.mp z
  exact tx_of PySem.F.excBase_ValueError X G (He.eqO_ok a) xl (fun Y => PySem.HandSPX.refsVE_contains Y _ hv) (.inl hv) (He.eqO_ok z1) (of_decide_eq_true z2) (of_decide_eq_true z3) z4 (He.eqO_ok z5) (of_decide_eq_true z6) l cc k hb xb (He.eqO_ok z7)
end
end Tg

set_option Elab.async false
set_option linter.all false
set_option maxRecDepth 100000
set_option maxHeartbeats 4000000
/-! TgLam: isinstance of a caught exception that has fields; list.count. -/
namespace Tg
open PySem PySem.Spec PyProof.Rows L2
section
variable {P : Program} {w : World} {Ar : Around} {Ex : Value → Shared → Prop} {st : Shared} {K : PySem.W.Frag} {a D : Addr} {oa : Obj} {od : Option Obj}
theorem found_class (z1 : PySem.W.hasDictIn K D = true) (z2 : PySem.W.findIn K (.ref D) "__class__" = some (some (.builtin "object.__class__")))
    (z3 : PySem.W.specialIn K (.builtin "object.__class__") "__get__" = some (some (.builtin "getset_descriptor.__get__"))) (z4 : PySem.W.takesIn K (.builtin "object.__class__") = some true) :
    PySem.W.findObj K D od "__class__" = some (.bind (.builtin "getset_descriptor.__get__") (.builtin "object.__class__")) := by
  obtain ⟨cd, hc, _⟩ := PySem.W.any_some z1
  unfold PySem.W.findObj
  rw [hc, Option.bind_some, z2]
  simp [z3, z4]
theorem class_at {R : Option Value → Shared → Prop} (X : ExcC K D) (ki : K.In st.heap) (J : PySem.W.InstAt st.heap a oa D od) (go : R (some (.ref D)) { st with toks := st.toks + 1 }) :
    wpAny (model P w) Ar (getAttr? (.ref a) "__class__") R Ex st := by
  have fnd := found_class (od := od) X.hd X.ha X.hn X.ht
  obtain ⟨hp, g, dr, tk, os⟩ := st
  have q0 := J.type (M := model P w)
  have q1 := PySem.W.looks_findIn (M := model P w) ki X.hg
  have q2 := PySem.W.looks_findIn (M := model P w) ki X.hk
  have q3 := PySem.W.looks_find (M := model P w) ki J fnd
  have q4 : PySem.W.Looks (model P w) hp (isInstance (.ref a) (.type "BaseException")) true := q0.andThen (PySem.W.looks_subIn ki X.hs)
  have y0 : (false && onTheHeap (Value.builtin "BaseException.__getattribute__")) = false :=
    rfl
  have y2 : (Value.builtin "BaseException.__getattribute__" == .builtin "object.__getattribute__") = false := by
    decide +kernel
  have y1 : (onTheHeap (Value.ref D) && Value.builtin "BaseException.__getattribute__" == .builtin "object.__getattribute__") = false := by
    rw [y2] <;> rfl
  unfold getAttr?
  unfold getAttrBy? getAttrBy
  refine wpAny_bind (wpAny_mkText (wpAny_bind (wpAny_attempt (wpAny_holding (wpAny_bind (q0.at (wpAny_bind (q1.at ?_))))))))
  show wpAny _ _ (if (onTheHeap (Value.ref D) && Value.builtin "BaseException.__getattribute__" == .builtin "object.__getattribute__") = true then _ else _) _ _ _
  rw [y1, if_neg Bool.false_ne_true]
  unfold getAttrByItsOwn
  unfold hookBefore
  refine wpAny_bind ?_
  rw [if_pos (show onTheHeap (.ref D) = true from rfl)]
  refine q2.at ?_
  refine wpAny_bind (wpAny_attempt ?_)
  refine wpAny_holding ?_
  unfold callGetattribute
  rw [y0, if_neg Bool.false_ne_true]
  unfold boundAndCalled
  rw [PySem.F.excAttr_ValueError.ga.bind (.ref a)]
  refine wpAny_bind (wpAny_pure ?_)
  show wpAny _ _ (call (.builtin "BaseException.__getattribute__") [.ref a, .str "__class__" tk]) _ _ _
  refine wpAny_call (codeAny_call_builtin PySem.F.excAttr_ValueError.ga.plain PySem.F.entry_bexc_ga ?_)
  refine @PySem.W.check_slot (model P w) _ _ ⟨hp, g, dr, tk + 1, os⟩ "BaseException.__getattribute__" "BaseException" "__getattribute__" (.ref a) [.str "__class__" tk] [] _ (by decide +kernel) (by decide +kernel) q4 (PySem.F.args_bexc_ga (.ref a) (.str "__class__" tk)) ?_
  unfold Builtin.«object.__getattribute__»
  refine wpAny_bind (wpAny_of_eq (a := ((Value.ref a : Value), [Value.str "__class__" tk])) (by first | rfl | (simp only [slotArgs]; rfl)) ?_)
  refine wpAny_bind (wpAny_pure (wpAny_bind (q0.at (wpAny_bind (q3.at ?_)))))
  show wpAny _ _ (holding [Value.builtin "object.__class__"] (call (.builtin "getset_descriptor.__get__") [.builtin "object.__class__", .ref a, .ref D]) >>= ret) _ _ _
  refine wpAny_bind (wpAny_holding (wpAny_call (PySem.W.class_get (s := ⟨hp, g, dr, tk + 1, os⟩) (ox := oa) (od := od) ki J X.hm ?_)))
  refine wpAny_pure ?_
  show wpAny _ _ (handedOut (.ref D)) _ _ _
  rw [PySem.W.handedOut_of (v := .ref D) rfl]
  first
    | exact wpAny_pure (wpAny_pure go)
    | exact wpAny_pure go
    | exact wpAny_pure (wpAny_bind (wpAny_pure (wpAny_pure go)))
theorem kitx_at (X : ExcC K D) : PySem.W.KitX K (.ref a) (.ref D) (fun h => PySem.W.InstAt h a oa D od) where
  ty := fun _ _ _ J => J.type
  it := fun _ _ ki _ => by
    obtain ⟨cd, hc, _⟩ := PySem.W.any_some X.hd
    unfold PySem.W.clsIn at hc
    split at hc
    · rename_i c1 d1 cd1 s1 lo
      intro Ar Q E s k q
      unfold isType
      unfold loadHead
      exact wpAny_bind (wpAny_loadPart (k _ _ (ki _ _ lo)) (wpAny_pure q))
    · cases hc
  ne := (PySem.W.handS_kitx_exc (x := a) (ox := oa) X.hg X.hk X.hs X.hd X.ha X.hn X.ht X.hm).ne
  ca := fun ki J go => class_at X ki J go
end
/-- isinstance(e, c), e the exception that the suite holds, with its own dict or none -/
def rIsX (K : PySem.W.Frag) (cls : Value) (d : Option Addr) (a : Addr) : List V → Hp → VK → Prop := fun xs H Q => ∃ (D : Addr) (c : V) (cv : Value) (b : Bool), cls = .ref D ∧ ExcC K D ∧ (∀ dd, d = some dd → ∃ fs, H dd = some (.xd fs)) ∧
  xs = [.ref a, c] ∧ (∀ u, RelV c u → u = cv) ∧ PySem.W.kitOne K (.ref D) cv = some b ∧ Q (.bl b) H
theorem call_isX {X : Cx} {a : Addr} {cls : Value} {d : Option Addr} {oe : Obj} {pn : List (Addr × Obj)} (hz : Zc cls d oe) (hf : ∃ vs, oe.data = .fields vs) : CallR (X.suite a ((a, oe) :: pn)) (.builtin "isinstance") (rIsX X.K cls d a) := by
  intro pins s σ H xs us Q I r ⟨D, c, cv, b, e1, C, e2, e3, e4, e5, q⟩
  subst e1 e3
  cases r with
  | cons rx rr =>
    cases rr with
    | cons rt rr =>
      cases rr
      cases rx
      cases e4 _ rt
      have pn1 := (I.pin (a, oe) (List.mem_append.mpr (.inl List.mem_cons_self))).1
      obtain ⟨vs, hv⟩ := hf
      obtain ⟨oc, odd, oda, osl⟩ := oe
      obtain ⟨h1, h2⟩ := hz
      dsimp only at h1 h2 hv
      subst h1 h2 hv
      cases odd with
      | none => exact PySem.W.kia_one (kitx_at (od := none) C) I.kIn ⟨pn1, rfl, rfl, trivial⟩ e5 (fun z => nomatch z) fun tk => ⟨.bl b, H, I.kept (t' := tk) fun _ _ z => z, rfl, q⟩
      | some dd =>
        obtain ⟨fs, hfs⟩ := e2 dd rfl
        obtain ⟨mA, ⟨o', es, ep, ho, _⟩, _⟩ := I.hok dd _ hfs
        exact PySem.W.kia_one (kitx_at (od := some o') C) I.kIn ⟨pn1, rfl, rfl, ho⟩ e5 (fun z => nomatch z) fun tk => ⟨.bl b, H, I.kept (t' := tk) fun _ _ z => z, rfl, q⟩
/-! ### list.count, flat items -/
def rCount (K : PySem.W.Frag) : V → List V → Hp → VK → Prop := fun x xs H Q => ∃ (a : Addr) (ys : List V) (y : V), x = V.ref a ∧ xs = [y] ∧ SqL K H a ys ∧ flatV y = true ∧ ys.all flatV = true ∧ Q (.int ((ys.countP fun z => eqV z y : Nat) : Int)) H
theorem count_flat {y : V} : ∀ {ys : List V} {us : List Value}, Vals ys us → ys.all flatV = true → us.countP (eqU y) = ys.countP fun z => eqV z y
  | _, _, .nil, _ => rfl
  | z :: ys, u :: us, .cons r t, f => by
    rw [List.all_cons, Bool.and_eq_true] at f
    rw [List.countP_cons, List.countP_cons, count_flat t f.2, eqU_of r f.1]
theorem mt_count {X : Cx} : MtR X "list.count" (rCount X.K) := by
  intro pins s σ H x xs v us Q I rx rxs ⟨a, ys, y, e1, e2, hs, fy, fys, q⟩
  subst e1 e2
  cases rx
  cases rxs with
  | cons ry rt =>
    rename_i uy ut
    cases rt
    obtain ⟨its, rv, ⟨⟨oc, dd, data, sl⟩, n, ho, c1, c2, c3⟩, _⟩ := I.list hs
    simp only at c1 c3
    subst c1 c3
    refine call_meets PySem.F.slot_list_count ⟨_, ho, rfl⟩ PySem.F.entry_list_count (PySem.F.args_list_count_2 _ _) (SeqAt.list_countAt a its.toArray n dd sl uy (eqU y)) ⟨ho, fun u' hu' => mem_eqAt ry fy rv fys u' (by simpa using hu'), ?_⟩
    refine ⟨.int _, H, I.tok _, ⟨_, rfl⟩, ?_⟩
    rw [show its.toArray.toList = its from rfl, count_flat rv fys]
    exact q
end Tg

set_option Elab.async false
set_option linter.all false
set_option maxRecDepth 100000
set_option maxHeartbeats 4000000
/-! TgWordF: _law_word(lambda: e): what is raised, told by its class. -/
namespace Tg
open PySem PySem.Spec PyProof.Rows L2
abbrev wCls : List Str := ["BadProgram", "BadWord", "BadRooms", "BadFuel", "BadCell", "Over", "BadText"]
/-- what is told of an exception -/
def wordX (x : XV) : Option D :=
  if x.c = "BadProgram" then (x.fs.bind fun fs => fs.lookup ("row" : Str)).map fun v => .tup [.str "program", v]
  else if x.c = "BadWord" then (x.fs.bind fun fs => fs.lookup ("place" : Str)).map fun v => .tup [.str "word", v]
  else if x.c = "BadText" then (x.fs.bind fun fs => fs.lookup ("line" : Str)).map fun v => .tup [.str "text", v]
  else if x.c = "BadRooms" then some (.tup [.str "rooms", .int 0])
  else if x.c = "BadFuel" then some (.tup [.str "fuel", .int 0])
  else if x.c = "BadCell" then some (.tup [.str "cell", .int 0])
  else if x.c = "Over" then some (.tup [.str "over", .int 0])
  else none
/-- the same, with what is not raised -/
def wordR : R D → R D
  | .ok _ A => .ok .non A
  | .exc x A => (match wordX x with
    | some d => .ok d A
    | none => .bad)
  | .bad => .bad
/-- what the classes must say -/
structure WordC (K : PySem.W.Frag) (mg : Str → Option Value) : Prop where
  tag : PySem.W.Frag → True := fun _ => trivial
  cls : ∃ T, mg "TagError" = some (.ref T) ∧ ∀ c ∈ wCls, ∃ C, mg c = some (.ref C) ∧ ExcC K C ∧ PySem.W.exmOne K (.ref C) (.ref T) = some true ∧ (∀ c' ∈ wCls, PySem.W.kitOne K (.ref C) (.ref (clA mg c')) = some (decide (c = c'))) ∧
    PySem.W.kitOne K (.ref C) (.type "ValueError") = some true ∧ PySem.W.findIn K (.ref C) "row" = some none ∧ PySem.W.findIn K (.ref C) "place" = some none ∧ PySem.W.findIn K (.ref C) "line" = some none
section
variable (K : PySem.W.Frag) (mg : Str → Option Value) (cls : Value) (d : Option Addr) (a : Addr)
def tIs (v : V) : TE := tCB (rIsX K cls d a) (tCons (tVar 1) (tCons (tC v) tNil))
def tIsC (c : Str) : TE := tIs K cls d a (.ref (clA mg c))
def tH1 : TS := tAsg (tLst (tCons (tIsC K mg cls d a "BadProgram") (tCons (tIsC K mg cls d a "BadWord") (tCons (tIsC K mg cls d a "BadRooms") (tCons (tIsC K mg cls d a "BadFuel") tNil))))) (gName 2)
def tH2 : TS := tAsg (tOp rCat (tVar 2) (tLst (tCons (tIsC K mg cls d a "BadCell") (tCons (tIsC K mg cls d a "Over") (tCons (tIsC K mg cls d a "BadText") tNil))))) (gName 2)
def tH3 : TS := tIfS (tOr (tTest (tOp rNe (tBM K "list" (rCount K) (tVar 2) (tCons (tC (.bl true)) tNil)) (tC (.int 1)))) (tNot (tB (tIs K cls d a (.ty "ValueError"))))) (tRet (tTup (tCons (tC (.str "other")) (tCons (tC (.int 0)) tNil)))) tNext
def tH4 : TS := tAsg (tOp (rIxL K) (tLst (tCons (tC (.str "program")) (tCons (tC (.str "word")) (tCons (tC (.str "rooms")) (tCons (tC (.str "fuel")) (tCons (tC (.str "cell")) (tCons (tC (.str "over")) (tCons (tC (.str "text")) tNil))))))))
  (tBM K "list" (rIndex K) (tVar 2) (tCons (tC (.bl true)) tNil))) (gName 3)
def tHf (c f : Str) : TE := tXf a cls d (clA mg c) f (tVar 1)
def tH5 (w c f : Str) : TS := tIfS (tTest (tOp rEq (tVar 3) (tC (.str w)))) (tRet (tTup (tCons (tVar 3) (tCons (tHf mg cls d a c f) tNil)))) tNext
def tH7 : TS := tRet (tTup (tCons (tVar 3) (tCons (tIf (tTest (tOp rEq (tVar 3) (tC (.str "text")))) (tHf mg cls d a "BadText" "line") (tC (.int 0))) tNil)))
def tHand : TS := tSeq (tH1 K mg cls d a) (tSeq (tH2 K mg cls d a) (tSeq (tH3 K cls d a) (tSeq (tH4 K) (tSeq (tH5 mg cls d a "word" "BadWord" "place") (tSeq (tH5 mg cls d a "program" "BadProgram" "row") (tH7 mg cls d a))))))
end
/-- which word a class has -/
def wName (c : Str) : Str := if c = "BadProgram" then "program" else if c = "BadWord" then "word" else if c = "BadRooms" then "rooms" else if c = "BadFuel" then "fuel" else if c = "BadCell" then "cell" else if c = "Over" then "over" else "text"
section
variable {K : PySem.W.Frag} {mg : Str → Option Value} {cls : Value} {d : Option Addr} {a D : Addr} {σ : L2.St} {H : Hp} {Q : VK}
theorem is_ok {v : V} {cv : Value} {b : Bool} (hc : cls = .ref D) (C : ExcC K D) (hd : ∀ dd, d = some dd → ∃ fs, H dd = some (.xd fs)) (h1 : σ[1]? = some (some (.ref a))) (hv : ∀ u, RelV v u → u = cv) (hk : PySem.W.kitOne K (.ref D) cv = some b) (q : Q (.bl b) H) : tIs K cls d a v σ H Q :=
  ⟨.ref a, h1, D, v, cv, b, hc, C, hd, rfl, hv, hk, q⟩
end
section
variable {K : PySem.W.Frag} {mg : Str → Option Value} {W : Wd} {A : AH} {H : Hp}
theorem hand14 (Wc : WordC K mg) (k : Ok K mg W A H) {c : Str} {d : Option Addr} (hc : c ∈ wCls) (hd : ∀ dd, d = some dd → ∃ fs, H dd = some (.xd fs)) {a : Addr} {σ : L2.St} (h1 : σ[1]? = some (some (.ref a))) (hl : σ.length = 4) {De : Ends} {u : TS}
    (z : ∀ H' σ', Ext W H W H' → Ok K mg W A H' → σ'[1]? = some (some (.ref a)) → σ'[3]? = some (some (.str (wName c))) → u De σ' H') :
    tSeq (tH1 K mg (.ref (clA mg c)) d a) (tSeq (tH2 K mg (.ref (clA mg c)) d a) (tSeq (tH3 K (.ref (clA mg c)) d a) (tSeq (tH4 K) u))) De σ H := by
  obtain ⟨T, hT, hall⟩ := Wc.cls
  obtain ⟨C, hC, xc, _, kit, kitV, _⟩ := hall c hc
  have eC : clA mg c = C := clA_of hC
  rw [eC]
  have isC : ∀ {H1 : Hp} {σ1 : L2.St} {Q : VK} (c' : Str), c' ∈ wCls → (∀ b o, H b = some o → H1 b = some o) → σ1[1]? = some (some (.ref a)) → Q (.bl (decide (c = c'))) H1 → tIsC K mg (.ref C) d a c' σ1 H1 Q := fun {H1 σ1 Q} c' hc' kp hs q =>
    is_ok rfl xc (fun dd e => by
      obtain ⟨fs, hf⟩ := hd dd e
      exact ⟨fs, kp _ _ hf⟩) hs (fun _ r => r) (kit c' hc') q
  have up : ∀ {H1 : Hp} {p : Addr} {o : HO}, H1 p = none → (∀ b o, H b = some o → H1 b = some o) → ∀ b u, H b = some u → upd H1 p o b = some u := fun {H1 p o} hp kp b u e => by
    rw [upd_ne (fun z => by rw [z] at e; rw [kp _ _ e] at hp; cases hp)]
    exact kp _ _ e
  have i0 : ∀ b o, H b = some o → H b = some o := fun _ _ h => h
  -- the kinds
  refine isC _ (by decide) i0 h1 (isC _ (by decide) i0 h1 (isC _ (by decide) i0 h1 (isC _ (by decide) i0 h1 ⟨by rw [sizeLine_eq]; exact Nat.le_of_ble_eq_true rfl, fun p1 n1 => ?_⟩)))
  obtain ⟨k1, e1⟩ := k.aside n1 (.lst [.bl (decide (c = "BadProgram")), .bl (decide (c = "BadWord")), .bl (decide (c = "BadRooms")), .bl (decide (c = "BadFuel"))])
  have u1 := up (o := .lst [.bl (decide (c = "BadProgram")), .bl (decide (c = "BadWord")), .bl (decide (c = "BadRooms")), .bl (decide (c = "BadFuel"))]) n1 i0
  have s1 : (σ.set 2 (some (.ref p1)))[1]? = some (some (.ref a)) := by rw [List.getElem?_set_ne (by decide)]; exact h1
  refine ⟨.ref p1, List.getElem?_set_self (by rw [hl]; decide), ?_⟩
  refine isC _ (by decide) u1 s1 (isC _ (by decide) u1 s1 (isC _ (by decide) u1 s1 ⟨by rw [sizeLine_eq]; exact Nat.le_of_ble_eq_true rfl, fun p2 n2 => ?_⟩))
  obtain ⟨k2, e2⟩ := k1.aside n2 (.lst [.bl (decide (c = "BadCell")), .bl (decide (c = "Over")), .bl (decide (c = "BadText"))])
  have u2 := up (o := .lst [.bl (decide (c = "BadCell")), .bl (decide (c = "Over")), .bl (decide (c = "BadText"))]) n2 u1
  have ne21 : p1 ≠ p2 := fun q => by
    rw [← q, upd_same] at n2
    cases n2
  refine ⟨p1, p2, _, _, rfl, rfl, by rw [upd_ne ne21, upd_same], upd_same, by rw [sizeLine_eq]; exact Nat.le_of_ble_eq_true rfl, fun p3 n3 => ?_⟩
  obtain ⟨k3, e3⟩ := k2.aside n3 (.lst ([.bl (decide (c = "BadProgram")), .bl (decide (c = "BadWord")), .bl (decide (c = "BadRooms")), .bl (decide (c = "BadFuel"))] ++ [.bl (decide (c = "BadCell")), .bl (decide (c = "Over")), .bl (decide (c = "BadText"))]))
  have u3 := up (o := .lst ([.bl (decide (c = "BadProgram")), .bl (decide (c = "BadWord")), .bl (decide (c = "BadRooms")), .bl (decide (c = "BadFuel"))] ++ [.bl (decide (c = "BadCell")), .bl (decide (c = "Over")), .bl (decide (c = "BadText"))])) n3 u2
  generalize hH3 : upd (upd (upd H p1 _) p2 _) p3 _ = H3 at k3 e3 u3
  have at3 : H3 p3 = some (.lst ([.bl (decide (c = "BadProgram")), .bl (decide (c = "BadWord")), .bl (decide (c = "BadRooms")), .bl (decide (c = "BadFuel"))] ++ [.bl (decide (c = "BadCell")), .bl (decide (c = "Over")), .bl (decide (c = "BadText"))])) := by
    rw [← hH3, upd_same]
  have l2 : (σ.set 2 (some (.ref p1))).length = 4 := by rw [List.length_set]; exact hl
  have s3 : ((σ.set 2 (some (.ref p1))).set 2 (some (.ref p3)))[1]? = some (some (.ref a)) := by rw [List.getElem?_set_ne (by decide)]; exact s1
  have s32 : ((σ.set 2 (some (.ref p1))).set 2 (some (.ref p3)))[2]? = some (some (.ref p3)) := List.getElem?_set_self (by rw [l2]; decide)
  have l3 : ((σ.set 2 (some (.ref p1))).set 2 (some (.ref p3))).length = 4 := by rw [List.length_set]; exact l2
  show tSeq (tH3 K (.ref C) d a) (tSeq (tH4 K) u) De ((σ.set 2 (some (.ref p1))).set 2 (some (.ref p3))) H3
  generalize ((σ.set 2 (some (.ref p1))).set 2 (some (.ref p3))) = σ3 at s3 s32 l3
  -- one of them
  refine ⟨.ref p3, s32, .inl ⟨rfl, _, .inl (.inl at3)⟩, p3, _, .bl true, rfl, rfl, .inl (.inl at3), rfl, rfl, ?_⟩
  refine ⟨rfl, _, rfl, ?_⟩
  have hcnt : decide (V.int ((([.bl (decide (c = "BadProgram")), .bl (decide (c = "BadWord")), .bl (decide (c = "BadRooms")), .bl (decide (c = "BadFuel"))] ++ [.bl (decide (c = "BadCell")), .bl (decide (c = "Over")), .bl (decide (c = "BadText"))] : List V).countP (fun z => eqV z (.bl true)) : Nat) : Int) = V.int 1) = true := by
    have q : ∀ c ∈ wCls, (([.bl (decide (c = "BadProgram")), .bl (decide (c = "BadWord")), .bl (decide (c = "BadRooms")), .bl (decide (c = "BadFuel"))] ++ [.bl (decide (c = "BadCell")), .bl (decide (c = "Over")), .bl (decide (c = "BadText"))] : List V).countP (fun z => eqV z (.bl true))) = 1 := by decide +kernel
    rw [q c hc]
    rfl
  rw [hcnt]
  refine is_ok rfl xc (fun dd e => by
    obtain ⟨fs, hf⟩ := hd dd e
    exact ⟨fs, u3 _ _ hf⟩) s3 (fun _ r => r) kitV ⟨true, rfl, ?_⟩
  -- its word
  refine ⟨by rw [sizeLine_eq]; decide, fun p4 n4 => ?_⟩
  obtain ⟨k4, e4⟩ := k3.aside n4 (.lst [.str "program", .str "word", .str "rooms", .str "fuel", .str "cell", .str "over", .str "text"])
  have ne43 : p3 ≠ p4 := fun q => by
    rw [← q, at3] at n4
    cases n4
  have at34 : upd H3 p4 (.lst [.str "program", .str "word", .str "rooms", .str "fuel", .str "cell", .str "over", .str "text"]) p3 = _ := (upd_ne ne43).trans at3
  refine ⟨.ref p3, s32, .inl ⟨rfl, _, .inl (.inl at34)⟩, ?_⟩
  have fin : ∀ j : Nat, [V.str "program", .str "word", .str "rooms", .str "fuel", .str "cell", .str "over", .str "text"][j]? = some (.str (wName c)) →
      rIxL K (.ref p4) (.int (j : Nat)) (upd H3 p4 (.lst [.str "program", .str "word", .str "rooms", .str "fuel", .str "cell", .str "over", .str "text"])) fun x H1 => gName 3 x σ3 H1 (u De) := fun j hj => by
    refine ⟨p4, _, (j : Nat), .str (wName c), rfl, rfl, .inl (.inl upd_same), ?_, z _ _ ((e1.trans e2).trans (e3.trans e4)) k4 ?_ (List.getElem?_set_self (by rw [l3]; decide))⟩
    · have hj7 := (List.getElem?_eq_some_iff.mp hj).1
      simp only [List.length_cons, List.length_nil] at hj7
      rw [← hj]
      have : j = 0 ∨ j = 1 ∨ j = 2 ∨ j = 3 ∨ j = 4 ∨ j = 5 ∨ j = 6 := by omega
      rcases this with rfl | rfl | rfl | rfl | rfl | rfl | rfl <;> rfl
    · rw [List.getElem?_set_ne (by decide)]
      exact s3
  have pick : ∀ c ∈ wCls, ∃ j z, [V.str "program", .str "word", .str "rooms", .str "fuel", .str "cell", .str "over", .str "text"][j]? = some (.str (wName c)) ∧
      ([.bl (decide (c = "BadProgram")), .bl (decide (c = "BadWord")), .bl (decide (c = "BadRooms")), .bl (decide (c = "BadFuel"))] ++ [.bl (decide (c = "BadCell")), .bl (decide (c = "Over")), .bl (decide (c = "BadText"))] : List V)[j]? = some z ∧ eqV z (.bl true) = true ∧
      ∀ (m : Nat) (z' : V), m < j → ([.bl (decide (c = "BadProgram")), .bl (decide (c = "BadWord")), .bl (decide (c = "BadRooms")), .bl (decide (c = "BadFuel"))] ++ [.bl (decide (c = "BadCell")), .bl (decide (c = "Over")), .bl (decide (c = "BadText"))] : List V)[m]? = some z' → eqV z' (.bl true) = false := by
    intro c hc
    simp only [List.mem_cons, List.not_mem_nil, or_false] at hc
    rcases hc with rfl | rfl | rfl | rfl | rfl | rfl | rfl
    · exact ⟨0, .bl true, rfl, rfl, rfl, fun m z' hm h => absurd hm (by omega)⟩
    · exact ⟨1, .bl true, rfl, rfl, rfl, fun m z' hm h => by
        have : m = 0 := by omega
        subst this; cases h; rfl⟩
    · exact ⟨2, .bl true, rfl, rfl, rfl, fun m z' hm h => by
        have : m = 0 ∨ m = 1 := by omega
        rcases this with rfl | rfl <;> cases h <;> rfl⟩
    · exact ⟨3, .bl true, rfl, rfl, rfl, fun m z' hm h => by
        have : m = 0 ∨ m = 1 ∨ m = 2 := by omega
        rcases this with rfl | rfl | rfl <;> cases h <;> rfl⟩
    · exact ⟨4, .bl true, rfl, rfl, rfl, fun m z' hm h => by
        have : m = 0 ∨ m = 1 ∨ m = 2 ∨ m = 3 := by omega
        rcases this with rfl | rfl | rfl | rfl <;> cases h <;> rfl⟩
    · exact ⟨5, .bl true, rfl, rfl, rfl, fun m z' hm h => by
        have : m = 0 ∨ m = 1 ∨ m = 2 ∨ m = 3 ∨ m = 4 := by omega
        rcases this with rfl | rfl | rfl | rfl | rfl <;> cases h <;> rfl⟩
    · exact ⟨6, .bl true, rfl, rfl, rfl, fun m z' hm h => by
        have : m = 0 ∨ m = 1 ∨ m = 2 ∨ m = 3 ∨ m = 4 ∨ m = 5 := by omega
        rcases this with rfl | rfl | rfl | rfl | rfl | rfl <;> cases h <;> rfl⟩
  obtain ⟨j, y, y1, y2, y3, y4⟩ := pick c hc
  exact ⟨p3, _, .bl true, j, y, rfl, rfl, .inl (.inl at34), rfl, rfl, y2, y3, y4, fin j y1⟩
theorem hand_ok (Wc : WordC K mg) (k : Ok K mg W A H) {x : XV} {cls : Value} {d : Option Addr} (xr : XRep K mg W x cls d H) {dr : D} (hx : wordX x = some dr) {a : Addr} {σ : L2.St} (h1 : σ[1]? = some (some (.ref a))) (hl : σ.length = 4) {De : Ends}
    (z : ∀ W' H' v, Ext W H W' H' → Ok K mg W' A H' → Rep K W' dr v → De.rt v H') : tHand K mg cls d a De σ H := by
  obtain ⟨c, fs⟩ := x
  obtain ⟨q1, q2⟩ := xr
  dsimp only at q1 q2
  subst q1
  have hd : ∀ dd, d = some dd → ∃ fs, H dd = some (.xd fs) := fun dd e => by
    cases fs with
    | none => rw [e] at q2; cases q2
    | some fs =>
      obtain ⟨dd', vs, e1, e2, _⟩ := q2
      rw [e] at e1
      cases e1
      exact ⟨vs, e2⟩
  have hc : c ∈ wCls := by
    unfold wordX at hx
    dsimp only at hx
    simp only [List.mem_cons, List.not_mem_nil, or_false]
    split at hx
    · exact .inl ‹_›
    split at hx
    · exact .inr (.inl ‹_›)
    split at hx
    · exact .inr (.inr (.inr (.inr (.inr (.inr ‹_›)))))
    split at hx
    · exact .inr (.inr (.inl ‹_›))
    split at hx
    · exact .inr (.inr (.inr (.inl ‹_›)))
    split at hx
    · exact .inr (.inr (.inr (.inr (.inl ‹_›))))
    split at hx
    · exact .inr (.inr (.inr (.inr (.inr (.inl ‹_›)))))
    · cases hx
  refine hand14 Wc k hc hd h1 hl fun H' σ' e k' s1 s3 => ?_
  have fin : ∀ (v : V) (dv : D) (p : Addr), dr = .tup [.str (wName c), dv] → Rep K W dv v → H' p = none → De.rt (.ref p) (upd H' p (.tup [.str (wName c), v])) := fun v dv p e0 r np => by
    obtain ⟨k2, e2⟩ := k'.frozen np (.tup [.str (wName c), v])
    refine z _ _ _ (e.trans e2) k2 ?_
    rw [e0]
    exact ⟨p, _, rfl, .inl (.inl upd_same), _, _, rfl, rfl, _, _, rfl, r.le e2.le, rfl⟩
  have sz : ∀ v : V, [V.str (wName c), v].length ≤ sizeLine := fun v => by rw [sizeLine_eq]; exact Nat.le_of_ble_eq_true rfl
  have fld : ∀ (f : Str) (dv : D), (fs.bind fun fs => fs.lookup f) = some dv → ∃ dd vs v, d = some dd ∧ H' dd = some (.xd vs) ∧ vs.lookup f = some v ∧ Rep K W dv v := fun f dv h => by
    cases fs with
    | none => cases h
    | some fs =>
      obtain ⟨dd, vs, e1, e2, e3, e4, e5, e6⟩ := q2
      obtain ⟨v, hv, rv⟩ := fld_at e3 e4 (show fs.lookup f = some dv from h)
      exact ⟨dd, vs, v, e1, e.out dd _ e2 (fun _ q => nomatch q) e6, hv, rv⟩
  have no : ∀ {w : Str} {t u : TS} {cc f : Str}, wName c ≠ w → u De σ' H' → tSeq (tH5 mg (.ref (clA mg c)) d a w cc f) u De σ' H' := fun {w t u cc f} hw hu => by
    refine ⟨_, s3, rfl, _, rfl, ?_⟩
    dsimp only
    rw [if_neg (by rw [decide_eq_true_eq]; exact fun q => hw (V.str.inj q))]
    exact hu
  have yes : ∀ {w cc f : Str} {u : TS} (dv : D), wName c = w → c = cc → dr = .tup [.str (wName c), dv] → (fs.bind fun fs => fs.lookup f) = some dv → tSeq (tH5 mg (.ref (clA mg c)) d a w cc f) u De σ' H' := fun {w cc f u} dv hw hcc hdr hf => by
    refine ⟨_, s3, rfl, _, rfl, ?_⟩
    dsimp only
    rw [if_pos (by rw [decide_eq_true_eq, hw])]
    obtain ⟨dd, vs, v, e1, e2, e3, e4⟩ := fld f dv hf
    exact ⟨_, s3, .ref a, s1, rfl, by rw [hcc], dd, vs, v, e1, e2, e3, sz v, fun p np => fin v dv p hdr e4 np⟩
  have last : (wName c ≠ "text" ∧ dr = .tup [.str (wName c), .int 0]) ∨ (c = "BadText" ∧ ∃ dv, dr = .tup [.str (wName c), dv] ∧ (fs.bind fun fs => fs.lookup ("line" : Str)) = some dv) → tH7 mg (.ref (clA mg c)) d a De σ' H' := fun h => by
    rcases h with ⟨h, hdr⟩ | ⟨hcc, dv, hdr, hf⟩
    · refine ⟨_, s3, _, s3, rfl, _, rfl, ?_⟩
      dsimp only
      rw [if_neg (by rw [decide_eq_true_eq]; exact fun q => h (V.str.inj q))]
      exact ⟨sz _, fun p np => fin _ _ p hdr rfl np⟩
    · refine ⟨_, s3, _, s3, rfl, _, rfl, ?_⟩
      dsimp only
      rw [if_pos (by rw [decide_eq_true_eq, hcc]; rfl)]
      obtain ⟨dd, vs, v, e1, e2, e3, e4⟩ := fld _ dv hf
      exact ⟨.ref a, s1, rfl, by rw [hcc], dd, vs, v, e1, e2, e3, sz v, fun p np => fin v dv p hdr e4 np⟩
  unfold wordX at hx
  dsimp only at hx
  simp only [List.mem_cons, List.not_mem_nil, or_false] at hc
  rcases hc with rfl | rfl | rfl | rfl | rfl | rfl | rfl
  · rw [if_pos rfl] at hx
    obtain ⟨dv, e1, e2⟩ := Option.map_eq_some_iff.mp hx
    exact no (t := tNext) (by decide) (yes dv rfl rfl e2.symm e1)
  · rw [if_neg (by decide), if_pos rfl] at hx
    obtain ⟨dv, e1, e2⟩ := Option.map_eq_some_iff.mp hx
    exact yes dv rfl rfl e2.symm e1
  · rw [if_neg (by decide), if_neg (by decide), if_neg (by decide), if_pos rfl] at hx
    cases hx
    exact no (t := tNext) (by decide) (no (t := tNext) (by decide) (last (.inl ⟨by decide, rfl⟩)))
  · rw [if_neg (by decide), if_neg (by decide), if_neg (by decide), if_neg (by decide), if_pos rfl] at hx
    cases hx
    exact no (t := tNext) (by decide) (no (t := tNext) (by decide) (last (.inl ⟨by decide, rfl⟩)))
  · rw [if_neg (by decide), if_neg (by decide), if_neg (by decide), if_neg (by decide), if_neg (by decide), if_pos rfl] at hx
    cases hx
    exact no (t := tNext) (by decide) (no (t := tNext) (by decide) (last (.inl ⟨by decide, rfl⟩)))
  · rw [if_neg (by decide), if_neg (by decide), if_neg (by decide), if_neg (by decide), if_neg (by decide), if_neg (by decide), if_pos rfl] at hx
    cases hx
    exact no (t := tNext) (by decide) (no (t := tNext) (by decide) (last (.inl ⟨by decide, rfl⟩)))
  · rw [if_neg (by decide), if_neg (by decide), if_pos rfl] at hx
    obtain ⟨dv, e1, e2⟩ := Option.map_eq_some_iff.mp hx
    exact no (t := tNext) (by decide) (no (t := tNext) (by decide) (last (.inr ⟨rfl, dv, e2.symm, e1⟩)))
end
end Tg

set_option Elab.async false
set_option linter.all false
set_option maxRecDepth 100000
set_option maxHeartbeats 4000000
/-! TgLamW: a lambda is made; _law_word(lambda: e) as an expression. -/
namespace Tg
open PySem PySem.Spec PyProof.Rows L2
/-- what the making of a lambda does with the heap: c' is its code object -/
def LamStep (H H1 : Hp) (P : Addr) (tb : Array Value) (q : Str) (c' : Addr) : Prop :=
  (H1 = H ∧ H c' = some (LamX.CodeO c' q)) ∨
    (H c' = none ∧ c' ≠ P ∧ ∃ more : Array Value, H1 = upd (upd H P (.tbl (tb ++ more))) c' (LamX.CodeO c' q) ∧ TriplesOk (tb ++ more).toList ∧ ∀ p cv, codeAmong p (tb ++ more).toList = some cv → codeAmong p tb.toList = some cv ∨ cv = .ref c')
section
variable {X : Cx} {pins : List (Addr × Obj)} {σ : L2.St} {H : Hp} {s : Shared}
end
theorem upd_swap {H : Hp} {a b : Addr} {o u : HO} (h : a ≠ b) : upd (upd H a o) b u = upd (upd H b u) a o := by
  funext c
  by_cases z : c = b
  · rw [z, upd_same, upd_ne (Ne.symm h), upd_same]
  · by_cases y : c = a
    · rw [y, upd_ne h, upd_same, upd_same]
    · rw [upd_ne z, upd_ne y, upd_ne y, upd_ne z]
section
variable {K : PySem.W.Frag} {mg : Str → Option Value} {W : Wd} {A : AH} {H H1 : Hp}
/-- a table grows -/
theorem Ok.table (k : Ok K mg W A H) {x : Str} {P : Addr} (hx : x ∈ lamDefs) (hP : tabA K mg x = some P) (hu : ∀ y ∈ lamDefs, tabA K mg y = some P → y = x) {tb : Array Value} (ok : TriplesOk tb.toList)
    (known : ∀ p cv, codeAmong p tb.toList = some cv → ∃ c, cv = .ref c ∧ W.F c = some (LamX.CodeO c (lamQ x))) : Ok K mg W A (upd H P (.tbl tb)) ∧ Ext W H W (upd H P (.tbl tb)) := by
  have t := k.tab x hx P hP
  have nm : ∀ {n : Nat} {a : Addr}, W.m[n]? = some a → a ≠ P := fun e z => t.nm (z ▸ List.mem_of_getElem? e)
  have nF : ∀ {a : Addr} {o : HO}, W.F a = some o → a ≠ P := fun {a o} e z => by
    rw [z, t.nF] at e
    cases e
  refine ⟨⟨fun a o e => ?_, fun n a o e1 e2 => (k.sep n a o e1 e2).at rfl (upd_ne (nm e1)), k.nd, k.len, fun n a o e1 e2 => ?_, fun y hy P' hP' => ?_⟩, Le.refl W, fun a o e tt na => ?_, fun a e => ?_, fun a o e n => ?_, fun a h1 h2 => absurd h1 h2⟩
  · rw [upd_ne (nF e)]
    exact k.frz a o e
  · rw [upd_ne (nm e1)]
    exact k.obj n a o e1 e2
  · by_cases z : P' = P
    · subst z
      rw [hu y hy hP']
      exact ⟨⟨tb, upd_same, ok, known⟩, t.nm, t.nF⟩
    · have t' := k.tab y hy P' hP'
      exact t'.keep (fun _ _ e => e) (upd_ne z) t'.nm t'.nF
  · obtain ⟨tb0, e0, _⟩ := t.at_
    have z : a ≠ P := fun z => by
      rw [z, e0] at e
      cases e
      exact tt _ rfl
    rw [upd_ne z]
    exact e
  · by_cases z : a = P
    · rw [z, upd_same] at e
      cases e
    · rw [upd_ne z] at e
      exact e
  · rw [n] at e
    cases e
theorem Ok.lam (k : Ok K mg W A H) {x : Str} {P c' : Addr} (hx : x ∈ lamDefs) (hP : tabA K mg x = some P) (hu : ∀ y ∈ lamDefs, tabA K mg y = some P → y = x) {tb : Array Value} (hH : H P = some (.tbl tb)) (st : LamStep H H1 P tb (lamQ x) c') :
    ∃ W1, Ok K mg W1 A H1 ∧ Ext W H W1 H1 := by
  rcases st with ⟨rfl, _⟩ | ⟨nC, ne, more, rfl, ok, kn⟩
  · exact ⟨W, k, Ext.refl _ _⟩
  · obtain ⟨k1, e1⟩ := k.frozen nC (LamX.CodeO c' (lamQ x))
    obtain ⟨⟨tb0, t1, t2, t3⟩, _, _⟩ := k.tab x hx P hP
    rw [hH] at t1
    cases t1
    obtain ⟨k2, e2⟩ := k1.table hx hP hu ok fun p cv h => by
      rcases kn p cv h with h | h
      · obtain ⟨c, h1, h2⟩ := t3 p cv h
        exact ⟨c, h1, e1.le.f _ _ h2⟩
      · exact ⟨c', h, upd_same⟩
    rw [upd_swap (Ne.symm ne)]
    exact ⟨_, k2, e1.trans e2⟩
end
/-! ### _law_word -/
section
variable {X : Cx} {W : WX}
theorem takes_len (tk : Takes X W) : Takes X (fun c d σ H => σ.length = X.N.length → W c d σ H) := fun u s' ⟨a, B, sI, pins, σ, H, cls, d, e, I, nb, up, sky, na, os, ag, w⟩ =>
  tk u s' ⟨a, B, sI, pins, σ, H, cls, d, e, I, nb, up, sky, na, os, ag, w I.len⟩
end
/-- what _law_word makes of a lambda's reading -/
def TTw (K : PySem.W.Frag) (mg : Str → Option Value) (T : Addr) (tl : XK → Hp → VK → Prop) (H : Hp) (Q : VK) : Prop :=
  tl (fun cls d H' => ∀ σ' : L2.St, σ'.length = 4 → wAs K (.ref T) 1 (fun a cls d => tHand K mg cls d a) (fun _ _ _ _ => False) { nx := tRet (tC .non) { nx := fun _ H' => Q .non H', rt := Q }, rt := Q } cls d σ' H') H fun _ H' => Q .non H'
/-- the def _law_word, called with a lambda -/
def WordFn (P : Program) (w : World) (K : PySem.W.Frag) (mg : Str → Option Value) (base : Heap) (st : Stmt) (T : Addr) : Prop :=
  ∃ (g : Addr) (oc : Value) (od an : Option Addr) (osl : Array (Option Value)) (kV doc pm cdv ct : Value) (Ng : List Str), mg "_law_word" = some (.ref g) ∧ PySem.W.keepIn K (.ref g) = true ∧
    K.lookup g = some ⟨oc, od, .func (PySem.W.fnOf "_law_word" "_law_word" (defArgs st) (defBody st) (defScope st) .none kV doc pm an cdv ct), osl⟩ ∧ PySem.W.codeIn K cdv "_law_word" = true ∧
    Binds K (PySem.W.fnOf "_law_word" "_law_word" (defArgs st) (defBody st) (defScope st) .none kV doc pm an cdv ct) ["_law_work"] [] ∧ FnScope Ng ["_law_work"] (defScope st) ∧ Ng[0]? = some ("_law_work" : Str) ∧ Vis (defScope st) "_law_work" ∧
    ∀ (X : Cx) (q : Str), X.prog = P → X.w = w → X.K = K → X.mg = mg → X.base = base → LamX.GivesTo X Ng "_law_word" (defScope st) g cdv (defBody st) "_law_work" q (TTw K mg T)
section
variable {X : Cx}
end
theorem word_cls {x : XV} {dr : D} (hx : wordX x = some dr) : x.c ∈ wCls := by
  unfold wordX at hx
  simp only [List.mem_cons, List.not_mem_nil, or_false]
  split at hx
  · exact .inl ‹_›
  split at hx
  · exact .inr (.inl ‹_›)
  split at hx
  · exact .inr (.inr (.inr (.inr (.inr (.inr ‹_›)))))
  split at hx
  · exact .inr (.inr (.inl ‹_›))
  split at hx
  · exact .inr (.inr (.inr (.inl ‹_›)))
  split at hx
  · exact .inr (.inr (.inr (.inr (.inl ‹_›))))
  split at hx
  · exact .inr (.inr (.inr (.inr (.inr (.inl ‹_›)))))
  · cases hx
section
variable {X : Cx} {Wx : WX}
end
/-! ### the def _law_word itself -/
section
variable {K : PySem.W.Frag} {mg : Str → Option Value}
theorem WordC.at (Wc : WordC K mg) {c : Str} (hc : c ∈ wCls) : mg c = some (.ref (clA mg c)) := by
  obtain ⟨T, _, h⟩ := Wc.cls
  obtain ⟨C, hC, _⟩ := h c hc
  rw [clA_of hC]
  exact hC
theorem WordC.xf (Wc : WordC K mg) {c : Str} (hc : c ∈ wCls) : XfC K (clA mg c) ∧ PySem.W.findIn K (.ref (clA mg c)) "row" = some none ∧ PySem.W.findIn K (.ref (clA mg c)) "place" = some none ∧ PySem.W.findIn K (.ref (clA mg c)) "line" = some none := by
  obtain ⟨T, _, h⟩ := Wc.cls
  obtain ⟨C, hC, x, _, _, _, r⟩ := h c hc
  rw [clA_of hC]
  exact ⟨⟨x.hg, x.hk, x.hs, x.hd⟩, r⟩
theorem tagged (Wc : WordC K mg) : ∃ T, mg "TagError" = some (.ref T) := by
  obtain ⟨T, h, _⟩ := Wc.cls
  exact ⟨T, h⟩
abbrev WCx (X : Cx) (Ng : List Str) (sg : Scope) (g : Addr) (cdv : Value) (s : Shared) (H : Hp) : Cx := (cxOf C8.CX0 X.prog X.w X.K X.mg X.base Ng "_law_word" sg g cdv X.A X.stack s H C8.E0).nox
theorem gives_of {X : Cx} {Ng : List Str} {sg : Scope} {g T : Addr} {cdv : Value} {q : Str} {b0 : Stmt} {suite : List Stmt} {p1 p2 p3 p4 p5 p6 p7 p8 : Pos} {j : Nat} (hT : X.mg "TagError" = some (.ref T)) (hN : Ng.Nodup) (hi : Ng[1]? = some ("e" : Str)) (hlen : Ng.length = 4)
    (hln : sg.names.lookup ("e" : Str) = some .local) (hge : sg.names.lookup ("TagError" : Str) = some .globalImplicit) (h0 : ∀ f : Addr, (L2.start Ng [V.ref f])[0]? = some (some (V.ref f)))
    (hsu : ∀ (s : Shared) (H : Hp) (a : Addr) (oe : Obj) (cls : Value) (d : Option Addr) (pn : List (Addr × Obj)), Zc cls d oe → (∃ vs, oe.data = .fields vs) → PSs ((WCx X Ng sg g cdv s H).suite a ((a, oe) :: pn)) (b0 :: suite) (tHand X.K X.mg cls d a)) :
    LamX.GivesTo X Ng "_law_word" sg g cdv [.Try [.Expr (.Call (.Name "_law_work" p1) [] [] p2) p3] [.ExceptHandler (some (.Name "TagError" p4)) (some "e") (b0 :: suite) p5] [] [] p6, .Return (some (.Constant .none j p7)) p8] "_law_work" q (TTw X.K X.mg T) := by
  intro f c' s H Q tl act hc h
  have hgl : Gl (WCx X Ng sg g cdv s H) "TagError" := hge
  refine ⟨_, pss_cons (ps_try_as (X := WCx X Ng sg g cdv s H) (c := .ref T) (i := 1) (ts := fun a cls d => tHand X.K X.mg cls d a) (Wout := fun _ _ _ _ => False)
      (tb := fun W D σ H => σ[0]? = some (some (.ref f)) ∧ H c' = some (LamX.CodeO c' q) ∧ tl (fun cls d H' => ∀ σ' : L2.St, σ'.length = 4 → W cls d σ' H') H fun _ H' => D.nx σ H')
      rfl rfl hN hi hln ⟨hgl, by decide, .inl hT⟩ LamX.takes0 (fun W pn xe tk _ => ?_) (fun a oe cls d pn hz hf => hsu s H a oe cls d pn hz hf)) (pss_one (ps_ret pe_non)), ?_⟩
  · refine ⟨fun pins s' σ H' D I h' => ?_⟩
    obtain ⟨h1, h2, h3⟩ := h'
    have tk2 : Takes ((WCx X Ng sg g cdv s H).tr pn xe) (fun c d σ H => σ.length = 4 → W c d σ H) := (takes_len tk).imp fun c d σ H z q => z (q.trans hlen)
    have hp := act _ pn xe (fun cls d H' => ∀ σ' : L2.St, σ'.length = 4 → W cls d σ' H') p1 p2 tk2 fun cls d σ' H' z => z σ'
    exact (pss_one (ps_expr (pos := p3) hp)).run pins s' σ H' D I ⟨h1, h2, h3⟩
  · exact ⟨h0 f, hc, h⟩
end
/-- what a def's text wants where it makes lambdas -/
def LamT (K : PySem.W.Frag) (mg : Str → Option Value) (x : Str) : Prop := x ∈ lamDefs ∧ ∃ c P, codeA K mg x = some c ∧ tabA K mg x = some P ∧ ∀ y ∈ lamDefs, tabA K mg y = some P → y = x
end Tg

set_option Elab.async false
set_option linter.all false
set_option maxRecDepth 100000
set_option maxHeartbeats 2000000
/-! TgUpd: d.update(a dict). -/
namespace Tg
open PySem PySem.Spec PyProof.Rows L2
end Tg

set_option Elab.async false
set_option linter.all false
set_option maxRecDepth 100000
set_option maxHeartbeats 4000000
/-! TgHeadT: the small head where lambdas are made: the tables of their codes are told, too. -/
namespace Tg
open PySem PySem.Spec PyProof.Rows L2
def gaM (K : PySem.W.Frag) : Str → Option Value := fun y => some (.ref (He.ga K y))
def isTb : Option Obj → Bool
  | some ⟨.none, none, .fields vs, sl⟩ => vs.isEmpty && sl.isEmpty
  | _ => false
theorem isTb_ok {o : Option Obj} (h : isTb o = true) : o = some { cls := .none, data := .fields #[] } := by
  unfold isTb at h
  split at h
  · rename_i vs sl
    obtain ⟨h1, h2⟩ := Bool.and_eq_true_iff.mp h
    rw [Array.isEmpty_iff.mp h1, Array.isEmpty_iff.mp h2]
  · cases h
def asT (g : Addr → Option Obj) : List Addr := (asX g).filter fun a => !isTb (g a)
def isI : Value → Bool
  | .int _ _ => true
  | _ => false
def isS : Value → Bool
  | .str _ _ => true
  | _ => false
def isB : Value → Bool
  | .bool _ => true
  | _ => false
def codeHB (K : PySem.W.Frag) (c P : Addr) : Bool := match K.lookup c with
  | some ⟨.type t, _, .fields vs, _⟩ => decide (t = "code") && (decide (vs[11]? = some (.ref P)) && (decide (vs.getD 11 .none = .ref P) && (isS (vs.getD 18 .none) && (isI (vs.getD 7 .none) && (isB (vs.getD 9 .none) && (isI (vs.getD 10 .none) && !decide (c = P)))))))
  | _ => false
theorem codeHB_ok {K : PySem.W.Frag} {h : Heap} {c P : Addr} (X : K.In h) (q : codeHB K c P = true) : PySem.W.CodeHd h c P := by
  unfold codeHB at q
  split at q
  · rename_i t od vs sl lo
    obtain ⟨q1, q⟩ := Bool.and_eq_true_iff.mp q
    obtain ⟨q2, q⟩ := Bool.and_eq_true_iff.mp q
    obtain ⟨q3, q⟩ := Bool.and_eq_true_iff.mp q
    obtain ⟨q4, q⟩ := Bool.and_eq_true_iff.mp q
    obtain ⟨q5, q⟩ := Bool.and_eq_true_iff.mp q
    obtain ⟨q6, q⟩ := Bool.and_eq_true_iff.mp q
    obtain ⟨q7, q8⟩ := Bool.and_eq_true_iff.mp q
    have iS : ∀ v : Value, isS v = true → ∃ a b, v = .str a b := fun v h => by
      cases v <;> first | exact ⟨_, _, rfl⟩ | cases h
    have iI : ∀ v : Value, isI v = true → ∃ a b, v = .int a b := fun v h => by
      cases v <;> first | exact ⟨_, _, rfl⟩ | cases h
    have iB : ∀ v : Value, isB v = true → ∃ a, v = .bool a := fun v h => by
      cases v <;> first | exact ⟨_, rfl⟩ | cases h
    obtain ⟨f1, f2, e4⟩ := iS _ q4
    obtain ⟨g1, g2, e5⟩ := iI _ q5
    obtain ⟨b1, e6⟩ := iB _ q6
    obtain ⟨h1, h2, e7⟩ := iI _ q7
    exact ⟨_, vs, f1, f2, g1, g2, b1, h1, h2, X _ _ lo, by rw [of_decide_eq_true q1], rfl, of_decide_eq_true q2, of_decide_eq_true q3, e4, e5, e6, e7, by simpa using q8⟩
  · cases q
/-- the tables of the defs named xs -/
def tabE (g : Addr → Option Obj) (K : PySem.W.Frag) (x : Str) : Bool := match codeA K (gaM K) x, tabA K (gaM K) x with
  | some c, some P => isTb (g P) && ((K.lookup P).isNone && codeHB K c P)
  | _, _ => false
abbrev AlT : Type := AlX × Bool
def obsTG (fc : List Fc) (fn : List He.FnD) (ts : List (Str × List Str)) (xs : List Str) (g : Addr → Option Obj) : AlT := (obsX fc fn ts (He.frG g (asT g)), xs.all fun x => tabE g (He.frG g (asT g)) x)
def TabIn (xs : List Str) (K : PySem.W.Frag) (hp : Heap) : Prop := ∀ x ∈ xs, ∃ c P, codeA K (gaM K) x = some c ∧ tabA K (gaM K) x = some P ∧ hp.get? P = some { cls := .none, data := .fields #[] } ∧ K.lookup P = none ∧ codeHB K c P = true
theorem tabIn_of {xs : List Str} {K : PySem.W.Frag} {hp : Heap} (h : (xs.all fun x => tabE hp.get? K x) = true) : TabIn xs K hp := fun x hx => by
  have q := List.all_eq_true.mp h x hx
  unfold tabE at q
  split at q
  · rename_i c P e1 e2
    obtain ⟨q1, q2⟩ := Bool.and_eq_true_iff.mp q
    obtain ⟨q3, q4⟩ := Bool.and_eq_true_iff.mp q2
    exact ⟨c, P, e1, e2, isTb_ok q1, Option.isNone_iff_eq_none.mp q3, q4⟩
  · cases q
def hookT (fc : List Fc) (fn : List He.FnD) (ts : List (Str × List Str)) (xs : List Str) : PySem.W.Hook where
  α := AlT
  obs := fun t => obsTG fc fn ts xs t.heap.get?
  val := fun v => (valX fn ts v, true)
  says := fun v hp => ∃ F : PySem.W.Frag, F.In hp ∧ SaysX fc fn ts v F ∧ TabIn xs F hp
  of := fun _ _ q => ⟨_, He.frG_in, congrArg Prod.fst q, tabIn_of (congrArg Prod.snd q)⟩
  keeps := fun _ _ _ ⟨F, hF, q, t⟩ z => ⟨F, PySem.W.Frag.In.keeps hF z, q, fun x hx => by
    obtain ⟨c, P, e1, e2, e3, e4⟩ := t x hx
    exact ⟨c, P, e1, e2, z _ _ e3, e4⟩⟩
theorem obsT_eq {fc : List Fc} {fn : List He.FnD} {ts : List (Str × List Str)} {xs : List Str} (s : PySem.W.SharedT) : obsTG fc fn ts xs (HandSHeadRun.getT s) = (hookT fc fn ts xs).obs s.abs := by
  have q : HandSHeadRun.getT s = s.abs.heap.get? := funext fun a => HandSHeadRun.getT_eq s a
  show _ = obsTG fc fn ts xs s.abs.heap.get?
  rw [q]
def tabU (xs : List Str) : Fc := fun K => xs.all fun x => xs.all fun y => decide (x = y) || !decide (tabA K (gaM K) x = tabA K (gaM K) y)
/-- the tables' code objects and tables -/
def csOf (xs : List Str) (K : PySem.W.Frag) : List (Addr × Addr) := xs.filterMap fun x => match codeA K (gaM K) x, tabA K (gaM K) x with
  | some c, some P => some (c, P)
  | _, _ => none
theorem csOf_mem {xs : List Str} {K : PySem.W.Frag} {p : Addr × Addr} (h : p ∈ csOf xs K) : ∃ x ∈ xs, codeA K (gaM K) x = some p.1 ∧ tabA K (gaM K) x = some p.2 := by
  obtain ⟨x, hx, e⟩ := List.mem_filterMap.mp h
  split at e
  · rename_i c P e1 e2
    cases e
    exact ⟨x, hx, e1, e2⟩
  · cases e
section
variable {K : PySem.W.Frag} {h : Heap} {mg : Str → Option Value}
theorem codeA_ga {x : Str} (hm : mg x = some (.ref (He.ga K x))) : codeA K mg x = codeA K (gaM K) x := by
  unfold codeA
  rw [hm]
  rfl
theorem tabA_ga {x : Str} (hm : mg x = some (.ref (He.ga K x))) : tabA K mg x = tabA K (gaM K) x := by
  unfold tabA
  rw [codeA_ga hm]
theorem tabA_none {x : Str} (hm : mg x = none) : tabA K mg x = none := by
  unfold tabA codeA
  rw [hm]
theorem lamT_of {xs : List Str} {x : Str} (X : K.In h) (T : TabIn xs K h) (u : tabU xs K = true) (hx : x ∈ xs) (hl : x ∈ lamDefs) (hg : ∀ y ∈ xs, mg y = some (.ref (He.ga K y))) (hn : ∀ y ∈ lamDefs, y ∉ xs → mg y = none) : LamT K mg x := by
  obtain ⟨c, P, e1, e2, _⟩ := T x hx
  refine ⟨hl, c, P, by rw [codeA_ga (hg x hx), e1], by rw [tabA_ga (hg x hx), e2], fun y hy e => ?_⟩
  by_cases q : y ∈ xs
  · rw [tabA_ga (hg y q)] at e
    have z := List.all_eq_true.mp (List.all_eq_true.mp u x hx) y q
    rw [e2, e] at z
    simp at z
    exact z.symm
  · rw [tabA_none (hn y hy q)] at e
    cases e
theorem csOf_has {xs : List Str} (T : TabIn xs K h) (hg : ∀ y ∈ xs, mg y = some (.ref (He.ga K y))) (hn : ∀ y ∈ lamDefs, y ∉ xs → mg y = none) : ∀ x ∈ lamDefs, ∀ P, tabA K mg x = some P → ∃ c, codeA K mg x = some c ∧ (c, P) ∈ csOf xs K := fun x hx P e => by
  by_cases q : x ∈ xs
  · obtain ⟨c, P', e1, e2, _⟩ := T x q
    rw [tabA_ga (hg x q), e2] at e
    cases e
    refine ⟨c, by rw [codeA_ga (hg x q), e1], List.mem_filterMap.mpr ⟨x, q, ?_⟩⟩
    rw [e1, e2]
  · rw [tabA_none (hn x hx q)] at e
    cases e
end
/-- the law, over such a head -/
theorem walkT {l : PySem.W.OpenLaw} {k : Nat} {q : Program} {loose : List Str} {XP : (Str → Option Value) → Heap → Prop} {YP : World → Heap → Prop} {d : DefRec} {p : Str} (hn : l.most = some 63) (hdf : d.params.defaults = []) (hr : Room k callerA)
    (F : ∀ (v : World) (mg : Str → Option Value) (fa : Addr) (hp : Heap), YP v hp → hp.Ns mainGlobals mg → mg d.name = some (.ref fa) →
      ∃ (K : PySem.W.Frag) (xs : List Str) (fd : FuncData), K.In hp ∧ TabIn xs K hp ∧ (∀ (s : Shared) (u : Value), BindsTo s fd ⟨[u], []⟩ [(p, u)]) ∧
        ∀ base : Heap, K.In base → base.Ns mainGlobals mg → (∀ z ∈ csOf xs K, LamX.TabB base mg z.1 z.2) → FnOk l.prog v K mg base (L2.CX l.prog v) k fa fd [p] (spLawT K (csOf xs K))) :
    PySem.W.WalkO q loose XP YP l.row.toRowW d [] (fun f vs => PySem.call f vs) := by
  refine LamX.walk_ofTsE (CX := fun w => L2.CX l.prog w) (x := p) (n := 63) hn (by decide) hdf hr (fun v mg fa hp Y G hm => ?_) fun w H s e s' z => cx_none z
  obtain ⟨K, xs, fd, KX, T, hb, hF⟩ := F v mg fa hp Y G hm
  have get : ∀ z ∈ csOf xs K, hp.get? z.2 = some { cls := .none, data := .fields #[] } ∧ K.lookup z.2 = none ∧ PySem.W.CodeHd hp z.1 z.2 := fun z hz => by
    obtain ⟨x, hx, e1, e2⟩ := csOf_mem hz
    obtain ⟨c, P, f1, f2, f3, f4, f5⟩ := T x hx
    rw [e1] at f1
    rw [e2] at f2
    cases f1
    cases f2
    exact ⟨f3, f4, codeHB_ok KX f5⟩
  exact ⟨K, KX, fd, csOf xs K, spLawT K (csOf xs K), fun z hz => (get z hz).1, fun z hz => (get z hz).2.1, fun z hz => (get z hz).2.2, hb, fun H a ns hl _ ht hS => ⟨a, ns, rfl, hS, hl, ht, fun _ => rfl⟩, hF⟩
/-! ### _law_word's classes -/
def wordF : Fc := fun K => wCls.all fun c => He.eqO (PySem.W.findIn K (.ref (He.ga K c)) "__getattribute__") (some (some (.builtin "BaseException.__getattribute__"))) && (He.eqO (PySem.W.findIn K (.ref (He.ga K c)) "__getattr__") (some none) &&
  (decide (PySem.W.subIn K (.ref (He.ga K c)) (.type "BaseException") = some true) && (PySem.W.hasDictIn K (He.ga K c) && (He.eqO (PySem.W.findIn K (.ref (He.ga K c)) "__class__") (some (some (.builtin "object.__class__"))) &&
  (decide (PySem.W.mroIn K (He.ga K c) (.type "object") = some true) && (decide (PySem.W.exmOne K (.ref (He.ga K c)) (.ref (He.ga K "TagError")) = some true) &&
  ((wCls.all fun c' => decide (PySem.W.kitOne K (.ref (He.ga K c)) (.ref (He.ga K c')) = some (decide (c = c')))) && (decide (PySem.W.kitOne K (.ref (He.ga K c)) (.type "ValueError") = some true) &&
  (He.eqO (PySem.W.findIn K (.ref (He.ga K c)) "row") (some none) && (He.eqO (PySem.W.findIn K (.ref (He.ga K c)) "place") (some none) && He.eqO (PySem.W.findIn K (.ref (He.ga K c)) "line") (some none)))))))))))
def wordF2 : Fc := fun K => He.eqO (PySem.W.specialIn K (.builtin "object.__class__") "__get__") (some (some (.builtin "getset_descriptor.__get__"))) && decide (PySem.W.takesIn K (.builtin "object.__class__") = some true)
theorem wordC_of {K : PySem.W.Frag} {h : Heap} {mg : Str → Option Value} (X : K.In h) (G : h.Ns mainGlobals mg) (a : ∀ c ∈ ("TagError" : Str) :: wCls, fa (.glo c) K = true) (f : wordF K = true) (f2 : wordF2 K = true) : WordC K mg := by
  have g : ∀ c ∈ ("TagError" : Str) :: wCls, mg c = some (.ref (He.ga K c)) := fun c hc => He.glo_ok X G (a c hc)
  obtain ⟨y1, y2⟩ := Bool.and_eq_true_iff.mp (show (_ && _) = true from f2)
  refine { cls := ⟨_, g _ List.mem_cons_self, fun c hc => ⟨_, g _ (List.mem_cons_of_mem _ hc), ?_⟩⟩ }
  have z := List.all_eq_true.mp f c hc
  obtain ⟨z1, z⟩ := Bool.and_eq_true_iff.mp z
  obtain ⟨z2, z⟩ := Bool.and_eq_true_iff.mp z
  obtain ⟨z3, z⟩ := Bool.and_eq_true_iff.mp z
  obtain ⟨z4, z⟩ := Bool.and_eq_true_iff.mp z
  obtain ⟨z5, z⟩ := Bool.and_eq_true_iff.mp z
  obtain ⟨z6, z⟩ := Bool.and_eq_true_iff.mp z
  obtain ⟨z7, z⟩ := Bool.and_eq_true_iff.mp z
  obtain ⟨z8, z⟩ := Bool.and_eq_true_iff.mp z
  obtain ⟨z9, z⟩ := Bool.and_eq_true_iff.mp z
  obtain ⟨z10, z⟩ := Bool.and_eq_true_iff.mp z
  obtain ⟨z11, z12⟩ := Bool.and_eq_true_iff.mp z
  refine ⟨⟨He.eqO_ok z1, He.eqO_ok z2, of_decide_eq_true z3, z4, He.eqO_ok z5, He.eqO_ok y1, of_decide_eq_true y2, of_decide_eq_true z6⟩, of_decide_eq_true z7, fun c' hc' => ?_, of_decide_eq_true z9, He.eqO_ok z10, He.eqO_ok z11, He.eqO_ok z12⟩
  rw [clA_of (g _ (List.mem_cons_of_mem _ hc'))]
  exact of_decide_eq_true (List.all_eq_true.mp z8 c' hc')
def wordG : Fc := fun K => (("TagError" : Str) :: wCls).all fun c => fa (.glo c) K
def lamG (xs : List Str) : Fc := fun K => xs.all fun x => fa (.glo x) K
def lamN (xs : List Str) : Fc := fun K => lamDefs.all fun y => decide (y ∈ xs) || fa (.free y) K
section
variable {K : PySem.W.Frag} {h : Heap} {mg : Str → Option Value} {xs : List Str}
theorem lamG_ok (X : K.In h) (G : h.Ns mainGlobals mg) (f : lamG xs K = true) : ∀ y ∈ xs, mg y = some (.ref (He.ga K y)) := fun y hy => He.glo_ok X G (List.all_eq_true.mp f y hy)
theorem lamN_ok (X : K.In h) (G : h.Ns mainGlobals mg) (f : lamN xs K = true) : ∀ y ∈ lamDefs, y ∉ xs → mg y = none := fun y hy hn => by
  have z := List.all_eq_true.mp f y hy
  rcases Bool.or_eq_true_iff.mp z with z | z
  · exact absurd (of_decide_eq_true z) hn
  · exact He.free_ok X G z
end
/-! ### own classes without __init__ -/
def x0F (c : Str) : Fc := fun K => PySem.W.excIn K (He.ga K c) [.type "ValueError", .type "Exception", .type "BaseException", .type "object"] "ValueError.__new__" && (PySem.W.keepIn K (.ref (He.ga K c)) &&
  (decide (PySem.W.subIn K (.ref (He.ga K c)) (.type "BaseException") = some true) && decide (PySem.W.typeIn K (.ref (He.ga K c)) = some (.type "type"))))
theorem x0H {K : PySem.W.Frag} {h : Heap} {mg : Str → Option Value} {c : Str} (X : K.In h) (G : h.Ns mainGlobals mg) (a : fa (.glo c) K = true) (e : x0F c K = true) : X0 K mg c := by
  obtain ⟨e1, e⟩ := Bool.and_eq_true_iff.mp (show (_ && _) = true from e)
  obtain ⟨e2, e⟩ := Bool.and_eq_true_iff.mp e
  obtain ⟨e3, e4⟩ := Bool.and_eq_true_iff.mp e
  exact ⟨_, _, _, _, _, He.glo_ok X G a, PySem.F.excBase_ValueError, e1, e2, of_decide_eq_true e3, of_decide_eq_true e4⟩
end Tg

set_option Elab.async false
set_option linter.all false
set_option maxRecDepth 100000
set_option maxHeartbeats 4000000
/-! TgCut: a lambda of one parameter, handed to a def that calls it. -/
namespace Tg
open PySem PySem.Spec PyProof.Rows L2
/-- one parameter p, no other name of its own -/
structure Lam1 (sc scope : Scope) (p : Str) : Prop where
  kind : scope.kind = .function
  co : scope.isCoroutine = false
  gen : scope.isGenerator = false
  own : ∀ y ∈ scope.names, (y.2 = .local → y.1 = p) ∧ y.2 ≠ .cell
  par : scope.names.lookup p = some .local
  free : ∀ y ∈ scope.names, y.2 = .free → sc.names.lookup y.1 = some .cell ∨ sc.names.lookup y.1 = some .free
theorem Lam1.has {X : Cx} {scope : Scope} {p : Str} (L : Lam1 X.env.scope scope p) (ok : X.Ok) : ∀ y ∈ scope.names, y.2 = .free → ∃ c, X.env.cells.lookup y.1 = some c := fun y hy e => by
  rcases L.free y hy e with k | k
  · exact ok.has _ (.inl k)
  · exact ok.has _ (.inr k)
section
variable {X : Cx} {pins : List (Addr × Obj)} {σ : L2.St} {H HZ : Hp} {s s1 : Shared}
/-- a function object that lies still -/
def FnH (f : Addr) (o : Obj) : HO := .frz o (.ext fun h => h.get? f = some o)
theorem fnH_ok {P : Program} {w : World} {H : Hp} {h : Heap} {f : Addr} {o : Obj} (e : h.get? f = some o) : ObjOk P w H h f (FnH f o) := ⟨e, e, ⟨o, e⟩, fun _ _ a st => st _ a⟩
end
section
variable {X : Cx}
end
end Tg

set_option Elab.async false
set_option linter.all false
set_option maxRecDepth 100000
set_option maxHeartbeats 4000000
/-! TgCutS: statements told in the worlds behind a given one: a def that calls the lambda it got. -/
namespace Tg
open PySem PySem.Spec PyProof.Rows L2
def SimEr (W0 : Wd) (K : PySem.W.Frag) (mg : Str → Option Value) (Wx : WX) (t : TE) (m : ME) : Prop :=
  ∀ (W : Wd) (σ : L2.St) (s : Sl) (A : AH) (H : Hp) (Q : VK), Le W0 W → Ok K mg W A H → SlR K W s σ → Post K mg (Rep K) W H (fun c d H' => Wx c d σ H') Q (m s A) → t σ H Q
def SimSr (W0 : Wd) (K : PySem.W.Frag) (mg : Str → Option Value) (Wx : WX) (t : TS) (m : MS) : Prop :=
  ∀ (W : Wd) (σ : L2.St) (s : Sl) (A : AH) (H : Hp) (De : Ends), Le W0 W → Ok K mg W A H → SlR K W s σ → PostS K mg W H De Wx (m s A) → t De σ H
structure SEr (W0 : Wd) (X : Cx) (Wx : WX) (e : Expr) (t : TE) (m : ME) : Prop where
  pe : PE X e t
  sim : SimEr W0 X.K X.mg Wx t m
structure SSr (W0 : Wd) (X : Cx) (Wx : WX) (st : Stmt) (t : TS) (m : MS) : Prop where
  ps : PS X st t
  sim : SimSr W0 X.K X.mg Wx t m
structure SSsr (W0 : Wd) (X : Cx) (Wx : WX) (st : List Stmt) (t : TS) (m : MS) : Prop where
  ps : PSs X st t
  sim : SimSr W0 X.K X.mg Wx t m
section
variable {W0 : Wd} {X : Cx} {Wx : WX} {st : Stmt} {rest body : List Stmt} {t u tb : TS} {m n mb : MS} {e tg iter : Expr} {te : TE} {me : ME} {pos pos' : Pos} {wi : L2.TI} {mi : Sl → AH → R IT} {g : TG} {mgt : MG} {is : List Nat}
end
/-! ### the call of the lambda, in the def that got it -/
section
variable {K : PySem.W.Frag} {mg : Str → Option Value} {W W0 : Wd}
variable {f c' : Addr} {q : Str} {L i : Nat} {σo : L2.St} {so : Sl} {t : TA} {m : MA} {tb : TE} {mb : ME} {E : XK}
end
section
variable {K : PySem.W.Frag} {mg : Str → Option Value} {W : Wd} {A : AH} {H H1 : Hp}
end
/-! ### a def that calls the lambda it got as its i-th argument -/
section
variable {X : Cx} {Wx : WX}
end
end Tg

set_option Elab.async false
set_option linter.all false
set_option maxRecDepth 100000
set_option maxHeartbeats 4000000
/-! TgClo: a lambda called behind the end of the def that made it: its cells lie still in the abstract heap, but where its body runs. -/
namespace Tg
open PySem PySem.Spec PyProof.Rows L2
/-! ### things taken out of the abstract heap, and put back -/
def off (H : Hp) (as : List Addr) : Hp := fun b => if b ∈ as then none else H b
def onto (H : Hp) (G : List (Addr × HO)) : Hp := fun b => match G.lookup b with
  | some o => some o
  | none => H b
theorem off_in {H : Hp} {as : List Addr} {b : Addr} (h : b ∈ as) : off H as b = none := if_pos h
theorem off_ne {H : Hp} {as : List Addr} {b : Addr} (h : b ∉ as) : off H as b = H b := if_neg h
theorem off_some {H : Hp} {as : List Addr} {b : Addr} {o : HO} (h : off H as b = some o) : H b = some o ∧ b ∉ as := by
  unfold off at h
  split at h
  · cases h
  · exact ⟨h, ‹_›⟩
theorem off_none {H : Hp} {as : List Addr} {b : Addr} (h : H b = none) : off H as b = none := by
  unfold off
  split
  · rfl
  · exact h
theorem look_in {G : List (Addr × HO)} {b : Addr} {o : HO} (h : G.lookup b = some o) : b ∈ G.map (·.1) := by
  induction G with
  | nil => cases h
  | cons p G ih =>
    by_cases e : b = p.1
    · rw [e]
      exact List.mem_cons_self
    · have e' : (b == p.1) = false := by simpa using e
      simp only [List.lookup, e'] at h
      exact List.mem_cons_of_mem _ (ih h)
theorem look_out {G : List (Addr × HO)} {b : Addr} (h : b ∉ G.map (·.1)) : G.lookup b = none := by
  cases e : G.lookup b with
  | none => rfl
  | some o => exact absurd (look_in e) h
theorem look_is {G : List (Addr × HO)} {b : Addr} (h : b ∈ G.map (·.1)) : ∃ o, G.lookup b = some o := by
  induction G with
  | nil => exact absurd h (by simp)
  | cons p G ih =>
    by_cases e : b = p.1
    · exact ⟨p.2, by rw [e]; simp [List.lookup]⟩
    · have e' : (b == p.1) = false := by simpa using e
      simp only [List.map_cons, List.mem_cons] at h
      obtain ⟨o, ho⟩ := ih (h.resolve_left e)
      exact ⟨o, by simp only [List.lookup, e']; exact ho⟩
theorem onto_in {H : Hp} {G : List (Addr × HO)} {b : Addr} {o : HO} (h : G.lookup b = some o) : onto H G b = some o := by
  unfold onto
  rw [h]
theorem onto_ne {H : Hp} {G : List (Addr × HO)} {b : Addr} (h : b ∉ G.map (·.1)) : onto H G b = H b := by
  unfold onto
  rw [look_out h]
/-- what lies still is known to the object -/
def Still (h : Heap) (G : List (Addr × HO)) : Prop := ∀ b o, G.lookup b = some o → ∃ ob, o = FnH b ob ∧ h.get? b = some ob
section
variable {P : Program} {w : World} {H H' : Hp} {h h' h1 : Heap} {G : List (Addr × HO)} {fs : List Addr}
theorem still_at (k : HOk P w H h) (hG : ∀ b o, G.lookup b = some o → H b = some o ∧ ∃ ob, o = FnH b ob) : Still h G := fun b o e => by
  obtain ⟨a, ob, rfl⟩ := hG b o e
  exact ⟨ob, rfl, (k b _ a).1⟩
theorem off_ok (k : HOk P w H h) (hG : ∀ b o, G.lookup b = some o → H b = some o ∧ ∃ ob, o = FnH b ob) : HOk P w (off H (G.map (·.1))) h := fun b o e => by
  obtain ⟨e, n⟩ := off_some e
  have out : ∀ c u, H c = some u → (∀ ob, u ≠ FnH c ob) → c ∉ G.map (·.1) := fun c u hc hu hm => by
    obtain ⟨o', ho⟩ := look_is hm
    obtain ⟨a, ob, rfl⟩ := hG c o' ho
    rw [hc] at a
    exact hu ob (Option.some.inj a)
  exact (k b o e).stay (fun _ _ _ q => q) (fun c q => by rw [off_ne (out c _ q (fun ob z => by cases z))]; exact q) fun c xs q => by rw [off_ne (out c _ q (fun ob z => by cases z))]; exact q
/-- behind the body: what was taken out is put back -/
theorem back_un (k : HOk P w H h1) (hG : ∀ b o, G.lookup b = some o → H b = some o ∧ ∃ ob, o = FnH b ob) (hfs : ∀ b ∈ fs, H b = none) (u : Un fs [] (off H (G.map (·.1))) H' h1 h') (k' : HOk P w H' h') :
    (∀ b ∈ G.map (·.1), H' b = none) ∧ Un fs [] H (onto H' G) h1 h' ∧ HOk P w (onto H' G) h' := by
  have st := still_at k hG
  have gone : ∀ b ∈ G.map (·.1), H' b = none := fun b hb => by
    obtain ⟨o, ho⟩ := look_is hb
    obtain ⟨ob, _, e⟩ := st b o ho
    exact u.free b ob e (off_in hb) (by simp)
  have hn : ∀ b, H b = none → b ∉ G.map (·.1) := fun b n hm => by
    obtain ⟨o, ho⟩ := look_is hm
    rw [(hG b o ho).1] at n
    cases n
  have cellS : ∀ b o, G.lookup b = some o → ∃ ob, o = FnH b ob ∧ h'.get? b = some ob := fun b o ho => by
    obtain ⟨ob, e, q⟩ := st b o ho
    refine ⟨ob, e, u.keep b ob q (off_in (look_in ho)) (fun z => ?_) (by simp)⟩
    have a := (hG b o ho).1
    rw [hfs b z] at a
    cases a
  have out : ∀ c u, H' c = some u → c ∉ G.map (·.1) := fun c u hc hm => by
    rw [gone c hm] at hc
    cases hc
  refine ⟨gone, ⟨fun b o e n hb hx => u.keep b o e (off_none n) hb hx, fun b o e n hb hx => u.slot b o e (off_none n) hb hx, fun b o e n hx => by rw [onto_ne (hn b n)]; exact u.free b o e (off_none n) hx, u.there, fun b xs e => ?_, fun b ob xs e => ?_, fun b ps e => ?_⟩, fun b o e => ?_⟩
  · by_cases hb : b ∈ G.map (·.1)
    · obtain ⟨o', ho⟩ := look_is hb
      obtain ⟨a, ob, rfl⟩ := hG b o' ho
      rw [e] at a
      cases a
    · rw [onto_ne hb]
      exact u.tups b xs (by rw [off_ne hb]; exact e)
  · by_cases hb : b ∈ G.map (·.1)
    · obtain ⟨o', ho⟩ := look_is hb
      rw [onto_in ho, ← (hG b o' ho).1, e]
    · rw [onto_ne hb]
      exact u.frzs b ob xs (by rw [off_ne hb]; exact e)
  · by_cases hb : b ∈ G.map (·.1)
    · obtain ⟨o', ho⟩ := look_is hb
      obtain ⟨a, ob, rfl⟩ := hG b o' ho
      rw [e] at a
      cases a
    · rw [onto_ne hb]
      exact u.tbls b ps (by rw [off_ne hb]; exact e)
  · by_cases hb : b ∈ G.map (·.1)
    · obtain ⟨o', ho⟩ := look_is hb
      rw [onto_in ho] at e
      cases e
      obtain ⟨ob, rfl, q⟩ := cellS b _ ho
      exact fnH_ok q
    · rw [onto_ne hb] at e
      exact (k' b o e).stay (fun _ _ _ q => q) (fun c q => by rw [onto_ne (out c _ q)]; exact q) fun c xs q => by rw [onto_ne (out c _ q)]; exact q
end
/-! ### a lambda's object, its defaults told -/
abbrev cloFn (q : Str) (params : Arguments) (body : Expr) (scope : Scope) (cl : List (Str × Addr)) (pm cdv ct dV doc : Value) : FuncData := PySem.W.kdv_fn "<lambda>" q params (.expr body) scope cl dV doc pm cdv ct
abbrev cloObj (q : Str) (params : Arguments) (body : Expr) (scope : Scope) (cl : List (Str × Addr)) (pm : Value) (c' : Addr) (ct dV doc : Value) : Obj := PySem.W.kdv_obj "<lambda>" q params (.expr body) scope cl dV doc pm c' ct
/-- the context of the body of a lambda whose maker has returned -/
def cloCx (P : Program) (w : World) (K : PySem.W.Frag) (mg : Str → Option Value) (base : Heap) (A : Around) (outer : List Env) (s : Shared) (H : Hp) (E : XK) (N : List Str) (q : Str) (scope : Scope) (f c' : Addr) (cl : List (Str × Addr)) : Cx where
  prog := P
  w := w
  K := K
  mg := mg
  base := base
  A := A.deeper (PySem.W.envX q scope s.heap.objs.size f (.ref c') cl)
  N := N
  s_0 := s
  H_0 := H
  env := PySem.W.envX q scope s.heap.objs.size f (.ref c') cl
  outer := outer
  stack := PySem.W.envX q scope s.heap.objs.size f (.ref c') cl :: outer
  ex := []
  fn := fun _ => false
  calm := true
  pn := []
  xe := fun e s' => wpAny (model P w) (A.deeper (PySem.W.envX q scope s.heap.objs.size f (.ref c') cl)) (leaving (PySem.W.envX q scope s.heap.objs.size f (.ref c') cl) e) (fun _ s'' => L2.CX P w outer H s E e s'') (fun e' s'' => L2.CX P w outer H s E e' s'') s'
/-- captured names and globals; its own names are none of N -/
structure LamD (N : List Str) (cl : List (Str × Addr)) (scope : Scope) : Prop where
  kind : scope.kind = .function
  co : scope.isCoroutine = false
  gen : scope.isGenerator = false
  own : ∀ y ∈ scope.names, (y.2 = .local → y.1 ∉ N) ∧ y.2 ≠ .cell
  free : ∀ y ∈ scope.names, y.2 = .free → ∃ c, cl.lookup y.1 = some c
/-- the cells of a def that has returned: what they hold -/
structure CloC (H : Hp) (G : List (Addr × HO)) (cl : List (Str × Addr)) (N : List Str) (σ : L2.St) : Prop where
  st : ∀ b o, G.lookup b = some o → H b = some o ∧ ∃ ob, o = FnH b ob
  inj : ∀ x y c, cl.lookup x = some c → cl.lookup y = some c → x = y
  at_ : ∀ y c, cl.lookup y = some c → ∃ ob w, G.lookup c = some (FnH c ob) ∧ ob.data = .cell w ∧ ∀ (i : Nat) (v : V), N[i]? = some y → σ[i]? = some (some v) → ∃ u, w = some u ∧ RelV v u
theorem CloC.keep {H H' : Hp} {G : List (Addr × HO)} {cl : List (Str × Addr)} {N : List Str} {σ : L2.St} (C : CloC H G cl N σ) (k : ∀ b o u, H b = some (.frz o u) → H' b = some (.frz o u)) : CloC H' G cl N σ :=
  ⟨fun b o e => by
    obtain ⟨a, ob, rfl⟩ := C.st b o e
    exact ⟨k b _ _ a, ob, rfl⟩, C.inj, C.at_⟩
section
variable {P : Program} {w : World} {K : PySem.W.Frag} {mg : Str → Option Value} {base : Heap} {N : List Str} {q : Str} {cl : List (Str × Addr)} {G : List (Addr × HO)} {σ : L2.St} {HZ : Hp} {s1 : Shared}
theorem env0_off {A : Around} {outer : List Env} (e0 : Env0 P w K mg base A outer s1 HZ) (C : CloC HZ G cl N σ) : Env0 P w K mg base A outer s1 (off HZ (G.map (·.1))) :=
  ⟨e0.frames, e0.mod, fun b o e => ⟨(e0.bs b o e).1, off_none (e0.bs b o e).2⟩, e0.bsz, e0.funs, fun b hb => off_none (e0.frf b hb), off_ok e0.hok C.st, e0.bare⟩
theorem clo_start {A : Around} {outer : List Env} {E : XK} {scope : Scope} {f c' : Addr} {h₁ : Heap} {tk : Nat} {m : Str → Option Value} (L : LamD N cl scope) (C : CloC HZ G cl N σ) (hl : σ.length = N.length) (e0 : Env0 P w K mg base A outer s1 HZ) (hd : A.handled = none)
    (hns : h₁.Ns s1.heap.objs.size m) (kp : ∀ b o, s1.heap.get? b = some o → h₁.get? b = some o) :
    Inv (cloCx P w K mg base A outer s1 (off HZ (G.map (·.1))) E N q scope f c' cl) [] σ (off HZ (G.map (·.1))) { s1 with heap := h₁, toks := tk } := by
  have e1 := env0_off e0 C
  have still := still_at e0.hok C.st
  have cellK : ∀ {y c}, cl.lookup y = some c → ∃ ob w, h₁.get? c = some ob ∧ ob.data = .cell w ∧ ∀ (i : Nat) (v : V), N[i]? = some y → σ[i]? = some (some v) → ∃ u, w = some u ∧ RelV v u := fun {y c} e => by
    obtain ⟨ob, w', g1, g2, g3⟩ := C.at_ y c e
    obtain ⟨ob', e2, e3⟩ := still c _ g1
    have e2 : FnH c ob = FnH c ob' := e2
    unfold FnH at e2
    injection e2 with e2 _
    subst e2
    exact ⟨ob, w', kp _ _ e3, g2, g3⟩
  have noA : ∀ b : Addr, b ∉ (cloCx P w K mg base A outer s1 (off HZ (G.map (·.1))) E N q scope f c' cl).ex := fun b z => absurd (show b ∈ ([] : List Addr) from z) (by simp)
  refine ⟨⟨e0.mod, L.kind, rfl, rfl, Nat.le_refl _, fun y z c a b => C.inj y z c a b, fun y hy => ?_, fun y c z _ => ?_, fun _ => hd, Around.frames_deeper e0.frames, .inr ⟨rfl, rfl⟩, fun b z => absurd z (noA b), e1.bs, e0.bsz, fun b _ _ => noA b,
      fun b z => absurd z (noA b), e0.funs, e1.frf⟩,
    rfl, e0.bare, Un.kept kp, ⟨m, hns, fun i y v a b d => ?_⟩, fun y c e => ?_, off_none (e0.hok.fresh (Nat.le_refl _)), fun y c e => ?_, fun p hp => absurd (show p ∈ ([] : List (Addr × Obj)) ++ [] from hp) (by simp), e1.hok.kept kp, hl⟩
  · have hy : scope.names.lookup y = some .cell ∨ scope.names.lookup y = some .free := hy
    rcases hy with hy | hy
    · exact absurd rfl (L.own _ (PySem.mem_of_lookup hy)).2
    · exact L.free _ (PySem.mem_of_lookup hy) rfl
  · have z : false = true := z
    cases z
  · have d : Vis scope y := d
    have a : N[i]? = some y := a
    rcases d with d | d | d
    · exact absurd (List.mem_of_getElem? a) ((L.own _ (PySem.mem_of_lookup d)).1 rfl)
    · exact absurd rfl (L.own _ (PySem.mem_of_lookup d)).2
    · obtain ⟨c, hc⟩ := L.free _ (PySem.mem_of_lookup d) rfl
      obtain ⟨ob, w', g1, g2, g3⟩ := cellK hc
      obtain ⟨u, rfl, r⟩ := g3 i v a b
      exact ⟨u, r, .inr ⟨.inr d, c, hc, ⟨ob, g1, g2⟩⟩⟩
  · obtain ⟨ob, w', g1, g2, _⟩ := cellK e
    exact ⟨w', ob, g1, g2⟩
  · obtain ⟨ob, w', g1, _⟩ := C.at_ y c e
    exact off_in (look_in g1)
end
section
variable {P : Program} {w : World} {H : Hp} {G : List (Addr × HO)} {outer : List Env} {s s' : Shared} {E' E : XK} {u : Value}
/-- an exception out of the body: what was taken out is put back -/
theorem back_cx (k : HOk P w H s.heap) (hG : ∀ b o, G.lookup b = some o → H b = some o ∧ ∃ ob, o = FnH b ob) (hfs : ∀ b ∈ frs outer, H b = none) (hE : ∀ c d H', (∀ b ∈ G.map (·.1), H' b = none) → E' c d H' → E c d (onto H' G)) (x : L2.CX P w outer (off H (G.map (·.1))) s E' u s') : L2.CX P w outer H s E u s' := by
  obtain ⟨a, B, H', cls, d, e0, fl, k', ub, na, os, ag, he⟩ := x
  have st := still_at k hG
  have gone : ∀ b ∈ G.map (·.1), H' b = none := fun b hb => by
    obtain ⟨o, ho⟩ := look_is hb
    obtain ⟨ob, _, e⟩ := st b o ho
    exact ub.free b ob e (off_in hb)
  have hn : ∀ b, H b = none → b ∉ G.map (·.1) := fun b n hm => by
    obtain ⟨o, ho⟩ := look_is hm
    rw [(hG b o ho).1] at n
    cases n
  have cellS : ∀ b o, G.lookup b = some o → ∃ ob, o = FnH b ob ∧ B.get? b = some ob := fun b o ho => by
    obtain ⟨ob, e, q⟩ := st b o ho
    refine ⟨ob, e, ub.keep b ob q (off_in (look_in ho)) fun z => ?_⟩
    have r := (hG b o ho).1
    rw [hfs b z] at r
    cases r
  have out : ∀ c u, H' c = some u → c ∉ G.map (·.1) := fun c u hc hm => by
    rw [gone c hm] at hc
    cases hc
  have nG : a ∉ G.map (·.1) := fun hm => by
    obtain ⟨o, ho⟩ := look_is hm
    obtain ⟨ob, _, q⟩ := cellS a o ho
    rw [fl.2.1] at q
    cases q
  refine ⟨a, B, onto H' G, cls, d, e0, fl, fun b o e => ?_, ⟨fun b o e n hb => ub.keep b o e (off_none n) hb, ub.slot, fun b o e n => by rw [onto_ne (hn b n)]; exact ub.free b o e (off_none n), ub.there, fun b xs e => ?_, fun b ob xs e => ?_, fun b ps e => ?_⟩, by rw [onto_ne nG]; exact na, os, ag, hE _ _ _ gone he⟩
  · by_cases hb : b ∈ G.map (·.1)
    · obtain ⟨o, ho⟩ := look_is hb
      rw [onto_in ho] at e
      cases e
      obtain ⟨ob, rfl, q⟩ := cellS b _ ho
      exact fnH_ok q
    · rw [onto_ne hb] at e
      exact (k' b o e).stay (fun _ _ _ q => q) (fun c q => by rw [onto_ne (out c _ q)]; exact q) fun c xs q => by rw [onto_ne (out c _ q)]; exact q
  · by_cases hb : b ∈ G.map (·.1)
    · obtain ⟨o', ho⟩ := look_is hb
      obtain ⟨a, ob, rfl⟩ := hG b o' ho
      rw [e] at a
      cases a
    · rw [onto_ne hb]
      exact ub.tups b xs (by rw [off_ne hb]; exact e)
  · by_cases hb : b ∈ G.map (·.1)
    · obtain ⟨o', ho⟩ := look_is hb
      rw [onto_in ho, ← (hG b o' ho).1, e]
    · rw [onto_ne hb]
      exact ub.frzs b ob xs (by rw [off_ne hb]; exact e)
  · by_cases hb : b ∈ G.map (·.1)
    · obtain ⟨o', ho⟩ := look_is hb
      obtain ⟨a, ob, rfl⟩ := hG b o' ho
      rw [e] at a
      cases a
    · rw [onto_ne hb]
      exact ub.tbls b ps (by rw [off_ne hb]; exact e)
end
/-- what a post wants of the heap, where what was taken out is put back -/
def bkQ (G : List (Addr × HO)) (Q : VK) : VK := fun v H' => (∀ b ∈ G.map (·.1), H' b = none) → Q v (onto H' G)
def bkE (G : List (Addr × HO)) (E : XK) : XK := fun c d H' => (∀ b ∈ G.map (·.1), H' b = none) → E c d (onto H' G)
section
variable {X : Cx} {H : Hp} {s : Shared} {N : List Str} {q : Str} {cl : List (Str × Addr)} {G : List (Addr × HO)} {σ : L2.St}
/-- a(), in the def that got the lambda; its maker has returned -/
theorem pe_clo {CXg : CXT} {Eg : XK} {Ng : List Str} {qg : Str} {sg : Scope} {g f c' : Addr} {cdg pm ctv dV doc : Value} {params : Arguments} {body : Expr} {scope : Scope} {k i : Nat} {a : Str} {pn : List (Addr × Obj)} {xe : Value → Shared → Prop} {W : WX} {E : XK} {tb : TE} {p1 p2 : Pos}
    (L : LamD N cl scope) (C : CloC H G cl N σ) (hl : σ.length = N.length) (hf : H f = some (FnH f (cloObj q params body scope cl pm c' ctv dV doc)))
    (hbind : ∀ (s' : Shared) (H' : Hp), HOk X.prog X.w H' s'.heap → (∀ b o u, H b = some (.frz o u) → H' b = some (.frz o u)) → ∃ binds : List (Str × Value), (∀ y ∈ binds, scope.names.lookup y.1 = some .local) ∧ BindsTo s' (cloFn q params body scope cl pm (.ref c') ctv dV doc) ⟨[], []⟩ binds)
    (tk : Takes ((cxOf CXg X.prog X.w X.K X.mg X.base Ng qg sg g cdg X.A X.stack s H Eg).tr pn xe) W) (hW : ∀ cls d σ' H', E cls d H' → W cls d σ' H') (hr : Room (k + 1) (X.A.deeper (envOfC qg sg s.heap.objs.size g cdg)))
    (hbody : ∀ (A : Around) (outer : List Env) (s : Shared) (H : Hp), Room k (A.deeper (PySem.W.envX q scope s.heap.objs.size f (.ref c') cl)) → PE (cloCx X.prog X.w X.K X.mg X.base A outer s H (bkE G E) N q scope f c' cl) body tb)
    (hN : Ng[i]? = some a) (hv : Vis sg a) (hd : (a == ("__debug__" : Str)) = false := by decide) (hcd : (a == ("__classdict__" : Str)) = false := by decide) :
    PE ((cxOf CXg X.prog X.w X.K X.mg X.base Ng qg sg g cdg X.A X.stack s H Eg).tr pn xe) (.Call (.Name a p1) [] [] p2)
      (fun σZ HZ Q => σZ[i]? = some (some (.ref f)) ∧ HZ c' = some (LamX.CodeO c' q) ∧ tb σ (off HZ (G.map (·.1))) (bkQ G Q)) := by
  refine ⟨fun pinsZ sZ σZ HZ Q IZ h => ?_⟩
  obtain ⟨hs, hc, ht⟩ := h
  refine wpAny_Call_Name_kw (thn ((pe_var (pos := p1) (i := i) hN hv hd hcd).run pinsZ sZ σZ HZ (fun v H1 => v = .ref f ∧ H1 = HZ) IZ ⟨.ref f, hs, rfl, rfl⟩) fun u s1 ⟨v, H1, I1, r1, q1⟩ => ?_)
  obtain ⟨ev, eH⟩ := q1
  subst ev
  rw [eH] at I1
  obtain rfl : u = Value.ref f := r1
  have un : Un (frs X.stack) [] H HZ s.heap s1.heap := I1.base
  have hfz := un.frzs f _ _ hf
  have of1 : s1.heap.get? f = some (cloObj q params body scope cl pm c' ctv dV doc) := (I1.hok f _ hfz).1
  have C1 := C.keep un.frzs
  refine PySem.W.callWith_F0 ⟨_, _, _, _, of1⟩ ?_
  obtain ⟨⟨oc, vs, t, hoc, hdc, hvc⟩, _, _⟩ := I1.hok c' _ hc
  have e0 := I1.env0
  obtain ⟨binds, hloc, hb⟩ := hbind s1 HZ I1.hok un.frzs
  have rc : codeAny (model X.prog X.w) (X.A.deeper (envOfC qg sg s.heap.objs.size g cdg)) (.call (.ref f) ⟨[], []⟩) (CR (L2.CX X.prog X.w) (envOfC qg sg s.heap.objs.size g cdg :: X.stack) X.prog X.w HZ s1 Q E) s1 := by
    refine PySem.W.kla_callFunE hr.depth of1 rfl L.co L.gen rfl ⟨c', oc, vs, t, rfl, hoc, hdc, hvc⟩ ?_
    refine hb _ _ _ _ ?_
    refine wpAny_newFunctionEnv (fun y hy => (L.own y hy).2) hloc (fun h₁ hns hsb => ⟨I1.nolimit.fresh _ hsb, ?_⟩) L.kind
    show codeAny _ _ (.expr body (PySem.W.envX q scope s1.heap.objs.size f (.ref c') cl)) _ _
    have kp : ∀ b o, s1.heap.get? b = some o → h₁.get? b = some o := fun b o e => hsb.extBut b o (Nat.ne_of_lt (Heap.lt_size e)) (Heap.get?_push_of_some _ e)
    have J : Inv (cloCx X.prog X.w X.K X.mg X.base (X.A.deeper (envOfC qg sg s.heap.objs.size g cdg)) (envOfC qg sg s.heap.objs.size g cdg :: X.stack) s1 (off HZ (G.map (·.1))) (bkE G E) N q scope f c' cl) [] σ (off HZ (G.map (·.1))) { s1 with heap := h₁, toks := s1.toks + binds.length } :=
      clo_start (E := bkE G E) (q := q) (f := f) (c' := c') (tk := s1.toks + binds.length) L C1 hl e0 hr.hd hns kp
    have hB := hbody (X.A.deeper (envOfC qg sg s.heap.objs.size g cdg)) (envOfC qg sg s.heap.objs.size g cdg :: X.stack) s1 (off HZ (G.map (·.1))) (hr.deeper _)
    refine PySem.W.kla_codeExpr (wpAny_mono (hB.run [] _ _ (off HZ (G.map (·.1))) (bkQ G Q) J ht) (fun v s' hq => ?_) fun e s' hq => ?_)
    · obtain ⟨w', H', J', rv, q⟩ := hq
      obtain ⟨gone, un', k'⟩ := back_un e0.hok C1.st e0.frf J'.base J'.hok
      exact ⟨w', onto H' G, J'.os, J'.bare, un', k', rv, q gone⟩
    · exact wpAny_mono hq (fun _ _ z => back_cx e0.hok C1.st e0.frf (fun _ _ _ g z => z g) z) fun _ _ z => back_cx e0.hok C1.st e0.frf (fun _ _ _ g z => z g) z
  have hx : Passes (L2.CX X.prog X.w) ((cxOf CXg X.prog X.w X.K X.mg X.base Ng qg sg g cdg X.A X.stack s H Eg).tr pn xe) E := passes_call tk hW
  refine wpAny_call (codeAny_mono rc fun r s' hq => ?_)
  cases r with
  | error e => exact hx pinsZ σZ HZ s1 e s' I1 hq
  | ok fl =>
    cases fl with
    | ret u => exact I1.after hq
    | next => exact False.elim hq
    | brk => exact False.elim hq
    | cont => exact False.elim hq
end
/-! ### a lambda is made, its cells and its default told -/
/-- what is wanted ahead of the making of a lambda -/
def tMk (P : Addr) (q : Str) (params : Arguments) (body : Expr) (scope : Scope) (cl : List (Str × Addr)) (dV : Value) (H : Hp) (Q : VK) : Prop := ∃ tb : Array Value, H P = some (.tbl tb) ∧ TriplesOk tb.toList ∧ (∀ p cv, codeAmong p tb.toList = some cv → ∃ c, cv = .ref c ∧ H c = some (LamX.CodeO c q)) ∧
  ∀ f c' pm ct doc H1, LamStep H H1 P tb q c' → (H c' ≠ none → ∃ p, codeAmong p tb.toList = some (.ref c')) → H1 f = none → H1 c' = some (LamX.CodeO c' q) → Q (.ref f) (upd H1 f (FnH f (cloObj q params body scope cl pm c' ct dV doc)))
def tLamC (P : Addr) (q : Str) (params : Arguments) (body : Expr) (scope : Scope) (cl : List (Str × Addr)) : TE := fun _ H Q => tMk P q params body scope cl .none H Q
def tLamCd (P : Addr) (q : Str) (params : Arguments) (body : Expr) (scope : Scope) (cl : List (Str × Addr)) (i : Int) : TE := fun _ H Q => ∀ (T : Addr) (t : Tok), H T = none → tMk P q params body scope cl (.ref T) (upd H T (FnH T (PySem.W.kdv_tup [.int i t]))) Q
section
variable {X : Cx} {pins : List (Addr × Obj)} {σ : L2.St} {H : Hp} {s : Shared}
theorem tail_mk {c P : Addr} {params : Arguments} {body : Expr} {scope : Scope} {pos : Pos} {fl : Nat} {E : Value → Shared → Prop} {Q : Value → Shared → Prop} {tb : Array Value} {q : Str} {dV : Value} (I : Inv X pins σ H s) (B : LamX.TabB X.base X.mg c P) (hco : X.env.code = .ref c)
    (hP : H P = some (.tbl tb)) (ok : TriplesOk tb.toList) (known : ∀ p cv, codeAmong p tb.toList = some cv → ∃ c, cv = .ref c ∧ H c = some (LamX.CodeO c q)) (hfr : ∀ y ∈ scope.names, y.2 = .free → ∃ c, X.env.cells.lookup y.1 = some c)
    (go : ∀ (f c' : Addr) (pm ct doc : Value) (H1 : Hp) (s1 : Shared), LamStep H H1 P tb q c' → (H c' ≠ none → ∃ p, codeAmong p tb.toList = some (.ref c')) → H1 f = none → H1 c' = some (LamX.CodeO c' q) →
      Inv X pins σ (upd H1 f (FnH f (cloObj q params body scope (cloFrom X.env.cells scope.names []) pm c' ct dV doc))) s1 → Q (.ref f) s1) :
    wpAny (model X.prog X.w) X.A (makeTail "<lambda>" q params (.expr body) scope X.env dV .none none pos fl) Q E s := by
  have bP : s.heap.BuiltinsAt X.mg P := B.bm.keeps I.bk
  have tP : s.heap.get? P = some { cls := .none, data := .fields tb } := I.hok P _ hP
  cases hc : codeAmong pos tb.toList with
  | some cv =>
    obtain ⟨c', e, oc⟩ := known pos cv hc
    subst e
    refine PySem.W.kdv_makeTailHit (mg := X.mg) (c := c) (P := P) (ps := tb) (closure_ok hfr) I.ok.glob (I.mod.glob.keeps I.bk) hco (B.code.keeps I.bk) tP ok hc bP fun ct doc h1 tk old big => ?_
    exact go h1.objs.size c' ((X.mg "__name__").getD .none) ct doc H _ (.inl ⟨rfl, oc⟩) (fun _ => ⟨pos, hc⟩) (I.hok.fresh big) oc (I.laid (fun b o e => Heap.get?_push_of_some _ (old b o e)) big (fnH_ok (Heap.get?_push_size _ rfl)))
  | none =>
    refine PySem.W.kdv_makeTail (mg := X.mg) (c := c) (P := P) (ps := tb) (closure_ok hfr) I.ok.glob (I.mod.glob.keeps I.bk) hco (B.code.keeps I.bk) tP ok hc B.gP bP fun c' ct doc h1 tk old ge lt rec tab => ?_
    obtain ⟨c2, oc, vs, t, e2, ho, hd, hv⟩ := rec
    cases e2
    have nC : H c' = none := I.hok.fresh ge
    have nCP : c' ≠ P := fun z => by rw [z, hP] at nC; cases nC
    have eL : (tb ++ #[rawInt pos.line, rawInt pos.col, .ref c']).toList = tb.toList ++ [rawInt pos.line, rawInt pos.col, .ref c'] := by simp
    have I1 := LamX.inv_table (t' := tk) (more := #[rawInt pos.line, rawInt pos.col, .ref c']) (q := q) (h' := h1) I hP (fun b o hb e => old b o hb e) tab ge ⟨oc, vs, t, ho, hd, hv⟩
    have nf : upd (upd H P (.tbl (tb ++ #[rawInt pos.line, rawInt pos.col, .ref c']))) c' (LamX.CodeO c' q) h1.objs.size = none := I1.hok.fresh (Nat.le_refl _)
    refine go h1.objs.size c' ((X.mg "__name__").getD .none) ct doc _ _ (.inr ⟨nC, nCP, _, rfl, ?_, fun p cv h => ?_⟩) (fun z => absurd nC z) nf upd_same (I1.laid (t' := tk) (fun b o e => Heap.get?_push_of_some _ e) (Nat.le_refl _) (fnH_ok (Heap.get?_push_size _ rfl)))
    · rw [eL]
      exact PySem.TriplesOk_snoc _ _ _ _ ok
    · rw [eL] at h
      exact LamX.among_app _ ok h
end
section
variable {X : Cx}
theorem pe_lamC {c P : Addr} {params : Arguments} {body : Expr} {scope : Scope} {pos : Pos} (B : LamX.TabB X.base X.mg c P) (hco : X.env.code = .ref c) (nodef : params.defaults = []) (nokw : params.kw_defaults = []) (hfr : ∀ y ∈ scope.names, y.2 = .free → X.env.scope.names.lookup y.1 = some .cell ∨ X.env.scope.names.lookup y.1 = some .free) :
    PE X (.Lambda params body scope pos) (tLamC P (X.env.qual ++ "<lambda>") params body scope (cloFrom X.env.cells scope.names [])) := by
  refine ⟨fun pins s σ H Q I ⟨tb, hP, ok, kn, h⟩ => ?_⟩
  have hfr' : ∀ y ∈ scope.names, y.2 = .free → ∃ c, X.env.cells.lookup y.1 = some c := fun y hy e => (hfr y hy e).elim (fun k => I.ok.has _ (.inl k)) fun k => I.ok.has _ (.inr k)
  rw [arm_eval_Lambda, defaultsOf_eq, nokw, nodef]
  show wpAny _ X.A (do let dv ← evalAll []; let kdv ← holding dv (evalAllOpt []); makeFunction "<lambda>" (X.env.qual ++ "<lambda>") params (.expr body) scope X.env dv kdv [] pos pos.line) _ _ s
  refine wpAny_bind (wpAny_pure (wpAny_bind (wpAny_holding (wpAny_pure ?_))))
  rw [makeFunction_eq]
  simp only [List.zip_nil_right, List.filterMap_nil, List.isEmpty_nil, if_true, pure_bind]
  exact tail_mk I B hco hP ok kn hfr' fun f c' pm ct doc H1 s1 st kn' nf hc I1 => ⟨.ref f, _, I1, rfl, h f c' pm ct doc H1 st kn' nf hc⟩
theorem pe_lamCd {c P : Addr} {params : Arguments} {body : Expr} {scope : Scope} {pos p2 : Pos} {i : Int} {j : Nat} (B : LamX.TabB X.base X.mg c P) (hco : X.env.code = .ref c) (def1 : params.defaults = [.Constant (.int i) j p2]) (nokw : params.kw_defaults = []) (hfr : ∀ y ∈ scope.names, y.2 = .free → X.env.scope.names.lookup y.1 = some .cell ∨ X.env.scope.names.lookup y.1 = some .free) :
    PE X (.Lambda params body scope pos) (tLamCd P (X.env.qual ++ "<lambda>") params body scope (cloFrom X.env.cells scope.names []) i) := by
  refine ⟨fun pins s σ H Q I h0 => ?_⟩
  have hfr' : ∀ y ∈ scope.names, y.2 = .free → ∃ c, X.env.cells.lookup y.1 = some c := fun y hy e => (hfr y hy e).elim (fun k => I.ok.has _ (.inl k)) fun k => I.ok.has _ (.inr k)
  have ne : params.defaults.isEmpty = false := by rw [def1]; rfl
  refine PySem.W.kdv_lam ne nokw ?_
  rw [def1]
  refine PySem.W.kdv_all1 (wpAny_Constant_int ?_)
  refine PySem.W.kdv_all0 ?_
  rw [makeFunction_eq]
  simp only [List.zip_nil_right, List.filterMap_nil, List.isEmpty_nil, List.isEmpty_cons, Bool.false_eq_true, if_false, if_true, pure_bind]
  refine wpAny_bind (wpAny_newTextTuple ?_)
  have hT : H s.heap.objs.size = none := I.hok.fresh (Nat.le_refl _)
  have I1 : Inv X pins σ (upd H s.heap.objs.size (FnH s.heap.objs.size (PySem.W.kdv_tup [.int i s.toks]))) { s with heap := s.heap.push (PySem.W.kdv_tup [.int i s.toks]), toks := s.toks + 1 } :=
    I.laid (t' := s.toks + 1) (fun b o e => Heap.get?_push_of_some _ e) (Nat.le_refl _) (fnH_ok (Heap.get?_push_size _ rfl))
  obtain ⟨tb, hP, ok, kn, h⟩ := h0 s.heap.objs.size s.toks hT
  exact tail_mk I1 B hco hP ok kn hfr' fun f c' pm ct doc H1 s1 st kn' nf hc I2 => ⟨.ref f, _, I2, rfl, h f c' pm ct doc H1 st kn' nf hc⟩
end
/-! ### the def that makes lambdas, and returns them -/
/-- statements that end with a return: what is returned, the slots then -/
abbrev TR := (L2.St → Hp → V → Prop) → L2.St → Hp → Prop
structure PSr (X : Cx) (sts : List Stmt) (t : TR) : Prop where
  run : ∀ (s : Shared) (σ : L2.St) (H : Hp) (D : L2.St → Hp → V → Prop), Inv X [] σ H s → t D σ H → wpAny (model X.prog X.w) X.A (execs sts X.env) (fun f s' => ∃ u v σ' H', f = Flow.ret u ∧ Inv X [] σ' H' s' ∧ RelV v u ∧ D σ' H' v) X.xe s
section
variable {X : Cx} {st : Stmt} {rest : List Stmt} {t : TS} {u : TR} {e : Expr} {te : TE} {pos : Pos}
theorem psr_ret (he : PE X e te) : PSr X [.Return (some e) pos] (fun D σ H => te σ H fun v H' => D σ H' v) := by
  refine ⟨fun s σ H D I h => ?_⟩
  refine wpAny_execs_cons (wpAny_Return_some (thn (he.run [] s σ H _ I h) fun v s1 ⟨x, H1, I1, r1, q1⟩ => ?_))
  exact ⟨v, x, σ, H1, rfl, I1, r1, q1⟩
theorem psr_cons (h1 : PS X st t) (h2 : PSr X rest u) : PSr X (st :: rest) (fun D σ H => t { nx := fun σ' H' => u D σ' H', rt := fun _ _ => False } σ H) := by
  refine ⟨fun s σ H D I h => ?_⟩
  refine wpAny_execs_cons (thn (h1.run [] s σ H _ I h) fun f s1 q => ?_)
  cases f with
  | next =>
    obtain ⟨σ', H', I', q⟩ := q
    exact h2.run s1 σ' H' D I' q
  | ret v =>
    obtain ⟨_, _, _, _, _, z⟩ := q
    exact z.elim
  | brk =>
    obtain ⟨_, _, _, z⟩ := q
    exact z.elim
  | cont =>
    obtain ⟨_, _, _, z⟩ := q
    exact z.elim
end
/-- the cells of a def, at its end -/
structure EndC (sg : Scope) (cells : List (Str × Addr)) (N : List Str) (σ : L2.St) (H : Hp) (G : List (Addr × HO)) : Prop where
  none : ∀ b ∈ G.map (·.1), H b = none
  fn : ∀ b o, G.lookup b = some o → ∃ ob, o = FnH b ob
  at_ : ∀ y c, sg.names.lookup y = some .cell → cells.lookup y = some c → ∃ ob w, G.lookup c = some (FnH c ob) ∧ ob.data = .cell w ∧ ∀ (i : Nat) (v : V), N[i]? = some y → σ[i]? = some (some v) → ∃ u, w = some u ∧ RelV v u
/-- the cells of a def, at its begin -/
structure CellsOk (cells : List (Str × Addr)) (sg : Scope) : Prop where
  inj : ∀ x y c, cells.lookup x = some c → cells.lookup y = some c → x = y
  has : ∀ y, sg.names.lookup y = some .cell → ∃ c, cells.lookup y = some c
theorem addr_nodup {h : Heap} : ∀ {l : List (Str × Addr)}, (∀ p ∈ l, ∃ v, h.IsCell p.2 v) → ∃ G : List (Addr × HO), (∀ b o, G.lookup b = some o → ∃ ob, o = FnH b ob ∧ h.get? b = some ob) ∧ (∀ b ∈ G.map (·.1), ∃ p ∈ l, p.2 = b) ∧ ∀ p ∈ l, ∃ ob w, G.lookup p.2 = some (FnH p.2 ob) ∧ h.get? p.2 = some ob ∧ ob.data = .cell w
  | [], _ => ⟨[], fun _ _ e => (nomatch e), fun _ e => absurd e (by simp), fun _ e => absurd e (by simp)⟩
  | q :: l, hl => by
    obtain ⟨G, g1, g2, g3⟩ := addr_nodup (l := l) fun p hp => hl p (List.mem_cons_of_mem _ hp)
    obtain ⟨v, ob, ho, hd⟩ := hl q List.mem_cons_self
    refine ⟨(q.2, FnH q.2 ob) :: G, fun b o e => ?_, fun b hb => ?_, fun p hp => ?_⟩
    · by_cases z : b = q.2
      · subst z
        simp only [List.lookup, beq_self_eq_true] at e
        cases e
        exact ⟨ob, rfl, ho⟩
      · have z' : (b == q.2) = false := by simpa using z
        simp only [List.lookup, z'] at e
        exact g1 b o e
    · simp only [List.map_cons, List.mem_cons] at hb
      rcases hb with rfl | hb
      · exact ⟨q, List.mem_cons_self, rfl⟩
      · obtain ⟨p, hp, e⟩ := g2 b hb
        exact ⟨p, List.mem_cons_of_mem _ hp, e⟩
    · by_cases z : p.2 = q.2
      · refine ⟨ob, v, ?_, by rw [z]; exact ho, hd⟩
        rw [z]
        simp [List.lookup]
      · have z' : (p.2 == q.2) = false := by simpa using z
        rcases List.mem_cons.mp hp with rfl | hp
        · exact absurd rfl z
        · obtain ⟨ob', w', a, b, c⟩ := g3 p hp
          exact ⟨ob', w', by simp only [List.lookup, z']; exact a, b, c⟩
section
variable {X : Cx}
/-- x(e, ..), a def whose lambdas outlive it -/
theorem pe_maker {x : Str} {st : Stmt} {g : Addr} {oc : Value} {od an : Option Addr} {osl : Array (Option Value)} {kV doc pm cdv ct : Value} {Ng ps : List Str} {j : Nat} {es : List Expr} {t : TA} {ti : List (Str × Addr) → TR} {px pos : Pos}
    (hm : X.mg x = some (.ref g)) (hk : PySem.W.keepIn X.K (.ref g) = true) (lk : X.K.lookup g = some ⟨oc, od, .func (PySem.W.fnOf x x (defArgs st) (defBody st) (defScope st) .none kV doc pm an cdv ct), osl⟩) (hcg : PySem.W.codeIn X.K cdv x = true)
    (hb : Binds X.K (PySem.W.fnOf x x (defArgs st) (defBody st) (defScope st) .none kV doc pm an cdv ct) ps []) (Sg : FnScope Ng ps (defScope st)) (hr : Room (j + 1) X.A)
    (hbody : ∀ (A : Around) (outer : List Env) (s : Shared) (H : Hp), Room j A → PSr (CxT X.prog X.w X.K X.mg X.base Ng x st g cdv A outer s H (fun _ _ _ => False)) (defBody st) (ti (CxT X.prog X.w X.K X.mg X.base Ng x st g cdv A outer s H (fun _ _ _ => False)).env.cells))
    (ha : PA X es t) (hg : Gl X x) (hdb : (x == ("__debug__" : Str)) = false) (he : ∃ e es', es = e :: es' ∧ starEach (e :: es') X.env = (false, eval e X.env) :: starEach es' X.env ∧ (backTo pos (starEach es' X.env)).any (·.1) = false) :
    PE X (.Call (.Name x px) es [] pos) (fun σ H Q => t σ H fun vs H1 => vs.length = ps.length ∧ ∀ cells, CellsOk cells (defScope st) → ti cells (fun σ' H' v => ∀ G, EndC (defScope st) cells Ng σ' H' G → Q v (onto H' G)) (L2.start Ng vs) H1) := by
  obtain ⟨e, es', rfl, hs, hpl⟩ := he
  refine ⟨fun pins s σ H Q I h => ?_⟩
  refine wpAny_Call_Name_kw (ld_glob I hg hm ?_ hdb)
  refine PySem.W.callWith_K (h₀ := X.base) I.ok.mod.kin hk (thn (ha.run pos pins s σ H _ I h) fun us s1 ⟨vs, H1, I1, r1, q1⟩ => ⟨I1.kIn, ?_⟩) hs hpl
  obtain ⟨hvl, q1⟩ := q1
  have hul : us.length = ps.length := by rw [← r1.length, hvl]
  have e0 := I1.env0
  have rc : codeAny (model X.prog X.w) X.A (.call (.ref g) ⟨us, []⟩) (CR (L2.CX X.prog X.w) X.stack X.prog X.w H1 s1 Q (fun _ _ _ => False)) s1 := by
    have KX : X.K.In s1.heap := I1.kIn
    have lim := I1.nolimit
    have hkind : ∀ y ∈ ps.zip us, (defScope st).names.lookup y.1 = some .local ∨ ((defScope st).names.lookup y.1 = some .cell ∧ ((cellsFrom (s1.heap.objs.size + 1) (defScope st).names []).lookup y.1).isSome = true) := fun ⟨n, v⟩ hy => by
      rcases Sg.par n (List.of_mem_zip hy).1 with q | q
      · exact .inl q
      · exact .inr ⟨q, PySem.W.cellsFrom_some _ _ _ (.inl q)⟩
    have hbt : BindsTo s1 (PySem.W.fnOf x x (defArgs st) (defBody st) (defScope st) .none kV doc pm an cdv ct) ⟨us, []⟩ (ps.zip us) := by
      have z := hb s1 us KX (by rw [List.append_nil]; exact hul)
      simpa using z
    refine codeAny_call_function (hr.mono (Nat.le_refl _)).depth (KX _ _ lk) rfl Sg.co Sg.gen rfl (PySem.W.codeRec_of KX hcg) (hbt _ _ _ _ ?_)
    refine wpAny_newFunctionEnv_cells Sg.kind hkind fun env he s2 y => ?_
    subst he
    refine ⟨lim.keeps y.toInCall.keep, codeAny_func ?_⟩
    have J : Inv (CxT X.prog X.w X.K X.mg X.base Ng x st g cdv X.A X.stack s1 H1 (fun _ _ _ => False)) [] (L2.start Ng vs) H1 s2 := inv_start Sg hr.hd e0 hvl r1 y
    have ck : CellsOk (CxT X.prog X.w X.K X.mg X.base Ng x st g cdv X.A X.stack s1 H1 (fun _ _ _ => False)).env.cells (defScope st) := ⟨J.ok.inj, fun y hy => J.ok.has y (.inl hy)⟩
    refine wpAny_mono ((hbody X.A X.stack s1 H1 (hr.mono (Nat.le_succ j))).run s2 _ H1 _ J (q1 _ ck)) (fun fl s' hq => ?_) fun e s' hq => ?_
    · obtain ⟨u, v, σ', H', rfl, J', rv, D⟩ := hq
      generalize hY : CxT X.prog X.w X.K X.mg X.base Ng x st g cdv X.A X.stack s1 H1 (fun _ _ _ => False) = Y at J' D ck
      have hcl : ∀ y c, Y.env.cells.lookup y = some c → (y, c) ∈ Y.env.cells.filter fun p => decide (Y.env.cells.lookup p.1 = some p.2) := fun y c e => List.mem_filter.mpr ⟨PySem.mem_of_lookup e, decide_eq_true e⟩
      obtain ⟨G, g1, g2, g3⟩ := addr_nodup (h := s'.heap) (l := Y.env.cells.filter fun p => decide (Y.env.cells.lookup p.1 = some p.2)) fun p hp => J'.cell p.1 p.2 (of_decide_eq_true (List.mem_filter.mp hp).2)
      have gl : ∀ b ∈ G.map (·.1), ∃ y, Y.env.cells.lookup y = some b := fun b hb => by
        obtain ⟨p, hp, rfl⟩ := g2 b hb
        exact ⟨p.1, of_decide_eq_true (List.mem_filter.mp hp).2⟩
      have free : ∀ b ∈ G.map (·.1), H' b = none := fun b hb => by
        obtain ⟨y, hy⟩ := gl b hb
        exact J'.freeC y b hy
      have hE : EndC (defScope st) Y.env.cells Ng σ' H' G := ⟨free, fun b o e => by
        obtain ⟨ob, h1, _⟩ := g1 b o e
        exact ⟨ob, h1⟩, fun y c kd0 e => by
        obtain ⟨ob, w', h1, h2, h3⟩ := g3 (y, c) (hcl y c e)
        refine ⟨ob, w', h1, h3, fun i v' hn hv => ?_⟩
        have kd : Y.env.scope.names.lookup y = some .cell := by
          subst hY
          exact kd0
        have hn' : Y.N[i]? = some y := by
          subst hY
          exact hn
        obtain ⟨m, _, hl⟩ := J'.loc
        obtain ⟨u', r', q⟩ := hl i y v' hn' hv (.inr (.inl kd))
        refine ⟨u', ?_, r'⟩
        rcases q with ⟨k', _⟩ | ⟨_, c2, e2, ob2, o2, d2⟩
        · have k' : Y.env.scope.names.lookup y = some .local := k'
          rw [kd] at k'
          cases k'
        · rw [e] at e2
          cases e2
          have h2 : s'.heap.get? c = some ob := h2
          rw [h2] at o2
          cases o2
          rw [h3] at d2
          injection d2⟩
      have above : ∀ b ∈ G.map (·.1), s1.heap.objs.size ≤ b := fun b hb => by
        obtain ⟨z, hz⟩ := gl b hb
        subst hY
        exact J'.ok.cab z b rfl hz
      have old : ∀ b o, s1.heap.get? b = some o → b ∉ G.map (·.1) := fun b o e hb => absurd (Nat.lt_of_lt_of_le (Heap.lt_size e) (above b hb)) (Nat.lt_irrefl _)
      have out : ∀ c u, H' c = some u → c ∉ G.map (·.1) := fun c u hc hm => by
        rw [free c hm] at hc
        cases hc
      have un : Un (frs X.stack) [] H1 H' s1.heap s'.heap := by
        subst hY
        exact J'.base
      have os : s'.os = s1.os := by
        subst hY
        exact J'.os
      have hok : HOk X.prog X.w H' s'.heap := by
        subst hY
        exact J'.hok
      refine ⟨v, onto H' G, os, J'.bare, ⟨un.keep, un.slot, fun b o e n hx => by rw [onto_ne (old b o e)]; exact un.free b o e n hx, un.there, fun b xs e => by rw [onto_ne (out b _ (un.tups b xs e))]; exact un.tups b xs e, fun b o u e => by rw [onto_ne (out b _ (un.frzs b o u e))]; exact un.frzs b o u e, fun b ps e => ?tb⟩, fun b o e => ?ok, rv, D G hE⟩
      case tb =>
        obtain ⟨more, e1⟩ := un.tbls b ps e
        exact ⟨more, by rw [onto_ne (out b _ e1)]; exact e1⟩
      case ok =>
        by_cases hb : b ∈ G.map (·.1)
        · obtain ⟨o', ho⟩ := look_is hb
          rw [onto_in ho] at e
          cases e
          obtain ⟨ob, rfl, q⟩ := g1 b _ ho
          exact fnH_ok q
        · rw [onto_ne hb] at e
          exact (hok b o e).stay (fun _ _ _ q => q) (fun c q => by rw [onto_ne (out c _ q)]; exact q) fun c xs q => by rw [onto_ne (out c _ q)]; exact q
    · exact hq
  refine wpAny_call (codeAny_mono rc fun r s' hq => ?_)
  cases r with
  | error e =>
    obtain ⟨_, _, _, _, _, _, _, _, _, _, _, _, z⟩ := hq
    exact z.elim
  | ok fl =>
    cases fl with
    | ret u => exact I1.after hq
    | next => exact False.elim hq
    | brk => exact False.elim hq
    | cont => exact False.elim hq
end
/-! ### _law_word(w), w a name -/
/-- the lambda at f, its maker gone: tl is what its call is told by -/
def CloAt (P : Program) (w : World) (K : PySem.W.Frag) (mg : Str → Option Value) (base : Heap) (k : Nat) (q : Str) (H : Hp) (f : Addr) (tl : XK → Hp → VK → Prop) : Prop :=
  ∃ (c' : Addr) (pm ct dV doc : Value) (params : Arguments) (body : Expr) (scope : Scope) (cl : List (Str × Addr)) (G : List (Addr × HO)) (N : List Str) (σy : L2.St) (tb : XK → TE),
    H f = some (FnH f (cloObj q params body scope cl pm c' ct dV doc)) ∧ H c' = some (LamX.CodeO c' q) ∧ LamD N cl scope ∧ CloC H G cl N σy ∧ σy.length = N.length ∧
    (∀ (s' : Shared) (H' : Hp), HOk P w H' s'.heap → (∀ b o u, H b = some (.frz o u) → H' b = some (.frz o u)) → ∃ binds : List (Str × Value), (∀ y ∈ binds, scope.names.lookup y.1 = some .local) ∧ BindsTo s' (cloFn q params body scope cl pm (.ref c') ct dV doc) ⟨[], []⟩ binds) ∧
    (∀ (A : Around) (outer : List Env) (s : Shared) (H : Hp) (E : XK), Room k (A.deeper (PySem.W.envX q scope s.heap.objs.size f (.ref c') cl)) → PE (cloCx P w K mg base A outer s H E N q scope f c' cl) body (tb E)) ∧
    ∀ (E : XK) (HZ : Hp) (Q : VK), tl E HZ Q → tb (bkE G E) σy (off HZ (G.map (·.1))) (bkQ G Q)
section
variable {X : Cx}
theorem pe_wordC {st : Stmt} {T : Addr} {k i : Nat} {q y : Str} {p py pos : Pos} (G : WordFn X.prog X.w X.K X.mg X.base st T) (hg : Gl X "_law_word") (hr : Room (k + 2) X.A) (hN : X.N[i]? = some y) (hv : Vis X.env.scope y)
    (hd : (y == ("__debug__" : Str)) = false := by decide) (hcd : (y == ("__classdict__" : Str)) = false := by decide) :
    PE X (.Call (.Name "_law_word" p) [.Name y py] [] pos) (fun σ H Q => ∃ f tl, σ[i]? = some (some (.ref f)) ∧ CloAt X.prog X.w X.K X.mg X.base k q H f tl ∧ TTw X.K X.mg T tl H Q) := by
  obtain ⟨g, oc, od, an, osl, kV, doc0, pm0, cdv, ct0, Ng, hm, hk, lk, hcg, hb, Sg, hNg, hva, hG⟩ := G
  refine ⟨fun pins s σ H Q I ⟨f, tl, hi, hC, h⟩ => ?_⟩
  refine wpAny_Call_Name_kw (ld_glob I hg hm ?_ (by decide))
  refine PySem.W.callWith_K (h₀ := X.base) I.ok.mod.kin hk (thn ((pa_cons (pe_var (i := i) hN hv hd hcd) pa_nil).run pos pins s σ H (fun vs H1 => vs = [.ref f] ∧ H1 = H) I ⟨.ref f, hi, rfl, rfl⟩) fun us s1 ⟨vs, H1, I1, r1, q1⟩ => ⟨I1.kIn, ?_⟩) rfl rfl
  obtain ⟨rfl, rfl⟩ := q1
  obtain ⟨u1, rfl, ru⟩ := vals1 r1
  obtain rfl : u1 = Value.ref f := ru
  obtain ⟨c', pm, ct, dV, doc, params, body, scope, cl, Gc, N, σy, tb, hf, hc', L, C, hl, hbind, hbody, htl⟩ := hC
  have rc : codeAny (model X.prog X.w) X.A (.call (.ref g) ⟨[.ref f], []⟩) (CR C8.CX0 X.stack X.prog X.w H1 s1 Q C8.E0) s1 := by
    refine LamX.run_ofS (N := Ng) (ps := ["_law_work"]) (us := [.ref f]) (vs := [.ref f]) lk hcg Sg hr I1.env0 (hb s1 [.ref f] I1.kIn rfl) (.cons rfl .nil) rfl fun hr' => ?_
    obtain ⟨t', z1, z2⟩ := hG X q rfl rfl rfl rfl rfl f c' s1 H1 Q tl
      (fun W pn xe E p1 p2 tk hW => ⟨fun pinsZ sZ σZ HZ QZ IZ hZ => (pe_clo (i := 0) (E := E) L C hl hf hbind tk hW hr' (fun A outer s H hr2 => hbody A outer s H _ hr2) hNg hva (by decide) (by decide)).run pinsZ sZ σZ HZ QZ IZ ⟨hZ.1, hZ.2.1, htl E HZ QZ hZ.2.2⟩⟩) hc' h
    exact ⟨t', z1.nox, z2⟩
  refine wpAny_call (codeAny_mono rc fun r s2 hq => ?_)
  cases r with
  | error e => exact (show False from hq).elim
  | ok fl =>
    cases fl with
    | ret u => exact I1.after hq
    | next => exact False.elim hq
    | brk => exact False.elim hq
    | cont => exact False.elim hq
end
end Tg

set_option Elab.async false
set_option linter.all false
set_option maxRecDepth 100000
set_option maxHeartbeats 4000000
/-! TgCloT: a def that makes a list of lambdas: what its statements want. -/
namespace Tg
open PySem PySem.Spec PyProof.Rows L2
structure Lm where
  params : Arguments
  body : Expr
  scope : Scope
  dflt : Option Int
def tLm (P : Addr) (q : Str) (cells : List (Str × Addr)) (l : Lm) : TE := match l.dflt with
  | none => tLamC P q l.params l.body l.scope (cloFrom cells l.scope.names [])
  | some i => tLamCd P q l.params l.body l.scope (cloFrom cells l.scope.names []) i
def tApps (K : PySem.W.Frag) (P : Addr) (q : Str) (cells : List (Str × Addr)) (ir : Nat) : List Lm → TR
  | [] => fun D σ H => tVar ir σ H fun v H' => D σ H' v
  | l :: ls => fun D σ H => tDrop (tBM K "list" rAppend (tVar ir) (tCons (tLm P q cells l) tNil)) { nx := fun σ' H' => tApps K P q cells ir ls D σ' H', rt := fun _ _ => False } σ H
def tMkr (K : PySem.W.Frag) (P : Addr) (q : Str) (cells : List (Str × Addr)) (ir : Nat) (l1 l2 : Lm) (ls : List Lm) : TR := fun D σ H =>
  tAsg (tLst (tCons (tLm P q cells l1) (tCons (tLm P q cells l2) tNil))) (gName ir) { nx := fun σ' H' => tApps K P q cells ir ls D σ' H', rt := fun _ _ => False } σ H
theorem upd_onto {H : Hp} {G : List (Addr × HO)} {f : Addr} {o : HO} : upd (onto H G) f o = onto H ((f, o) :: G) := by
  funext b
  by_cases e : b = f
  · subst e
    rw [upd_same]
    unfold onto
    simp [List.lookup]
  · have e' : (b == f) = false := by simpa using e
    rw [upd_ne e]
    unfold onto
    simp only [List.lookup, e']
theorem onto_upd {H : Hp} {G : List (Addr × HO)} {a : Addr} {o : HO} (h : a ∉ G.map (·.1)) : upd (onto H G) a o = onto (upd H a o) G := by
  funext b
  by_cases e : b = a
  · subst e
    rw [upd_same, onto_ne h, upd_same]
  · rw [upd_ne e]
    unfold onto
    cases G.lookup b with
    | some o => rfl
    | none => exact (upd_ne e).symm
theorem onto_none {H : Hp} {G : List (Addr × HO)} {b : Addr} (h : onto H G b = none) : b ∉ G.map (·.1) ∧ H b = none := by
  have n : b ∉ G.map (·.1) := fun hm => by
    obtain ⟨o, ho⟩ := look_is hm
    rw [onto_in ho] at h
    cases h
  rw [onto_ne n] at h
  exact ⟨n, h⟩
/-- the state within the making: the world's heap, and what lies beside it -/
structure MInv (P : Addr) (q : Str) (H1 : Hp) (G : List (Addr × HO)) : Prop where
  tab : ∃ tb : Array Value, H1 P = some (.tbl tb) ∧ TriplesOk tb.toList ∧ ∀ p cv, codeAmong p tb.toList = some cv → ∃ c, cv = .ref c ∧ H1 c = some (LamX.CodeO c q)
  new : ∀ b ∈ G.map (·.1), H1 b = none
  kind : ∀ b o, G.lookup b = some o → (∃ ob, o = FnH b ob) ∨ ∃ xs, o = .lst xs
/-- from one to another, for all worlds -/
def Gr (K : PySem.W.Frag) (mg : Str → Option Value) (H H1 : Hp) : Prop := (∀ W A, Ok K mg W A H → ∃ W1, Ok K mg W1 A H1 ∧ Ext W H W1 H1) ∧ ∀ c q, H c = some (LamX.CodeO c q) → H1 c = some (LamX.CodeO c q)
theorem Gr.refl {K : PySem.W.Frag} {mg : Str → Option Value} {H : Hp} : Gr K mg H H := ⟨fun W A k => ⟨W, k, Ext.refl _ _⟩, fun _ _ h => h⟩
theorem Gr.trans {K : PySem.W.Frag} {mg : Str → Option Value} {H H1 H2 : Hp} (a : Gr K mg H H1) (b : Gr K mg H1 H2) : Gr K mg H H2 := ⟨fun W A k => by
  obtain ⟨W1, k1, e1⟩ := a.1 W A k
  obtain ⟨W2, k2, e2⟩ := b.1 W1 A k1
  exact ⟨W2, k2, e1.trans e2⟩, fun c q h => b.2 c q (a.2 c q h)⟩
theorem code_not {c : Addr} {q : Str} : (∀ ob, LamX.CodeO c q ≠ FnH c ob) ∧ ∀ xs, LamX.CodeO c q ≠ .lst xs := ⟨fun ob z => (nomatch z), fun xs z => (nomatch z)⟩
theorem MInv.cons {P : Addr} {q : Str} {H1 : Hp} {G : List (Addr × HO)} (I : MInv P q H1 G) {f : Addr} {o : HO} (hf : H1 f = none) (ho : (∃ ob, o = FnH f ob) ∨ ∃ xs, o = .lst xs) : MInv P q H1 ((f, o) :: G) := ⟨I.tab, fun b hb => by
  rcases List.mem_cons.mp hb with rfl | hb
  · exact hf
  · exact I.new b hb, fun b u e => by
  by_cases z : b = f
  · subst z
    simp only [List.lookup, beq_self_eq_true] at e
    cases e
    exact ho
  · have z' : (b == f) = false := by simpa using z
    simp only [List.lookup, z'] at e
    exact I.kind b u e⟩
section
variable {K : PySem.W.Frag} {mg : Str → Option Value} {P : Addr} {q x : Str} (hx : x ∈ lamDefs) (hP : tabA K mg x = some P) (hu : ∀ y ∈ lamDefs, tabA K mg y = some P → y = x) (hq : q = lamQ x)
include hx hP hu hq
theorem mk_te {H1 : Hp} {G : List (Addr × HO)} {params : Arguments} {body : Expr} {scope : Scope} {cl : List (Str × Addr)} {dV : Value} {Q : VK} (I : MInv P q H1 G)
    (go : ∀ f c' pm ct doc H2, MInv P q H2 ((f, FnH f (cloObj q params body scope cl pm c' ct dV doc)) :: G) → Gr K mg H1 H2 → H2 c' = some (LamX.CodeO c' q) → f ∉ G.map (·.1) → Q (.ref f) (onto H2 ((f, FnH f (cloObj q params body scope cl pm c' ct dV doc)) :: G))) :
    tMk P q params body scope cl dV (onto H1 G) Q := by
  obtain ⟨tb, t1, t2, t3⟩ := I.tab
  have hPG : P ∉ G.map (·.1) := fun hm => by
    have z := I.new P hm
    rw [t1] at z
    cases z
  have inH : ∀ {c : Addr}, H1 c ≠ none → c ∉ G.map (·.1) := fun {c} h hm => h (I.new c hm)
  refine ⟨tb, by rw [onto_ne hPG]; exact t1, t2, fun p cv h => ?_, fun f c' pm ct doc H1' st _ nf hc => ?_⟩
  · obtain ⟨c, e1, e2⟩ := t3 p cv h
    exact ⟨c, e1, by rw [onto_ne (inH (by rw [e2]; exact fun z => nomatch z))]; exact e2⟩
  · have noCode : ∀ {H : Hp}, onto H G c' = some (LamX.CodeO c' q) → c' ∉ G.map (·.1) := fun {H} h hm => by
      obtain ⟨o, ho⟩ := look_is hm
      rw [onto_in ho] at h
      have h := Option.some.inj h
      subst h
      rcases I.kind c' _ ho with ⟨ob, z⟩ | ⟨xs, z⟩
      · exact code_not.1 ob z
      · exact code_not.2 xs z
    rcases st with ⟨rfl, oc⟩ | ⟨nC, nP, more, rfl, ok, kn⟩
    · obtain ⟨nf1, nf2⟩ := onto_none nf
      have hc1 := hc
      rw [onto_ne (noCode hc)] at hc1
      rw [upd_onto]
      exact go f c' pm ct doc H1 (I.cons nf2 (.inl ⟨_, rfl⟩)) Gr.refl hc1 nf1
    · obtain ⟨nC1, nC2⟩ := onto_none nC
      have eq : upd (upd (onto H1 G) P (.tbl (tb ++ more))) c' (LamX.CodeO c' q) = onto (upd (upd H1 P (.tbl (tb ++ more))) c' (LamX.CodeO c' q)) G := by
        rw [onto_upd hPG, onto_upd nC1]
      rw [eq] at nf ⊢
      obtain ⟨nf1, nf2⟩ := onto_none nf
      rw [upd_onto]
      have at_ : ∀ b, b ≠ P → b ≠ c' → upd (upd H1 P (.tbl (tb ++ more))) c' (LamX.CodeO c' q) b = H1 b := fun b h1 h2 => by rw [upd_ne h2, upd_ne h1]
      have keepC : ∀ c q', H1 c = some (LamX.CodeO c q') → upd (upd H1 P (.tbl (tb ++ more))) c' (LamX.CodeO c' q) c = some (LamX.CodeO c q') := fun c q' h => by
        rw [at_ c (fun z => by rw [z, t1] at h; exact LamX.codeO_ne _ (Option.some.inj h).symm) (fun z => by rw [z, nC2] at h; cases h)]
        exact h
      have I2 : MInv P q (upd (upd H1 P (.tbl (tb ++ more))) c' (LamX.CodeO c' q)) G := ⟨⟨tb ++ more, by rw [upd_ne (Ne.symm nP), upd_same], ok, fun p cv h => by
        rcases kn p cv h with h | h
        · obtain ⟨c, e1, e2⟩ := t3 p cv h
          exact ⟨c, e1, keepC _ _ e2⟩
        · exact ⟨c', h, upd_same⟩⟩, fun b hb => by
        rw [at_ b (fun z => hPG (z ▸ hb)) (fun z => nC1 (z ▸ hb))]
        exact I.new b hb, I.kind⟩
      refine go f c' pm ct doc _ (I2.cons nf2 (.inl ⟨_, rfl⟩)) ⟨fun W A k => ?_, keepC⟩ upd_same nf1
      subst hq
      exact k.lam hx hP hu t1 (.inr ⟨nC2, nP, more, rfl, ok, kn⟩)
/-- a lambda as it lies beside the world -/
def FnF (q : Str) (cells : List (Str × Addr)) (H : Hp) (G : List (Addr × HO)) (l : Lm) (f : Addr) : Prop :=
  ∃ (c' : Addr) (pm ct dV doc : Value), G.lookup f = some (FnH f (cloObj q l.params l.body l.scope (cloFrom cells l.scope.names []) pm c' ct dV doc)) ∧ H c' = some (LamX.CodeO c' q) ∧ (match l.dflt with
    | none => dV = .none
    | some i => ∃ (T : Addr) (t : Tok), dV = .ref T ∧ G.lookup T = some (FnH T (PySem.W.kdv_tup [.int i t])))
omit hx hP hu hq in
theorem FnF.keep {cells : List (Str × Addr)} {H H1 : Hp} {G G1 : List (Addr × HO)} {l : Lm} {f : Addr} (h : FnF q cells H G l f) (kH : ∀ c q, H c = some (LamX.CodeO c q) → H1 c = some (LamX.CodeO c q)) (kG : ∀ b ob, G.lookup b = some (FnH b ob) → G1.lookup b = some (FnH b ob)) : FnF q cells H1 G1 l f := by
  obtain ⟨c', pm, ct, dV, doc, h1, h2, h3⟩ := h
  refine ⟨c', pm, ct, dV, doc, kG _ _ h1, kH _ _ h2, ?_⟩
  cases e : l.dflt with
  | none =>
    rw [e] at h3
    exact h3
  | some i =>
    rw [e] at h3
    obtain ⟨T, t, h4, h5⟩ := h3
    exact ⟨T, t, h4, kG _ _ h5⟩
omit hx hP hu hq in
theorem cons_keep {G : List (Addr × HO)} {f b : Addr} {o u : HO} (hf : f ∉ G.map (·.1)) (h : G.lookup b = some u) : ((f, o) :: G).lookup b = some u := by
  have z : b ≠ f := fun z => hf (z ▸ look_in h)
  have z' : (b == f) = false := by simpa using z
  simp only [List.lookup, z']
  exact h
theorem lm_te {H1 : Hp} {G : List (Addr × HO)} {cells : List (Str × Addr)} {l : Lm} {σ : L2.St} {Q : VK} (I : MInv P q H1 G)
    (go : ∀ f H2 G2, MInv P q H2 G2 → Gr K mg H1 H2 → (∀ b o, G.lookup b = some o → G2.lookup b = some o) → FnF q cells H2 G2 l f → Q (.ref f) (onto H2 G2)) : tLm P q cells l σ (onto H1 G) Q := by
  unfold tLm
  cases e : l.dflt with
  | none =>
    refine mk_te hx hP hu hq I fun f c' pm ct doc H2 I2 g hc nf => go f H2 _ I2 g (fun b o h => cons_keep nf h) ⟨c', pm, ct, .none, doc, by simp [List.lookup], hc, ?_⟩
    rw [e]
  | some i =>
    intro T t hT
    obtain ⟨nT1, nT2⟩ := onto_none hT
    rw [upd_onto]
    refine mk_te hx hP hu hq (I.cons nT2 (.inl ⟨_, rfl⟩)) fun f c' pm ct doc H2 I2 g hc nf => go f H2 _ I2 g (fun b o h => cons_keep nf (cons_keep nT1 h)) ⟨c', pm, ct, .ref T, doc, by simp [List.lookup], hc, ?_⟩
    rw [e]
    exact ⟨T, t, rfl, cons_keep nf (by simp [List.lookup])⟩
inductive AllF (q : Str) (cells : List (Str × Addr)) (H : Hp) (G : List (Addr × HO)) : List Lm → List Addr → Prop where
  | nil : AllF q cells H G [] []
  | cons {l : Lm} {f : Addr} {ls : List Lm} {fs : List Addr} : FnF q cells H G l f → AllF q cells H G ls fs → AllF q cells H G (l :: ls) (f :: fs)
omit hx hP hu hq in
theorem AllF.get {cells : List (Str × Addr)} {H : Hp} {G : List (Addr × HO)} : ∀ {ls : List Lm} {fs : List Addr} {i : Nat} {f : Addr}, AllF q cells H G ls fs → fs[i]? = some f → ∃ l, ls[i]? = some l ∧ FnF q cells H G l f
  | _, _, _, _, .nil, e => by simp at e
  | _, _, 0, _, .cons h _, e => by
    simp at e
    subst e
    exact ⟨_, rfl, h⟩
  | _, _, i + 1, _, .cons _ t, e => by
    obtain ⟨l, h1, h2⟩ := AllF.get (i := i) t (by simpa using e)
    exact ⟨l, by simpa using h1, h2⟩
omit hx hP hu hq in
theorem AllF.len {cells : List (Str × Addr)} {H : Hp} {G : List (Addr × HO)} : ∀ {ls : List Lm} {fs : List Addr}, AllF q cells H G ls fs → fs.length = ls.length
  | _, _, .nil => rfl
  | _, _, .cons _ t => by simp [AllF.len t]
/-- what has been made, at the end -/
def MEnd (K : PySem.W.Frag) (mg : Str → Option Value) (P : Addr) (q : Str) (cells : List (Str × Addr)) (H1 : Hp) (G : List (Addr × HO)) (ls : List Lm) (p : Addr) (fs : List Addr) (H2 : Hp) (G2 : List (Addr × HO)) : Prop :=
  MInv P q H2 G2 ∧ Gr K mg H1 H2 ∧ (∀ b ob, G.lookup b = some (FnH b ob) → G2.lookup b = some (FnH b ob)) ∧ ∃ fs', G2.lookup p = some (.lst ((fs ++ fs').map V.ref)) ∧ AllF q cells H2 G2 ls fs'
theorem apps_te {cells : List (Str × Addr)} {ir : Nat} {D : L2.St → Hp → V → Prop} {p : Addr} {σ : L2.St} (hσ : σ[ir]? = some (some (.ref p))) : ∀ {ls : List Lm} {fs : List Addr} {H1 : Hp} {G : List (Addr × HO)}, MInv P q H1 G → G.lookup p = some (.lst (fs.map V.ref)) → fs.length + ls.length < sizeLine →
    (∀ H2 G2, MEnd K mg P q cells H1 G ls p fs H2 G2 → D σ (onto H2 G2) (.ref p)) → tApps K P q cells ir ls D σ (onto H1 G)
  | [], fs, H1, G, I, hp, hl, fin => ⟨.ref p, hσ, fin H1 G ⟨I, Gr.refl, fun _ _ h => h, [], by rw [List.append_nil]; exact hp, .nil⟩⟩
  | l :: ls, fs, H1, G, I, hp, hl, fin => by
    simp only [List.length_cons] at hl
    refine ⟨.ref p, hσ, .inl ⟨rfl, _, .inl (.inl (onto_in hp))⟩, ?_⟩
    refine lm_te hx hP hu hq I fun f H2 G2 I2 g kG hF => ?_
    have hp2 := kG _ _ hp
    refine ⟨p, fs.map V.ref, .ref f, rfl, rfl, onto_in hp2, by rw [List.length_map]; omega, ?_⟩
    rw [upd_onto]
    have hpn : H2 p = none := I2.new p (look_in hp2)
    refine apps_te (fs := fs ++ [f]) hσ (I2.cons hpn (.inr ⟨_, rfl⟩)) (by simp [List.lookup]) (by rw [List.length_append, List.length_singleton]; omega) fun H3 G3 ⟨I3, g3, k3, fs', e3, a3⟩ => ?_
    have kk : ∀ b ob, G2.lookup b = some (FnH b ob) → G3.lookup b = some (FnH b ob) := fun b ob h => k3 b ob (by
      have z : b ≠ p := fun z => by
        rw [z, hp2] at h
        exact nomatch h
      have z' : (b == p) = false := by simpa using z
      simp only [List.lookup, z']
      exact h)
    exact fin H3 G3 ⟨I3, g.trans g3, fun b ob h => kk b ob (kG _ _ h), f :: fs', by rw [e3, List.append_assoc]; rfl, .cons (hF.keep g3.2 kk) a3⟩
theorem mkr_te {cells : List (Str × Addr)} {ir : Nat} {D : L2.St → Hp → V → Prop} {σ : L2.St} {l1 l2 : Lm} {ls : List Lm} {H1 : Hp} {G : List (Addr × HO)} (hir : ir < σ.length) (hls : ls.length < 1000) (I : MInv P q H1 G)
    (fin : ∀ p fs H2 G2, MInv P q H2 G2 → Gr K mg H1 H2 → G2.lookup p = some (.lst (fs.map V.ref)) → AllF q cells H2 G2 (l1 :: l2 :: ls) fs → D (σ.set ir (some (.ref p))) (onto H2 G2) (.ref p)) : tMkr K P q cells ir l1 l2 ls D σ (onto H1 G) := by
  refine lm_te hx hP hu hq I fun f1 H2 G2 I2 g2 k2 F1 => ?_
  refine lm_te hx hP hu hq I2 fun f2 H3 G3 I3 g3 k3 F2 => ⟨by rw [sizeLine_eq]; exact Nat.le_of_ble_eq_true rfl, fun p np => ?_⟩
  obtain ⟨np1, np2⟩ := onto_none np
  rw [upd_onto]
  have kp : ∀ b o, G3.lookup b = some o → ((p, HO.lst [V.ref f1, V.ref f2]) :: G3).lookup b = some o := fun b o h => cons_keep np1 h
  refine apps_te hx hP hu hq (fs := [f1, f2]) (List.getElem?_set_self hir) (I3.cons np2 (.inr ⟨_, rfl⟩)) (by simp [List.lookup]) (by rw [sizeLine_eq]; show 2 + ls.length < _; omega) fun H4 G4 ⟨I4, g4, k4, fs', e4, a4⟩ => ?_
  refine fin p ([f1, f2] ++ fs') H4 G4 I4 ((g2.trans g3).trans g4) e4 ?_
  have kk : ∀ b ob, G3.lookup b = some (FnH b ob) → G4.lookup b = some (FnH b ob) := fun b ob h => k4 b ob (kp _ _ h)
  exact .cons ((F1.keep g3.2 (fun b ob h => k3 b _ h)).keep g4.2 kk) (.cons (F2.keep g4.2 kk) a4)
end
end Tg

set_option Elab.async false
set_option linter.all false
set_option maxRecDepth 100000
set_option maxHeartbeats 4000000
/-! TgCloS: [_law_word(w) for w in x(..)], x a def that makes a list of lambdas. -/
namespace Tg
open PySem PySem.Spec PyProof.Rows L2
section
variable {K : PySem.W.Frag} {mg : Str → Option Value} {W W' : Wd} {A A' : AH} {H H0 H' : Hp} {G : List (Addr × HO)}
theorem ok_is {k : Ok K mg W A H} {a : Addr} (h : a ∈ W.m) : (∃ xs, H a = some (.lst xs)) ∨ (∃ vs, H a = some (.dK vs)) ∨ (∃ c dx vs, H a = some (.ins c dx vs)) ∨ ∃ o u, H a = some (.frz o u) := by
  obtain ⟨n, e⟩ := List.getElem?_of_mem h
  obtain ⟨o, _, z⟩ := k.at e
  cases o with
  | lst ds =>
    obtain ⟨xs, e, _⟩ := z
    exact .inl ⟨xs, e⟩
  | dct kvs =>
    obtain ⟨vs, e, _⟩ := z
    exact .inr (.inl ⟨vs, e⟩)
  | ins c fs =>
    obtain ⟨dx, vs, e, _⟩ := z
    exact .inr (.inr (.inl ⟨_, dx, vs, e⟩))
  | lck kvs =>
    obtain ⟨od, vs, e, _⟩ := z
    exact .inr (.inr (.inr ⟨_, _, e⟩))
  | lam =>
    obtain ⟨o, φ, e⟩ := z
    exact .inr (.inr (.inr ⟨_, _, e⟩))
theorem code_out (k : Ok K mg W A H) {c : Addr} {q : Str} (h : H c = some (LamX.CodeO c q)) : c ∉ W.m := fun hm => by
  rcases ok_is (k := k) hm with ⟨xs, e⟩ | ⟨vs, e⟩ | ⟨c1, dx, vs, e⟩ | ⟨o, u, e⟩ <;> rw [e] at h <;> exact nomatch h
/-- things laid beside the world -/
theorem Ok.onto (k : Ok K mg W A H) : ∀ {G : List (Addr × HO)}, (∀ b ∈ G.map (·.1), H b = none) → (∀ b o, G.lookup b = some o → ∀ tb, o ≠ .tbl tb) → Ok K mg W A (Tg.onto H G) ∧ Ext W H W (Tg.onto H G) := fun {G} hn ht => by
  have at_ : ∀ b o, H b = some o → Tg.onto H G b = some o := fun b o e => by
    rw [onto_ne (fun hm => by rw [hn b hm] at e; cases e)]
    exact e
  have nm : ∀ {n : Nat} {a : Addr}, W.m[n]? = some a → a ∉ G.map (·.1) := fun e hm => k.notm (hn _ hm) (List.mem_of_getElem? e)
  have nF : ∀ {a : Addr} {o : HO}, W.F a = some o → a ∉ G.map (·.1) := fun {a o} e hm => by
    rw [k.notF (hn a hm)] at e
    cases e
  refine ⟨⟨fun a o e => by rw [onto_ne (nF e)]; exact k.frz a o e, fun n a u e1 e2 => (k.sep n a u e1 e2).at rfl (onto_ne (nm e1)), k.nd, k.len, fun n a u e1 e2 => by rw [onto_ne (nm e1)]; exact k.obj n a u e1 e2, fun y hy P' hP' => ?_⟩, ⟨Le.refl W, fun a o e _ _ => at_ a o e, fun a e => (onto_none e).2, fun a u e n => (by rw [n] at e; cases e), fun a h1 h2 => absurd h1 h2⟩⟩
  have t := k.tab y hy P' hP'
  obtain ⟨tb, e1, _⟩ := t.at_
  exact t.keep (fun _ _ e => e) (onto_ne fun hm => by rw [hn _ hm] at e1; cases e1) t.nm t.nF
/-- .. and taken from it again -/
theorem Ok.undoG (hn : ∀ b ∈ G.map (·.1), H0 b = none) (ht : ∀ b o, G.lookup b = some o → ∀ tb, o ≠ .tbl tb) (k0 : Ok K mg W A H0) (e : Ext W (Tg.onto H0 G) W' H') (k' : Ok K mg W' A' H') :
    ∃ H1, H' = Tg.onto H1 G ∧ (∀ b ∈ G.map (·.1), H1 b = none) ∧ Ok K mg W' A' H1 ∧ Ext W H0 W' H1 := by
  have stay : ∀ b o, G.lookup b = some o → H' b = some o := fun b o ho => e.out b o (onto_in ho) (ht b o ho) (k0.notm (hn b (look_in ho)))
  have nm : ∀ b ∈ G.map (·.1), b ∉ W'.m := fun b hb hm => by
    have z := e.fm b hm (k0.notm (hn b hb))
    obtain ⟨o, ho⟩ := look_is hb
    rw [onto_in ho] at z
    cases z
  have nF : ∀ b ∈ G.map (·.1), W'.F b = none := fun b hb => by
    cases q : W'.F b with
    | none => rfl
    | some o =>
      have z := e.fF b o q (k0.notF (hn b hb))
      obtain ⟨o', ho⟩ := look_is hb
      rw [onto_in ho] at z
      cases z
  have inF : ∀ {a : Addr} {o : HO}, W'.F a = some o → a ∉ G.map (·.1) := fun {a o} h hm => by
    rw [nF a hm] at h
    cases h
  have inm : ∀ {n : Nat} {a : Addr}, W'.m[n]? = some a → a ∉ G.map (·.1) := fun h hm => nm _ hm (List.mem_of_getElem? h)
  refine ⟨off H' (G.map (·.1)), ?_, fun b hb => off_in hb, ⟨fun a o h => by rw [off_ne (inF h)]; exact k'.frz a o h, fun n a u e1 e2 => (k'.sep n a u e1 e2).at rfl (off_ne (inm e1)), k'.nd, k'.len, fun n a u e1 e2 => by rw [off_ne (inm e1)]; exact k'.obj n a u e1 e2, fun y hy P' hP' => ?_⟩, ⟨e.le, fun a o h t n => ?_, fun a h => ?_, fun a o h n => ?_, fun a h n => ?_⟩⟩
  · funext b
    by_cases hb : b ∈ G.map (·.1)
    · obtain ⟨o, ho⟩ := look_is hb
      rw [onto_in ho]
      exact stay b o ho
    · rw [onto_ne hb, off_ne hb]
  · have t := k'.tab y hy P' hP'
    obtain ⟨tb, e1, _⟩ := t.at_
    refine t.keep (fun _ _ e => e) (off_ne fun hm => ?_) t.nm t.nF
    obtain ⟨o, ho⟩ := look_is hm
    rw [stay _ o ho] at e1
    exact ht _ o ho tb (Option.some.inj e1)
  · have na : a ∉ G.map (·.1) := fun hm => by
      rw [hn a hm] at h
      cases h
    rw [off_ne na]
    exact e.out a o (by rw [onto_ne na]; exact h) t n
  · by_cases hb : a ∈ G.map (·.1)
    · exact hn a hb
    · rw [off_ne hb] at h
      exact (onto_none (e.dom a h)).2
  · exact (onto_none (e.fF a o h n)).2
  · exact (onto_none (e.fm a h n)).2
/-- a stretch that ran without some things, seen with them -/
theorem ext_back (hn : ∀ b ∈ G.map (·.1), H0 b = none) (gone : ∀ b ∈ G.map (·.1), H' b = none) (ht : ∀ b o, G.lookup b = some o → ∀ tb, o ≠ .tbl tb) (k0 : Ok K mg W A H0) (e : Ext W H0 W' H') (k' : Ok K mg W' A' H') : Ok K mg W' A' (Tg.onto H' G) ∧ Ext W (Tg.onto H0 G) W' (Tg.onto H' G) := by
  obtain ⟨k1, e1⟩ := k'.onto gone ht
  refine ⟨k1, ⟨e.le, fun a o h t n => ?_, fun a h => ?_, fun a o h n => ?_, fun a h n => ?_⟩⟩
  · by_cases hb : a ∈ G.map (·.1)
    · obtain ⟨o', ho⟩ := look_is hb
      rw [onto_in ho] at h ⊢
      exact h
    · rw [onto_ne hb] at h ⊢
      exact e.out a o h t n
  · obtain ⟨n1, n2⟩ := onto_none h
    rw [onto_ne n1]
    exact e.dom a n2
  · have hb : a ∉ G.map (·.1) := fun hm => by
      rw [k'.notF (gone a hm)] at h
      cases h
    rw [onto_ne hb]
    exact e.fF a o h n
  · have hb : a ∉ G.map (·.1) := fun hm => k'.notm (gone a hm) h
    rw [onto_ne hb]
    exact e.fm a h n
end
/-! ### the mirror -/
def runWs (bs : List ME) (s : Sl) (A : AH) : R (List D) := match bs with
  | [] => .ok [] A
  | b :: bs => (wordR (b s A)).bind fun d A1 => (runWs bs s A1).bind fun ys A2 => .ok (d :: ys) A2
/-- [_law_word(w) for w in x(..)]: the block's name j; x's parameters n, its names m; pre: its statements ahead of the list; bs: the lambdas' bodies -/
def mWks (j n m : Nat) (pre : MS) (bs : List ME) (ma : MA) : ME := fun s A => if j < s.length then ((ma s A).bind fun ds A1 => if ds.length = n then (match pre (startD m ds) A1 with
  | .nx s' A2 => if s'.length = m then (runWs bs s' A2).bind fun ys A3 => .ok (.lst ys) A3 else .bad
  | _ => .bad) else .bad) else .bad
/-! ### the terms -/
def tWks (K : PySem.W.Frag) (n : Nat) (Ng : List Str) (sg : Scope) (tpre : TS) (P : Addr) (q : Str) (ir : Nat) (l1 l2 : Lm) (ls : List Lm) (ta : TA) : TE := fun σ H Q => ta σ H fun vs H1 => vs.length = n ∧ ∀ cells, CellsOk cells sg →
  (fun (D : L2.St → Hp → V → Prop) σ H => tpre { nx := fun σ' H' => tMkr K P q cells ir l1 l2 ls D σ' H', rt := fun _ _ => False } σ H) (fun σ' H' v => ∀ G, EndC sg cells Ng σ' H' G → Q v (onto H' G)) (L2.start Ng vs) H1
def tWdC (Pg : Program) (w : World) (K : PySem.W.Frag) (mg : Str → Option Value) (base : Heap) (k : Nat) (q : Str) (T : Addr) (i : Nat) : TE := fun σ H Q => ∃ f tl, σ[i]? = some (some (.ref f)) ∧ CloAt Pg w K mg base k q H f tl ∧ TTw K mg T tl H Q
/-- what a lambda of the list must bear -/
structure LmOk (sg : Scope) (N : List Str) (l : Lm) : Prop where
  kind : l.scope.kind = .function
  co : l.scope.isCoroutine = false
  gen : l.scope.isGenerator = false
  own : ∀ y ∈ l.scope.names, (y.2 = .local → y.1 ∉ N) ∧ y.2 ≠ .cell
  free : ∀ y ∈ l.scope.names, y.2 = .free → sg.names.lookup y.1 = some .cell
  bind : match l.dflt with
    | none => ∀ (q : Str) (cl : List (Str × Addr)) (pm cv ct doc : Value), bindArgs (cloFn q l.params l.body l.scope cl pm cv ct .none doc) ⟨[], []⟩ = pure []
    | some _ => ∃ y : Str, l.scope.names.lookup y = some .local ∧ ∀ (q : Str) (cl : List (Str × Addr)) (pm cv ct doc : Value) (T : Addr) (v : Value), ∃ k, bindArgs (cloFn q l.params l.body l.scope cl pm cv ct (.ref T) doc) ⟨[], []⟩ = seqItems? (.ref T) >>= k ∧ k (some #[v]) = pure [(y, v)]
section
variable {Pg : Program} {w : World} {K : PySem.W.Frag} {mg : Str → Option Value} {base : Heap} {k : Nat} {q : Str} {sg : Scope} {N : List Str} {cells : List (Str × Addr)} {l : Lm}
theorem lm_cl (L : LmOk sg N l) (C : CellsOk cells sg) : (∀ y c, (cloFrom cells l.scope.names []).lookup y = some c → cells.lookup y = some c ∧ sg.names.lookup y = some .cell) ∧ LamD N (cloFrom cells l.scope.names []) l.scope := by
  refine ⟨fun y c e => ?_, ⟨L.kind, L.co, L.gen, L.own, fun y hy e => ?_⟩⟩
  · rcases cloFrom_mem (PySem.mem_of_lookup e) with hm | ⟨h1, h2⟩
    · cases hm
    · have hs := L.free _ h1 rfl
      obtain ⟨c1, hc⟩ := C.has y hs
      have e2 : c = c1 := by
        rw [h2, hc] <;> rfl
      rw [e2]
      exact ⟨hc, hs⟩
  · have hy' : (y.1, NameKind.free) ∈ l.scope.names := by
      rw [← e]
      exact hy
    exact mem_lookup (cloFrom_has (cells := cells) (acc := []) hy')
/-- a lambda of the list, at a heap where the list has been made -/
theorem clo_of (L : LmOk sg N l) (C : CellsOk cells sg) {H : Hp} {Gc G2 : List (Addr × HO)} {σ σ' : L2.St} {f ir : Nat} {y0 : Str} {t : XK → TE} (hir : N[ir]? = some y0) (hy0 : sg.names.lookup y0 ≠ some .cell) (hσ : ∀ (i : Nat) v, i ≠ ir → σ[i]? = some (some v) → σ'[i]? = some (some v)) (hl : σ.length = N.length)
    (hE : ∃ He, EndC sg cells N σ' He Gc) (hGc : ∀ b o, Gc.lookup b = some o → H b = some o) (hG2 : ∀ b ob, G2.lookup b = some (FnH b ob) → H b = some (FnH b ob)) {H2 : Hp} (hc2 : ∀ c q', H2 c = some (LamX.CodeO c q') → H c = some (LamX.CodeO c q')) (hF : FnF q cells H2 G2 l f)
    (hbody : ∀ (A : Around) (outer : List Env) (s : Shared) (H : Hp) (E : XK) (f c' : Addr) (cl : List (Str × Addr)), Room k (A.deeper (PySem.W.envX q l.scope s.heap.objs.size f (.ref c') cl)) → PE (cloCx Pg w K mg base A outer s H E N q l.scope f c' cl) l.body (t E)) :
    CloAt Pg w K mg base k q H f (fun E HZ Q => t (bkE Gc E) σ (off HZ (Gc.map (·.1))) (bkQ Gc Q)) := by
  obtain ⟨c', pm, ct, dV, doc, h1, h2, h3⟩ := hF
  obtain ⟨He, E⟩ := hE
  obtain ⟨cm, LD⟩ := lm_cl L C
  refine ⟨c', pm, ct, dV, doc, l.params, l.body, l.scope, cloFrom cells l.scope.names [], Gc, N, σ, t, hG2 _ _ h1, hc2 _ _ h2, LD, ⟨fun b o e => ⟨hGc b o e, E.fn b o e⟩, fun x y c a b => C.inj x y c (cm x c a).1 (cm y c b).1, fun y c e => ?_⟩, hl, ?_, fun A outer s H E hr => hbody A outer s H E f c' _ hr, fun E HZ Q h => h⟩
  · obtain ⟨e1, e2⟩ := cm y c e
    obtain ⟨ob, w', a, b, d⟩ := E.at_ y c e2 e1
    refine ⟨ob, w', a, b, fun i v hn hv => d i v hn (hσ i v (fun z => ?_) hv)⟩
    rw [z, hir] at hn
    cases hn
    exact hy0 e2
  · have B := L.bind
    cases e : l.dflt with
    | none =>
      rw [e] at B h3
      dsimp only at B h3
      subst h3
      exact fun s' H' _ _ => ⟨[], fun y hy => absurd hy (by simp), BindsTo.of_eq (B _ _ _ _ _ _)⟩
    | some i =>
      rw [e] at B h3
      dsimp only at B h3
      obtain ⟨T, tk, rfl, hT⟩ := h3
      obtain ⟨y, hy, hb⟩ := B
      intro s' H' k' kf
      have ho : s'.heap.get? T = some (PySem.W.kdv_tup [.int i tk]) := (k' T _ (kf T _ _ (hG2 _ _ hT))).1
      obtain ⟨kk, b1, b2⟩ := hb q (cloFrom cells l.scope.names []) pm (.ref c') ct doc T (.int i tk)
      exact ⟨[(y, .int i tk)], fun z hz => by rw [List.mem_singleton.mp hz]; exact hy, BindsTo.of_defaults (T := T) rfl ho rfl b1 b2⟩
end
theorem onto_app {H : Hp} {G G2 : List (Addr × HO)} : onto (onto H G2) G = onto H (G ++ G2) := by
  funext b
  unfold onto
  induction G with
  | nil => rfl
  | cons p G ih =>
    by_cases e : b = p.1
    · have e' : (b == p.1) = true := by simpa using e
      simp only [List.cons_append, List.lookup, e']
    · have e' : (b == p.1) = false := by simpa using e
      simp only [List.cons_append, List.lookup, e']
      exact ih
theorem look_app {G G2 : List (Addr × HO)} {b : Addr} : (G ++ G2).lookup b = (G.lookup b).or (G2.lookup b) := by
  induction G with
  | nil => rfl
  | cons p G ih =>
    by_cases e : b = p.1
    · have e' : (b == p.1) = true := by simpa using e
      simp only [List.cons_append, List.lookup, e']
      rfl
    · have e' : (b == p.1) = false := by simpa using e
      simp only [List.cons_append, List.lookup, e']
      exact ih
theorem onto_swap {H : Hp} {G G2 : List (Addr × HO)} {D : Addr} {o : HO} (h : D ∉ G.map (·.1)) : onto H ((D, o) :: (G ++ G2)) = onto (onto H ((D, o) :: G2)) G := by
  rw [onto_app]
  funext b
  unfold onto
  by_cases e : b = D
  · have e' : (b == D) = true := by simpa using e
    rw [look_app, show G.lookup b = none from look_out (e ▸ h)]
    simp only [List.lookup, e']
    rfl
  · have e' : (b == D) = false := by simpa using e
    rw [look_app]
    simp only [List.lookup, e']
    rw [look_app]
theorem onto_two {H : Hp} {G : List (Addr × HO)} {D : Addr} {o u : HO} : onto H ((D, u) :: (D, o) :: G) = onto H ((D, u) :: G) := by
  funext b
  unfold onto
  by_cases e : b = D
  · have e' : (b == D) = true := by simpa using e
    simp only [List.lookup, e']
  · have e' : (b == D) = false := by simpa using e
    simp only [List.lookup, e']
theorem off_onto {H : Hp} {G : List (Addr × HO)} (h : ∀ b ∈ G.map (·.1), H b = none) : off (onto H G) (G.map (·.1)) = H := by
  funext b
  by_cases hb : b ∈ G.map (·.1)
  · rw [off_in hb, h b hb]
  · rw [off_ne hb, onto_ne hb]
section
variable {K : PySem.W.Frag} {mg : Str → Option Value}
/-- one of the list, told -/
theorem word_sim (Wc : WordC K mg) {T : Addr} (hT : mg "TagError" = some (.ref T)) {t : XK → TE} {m : ME} (hs : ∀ E, SimE K mg (fun c d _ H => E c d H) (t E) m) {W : Wd} {A : AH} {H : Hp} {G : List (Addr × HO)} {s : Sl} {σ : L2.St} {E' : XK} {Q : VK} (k : Ok K mg W A H) (sr : SlR K W s σ)
    (hn : ∀ b ∈ G.map (·.1), H b = none) (ht : ∀ b o, G.lookup b = some o → ∀ tb, o ≠ .tbl tb) (z : Post K mg (Rep K) W (onto H G) E' Q (wordR (m s A))) :
    TTw K mg T (fun E HZ Q => t (bkE G E) σ (off HZ (G.map (·.1))) (bkQ G Q)) (onto H G) Q := by
  show t (bkE G _) σ (off (onto H G) (G.map (·.1))) (bkQ G _)
  rw [off_onto hn]
  refine hs _ W σ s A H _ k sr ?_
  generalize m s A = r at z
  cases r with
  | bad => exact z.elim
  | ok v A' =>
    intro W' H' b e k' _ gone
    obtain ⟨k2, e2⟩ := ext_back hn gone ht k e k'
    exact z W' _ .non e2 k2 rfl
  | exc y A' =>
    unfold wordR at z
    dsimp only at z
    cases hw : wordX y with
    | none =>
      rw [hw] at z
      exact z.elim
    | some dr =>
      rw [hw] at z
      intro W' H' cls d e k' xr gone σ' hl
      obtain ⟨k2, e2⟩ := ext_back hn gone ht k e k'
      have xr2 := xrep_ext xr (k'.onto gone ht).2
      obtain ⟨T', hT', hall⟩ := Wc.cls
      rw [hT] at hT'
      cases hT'
      obtain ⟨C, hC, _, hex, _⟩ := hall y.c (word_cls hw)
      refine ⟨true, ?_, fun _ a _ => ?_, fun q => nomatch q⟩
      · rw [show cls = _ from xr.1, clA_of hC]
        exact hex
      · exact hand_ok Wc k2 xr2 hw (List.getElem?_set_self (by rw [hl]; decide)) (by rw [List.length_set]; exact hl) fun W2 H2 v e3 k3 r3 => z W2 H2 v (e2.trans e3) k3 r3
end
section
variable {Pg : Program} {w : World} {K : PySem.W.Frag} {mg : Str → Option Value} {base : Heap} {kr : Nat} {q x : Str} {sg : Scope} {Ng : List Str} {P T : Addr} {ir j n : Nat} {y0 : Str} {l1 l2 : Lm} {ls : List Lm} {bs : List ME} {ta : TA} {ma : MA} {tpre : TS} {mpre : MS} {Wx : WX}
theorem sim_wks (Wc : WordC K mg) (hT : mg "TagError" = some (.ref T)) (hx : x ∈ lamDefs) (hP : tabA K mg x = some P) (hu : ∀ y ∈ lamDefs, tabA K mg y = some P → y = x) (hq : q = lamQ x) (sa : SimA K mg Wx ta ma) (sp : SimS K mg (fun _ _ _ _ => False) tpre mpre)
    (hir : Ng[ir]? = some y0) (hy0 : sg.names.lookup y0 ≠ some .cell) (hls : ls.length < 1000) (hbl : bs.length = ls.length + 2)
    (hb : ∀ (i : Nat) (l : Lm), (l1 :: l2 :: ls)[i]? = some l → ∃ (t : XK → TE) (m : ME), bs[i]? = some m ∧ LmOk sg Ng l ∧ (∀ E, SimE K mg (fun c d _ H => E c d H) (t E) m) ∧
      ∀ (A : Around) (outer : List Env) (s : Shared) (H : Hp) (E : XK) (f c' : Addr) (cl : List (Str × Addr)), Room kr (A.deeper (PySem.W.envX q l.scope s.heap.objs.size f (.ref c') cl)) → PE (cloCx Pg w K mg base A outer s H E Ng q l.scope f c' cl) l.body (t E)) :
    SimE K mg Wx (tLc (iList K (tWks K n Ng sg tpre P q ir l1 l2 ls ta)) (gName j) tYes (tWdC Pg w K mg base kr q T j) [j]) (mWks j n Ng.length mpre bs ma) := fun W σ s A H Q k sr z => by
  unfold mWks at z
  by_cases hj0 : ¬ (j < s.length)
  · rw [if_neg hj0] at z
    exact z.elim
  have hj := Decidable.not_not.mp hj0
  rw [if_pos hj] at z
  refine sa W σ s A H _ k sr (z.bind fun ds A1 vs W1 H1 x1 k1 r1 z1 => ?_)
  by_cases hdl0 : ¬ (ds.length = n)
  · rw [if_neg hdl0] at z1
    exact z1.elim
  have hdl := Decidable.not_not.mp hdl0
  rw [if_pos hdl] at z1
  refine ⟨by rw [r1.length, hdl], fun cells hC => ?_⟩
  have sr0 : SlR K W1 (startD Ng.length ds) (L2.start Ng vs) := by
    unfold startD L2.start
    rw [r1.length]
    exact SlR.of r1
  refine sp W1 _ _ A1 H1 _ k1 sr0 ?_
  generalize mpre (startD Ng.length ds) A1 = rp at z1
  cases rp with
  | bad => exact z1.elim
  | rt _ _ => exact z1.elim
  | bk _ _ => exact z1.elim
  | ct _ _ => exact z1.elim
  | exc _ _ _ => exact z1.elim
  | nx s' A2 =>
    dsimp only at z1
    by_cases hs'0 : ¬ (s'.length = Ng.length)
    · rw [if_neg hs'0] at z1
      exact z1.elim
    have hs' := Decidable.not_not.mp hs'0
    rw [if_pos hs'] at z1
    intro W2 σ' H2 x2 k2 sr2
    have hσl : σ'.length = Ng.length := by rw [sr2.len, hs']
    have hirl : ir < σ'.length := by
      rw [hσl]
      exact (List.getElem?_eq_some_iff.mp hir).1
    have I2 : MInv P q H2 [] := by
      obtain ⟨⟨tb, t1, t2, t3⟩, _, _⟩ := k2.tab x hx P hP
      refine ⟨⟨tb, t1, t2, fun p cv h => ?_⟩, fun b hb => absurd hb (by simp), fun b o h => nomatch h⟩
      obtain ⟨c, e1, e2⟩ := t3 p cv h
      exact ⟨c, e1, by rw [hq]; exact k2.frz _ _ e2⟩
    show tMkr K P q cells ir l1 l2 ls _ σ' (onto H2 [])
    refine mkr_te hx hP hu hq hirl hls I2 fun p fs H3 G2 I3 gr hp hF => ?_
    intro G hE
    obtain ⟨W3, k3, x3⟩ := gr.1 W2 A2 k2
    have nG2 := I3.new
    have nG : ∀ b ∈ G.map (·.1), b ∉ G2.map (·.1) ∧ H3 b = none := fun b hb => onto_none (hE.none b hb)
    have tG : ∀ b o, G.lookup b = some o → ∀ tb, o ≠ .tbl tb := fun b o h tb e => by
      obtain ⟨ob, z⟩ := hE.fn b o h
      rw [z] at e
      exact nomatch e
    have tG2 : ∀ b o, G2.lookup b = some o → ∀ tb, o ≠ .tbl tb := fun b o h tb e => by
      rcases I3.kind b o h with ⟨ob, z⟩ | ⟨xs, z⟩ <;> rw [z] at e <;> exact nomatch e
    have hpG : p ∉ G.map (·.1) := fun hm => (nG p hm).1 (look_in hp)
    have hfl : fs.length = bs.length := by
      rw [hF.len, hbl]
      rfl
    rw [onto_app]
    have memA : ∀ b, b ∈ (G ++ G2).map (·.1) ↔ b ∈ G.map (·.1) ∨ b ∈ G2.map (·.1) := fun b => by
      rw [List.map_append, List.mem_append]
    have look2 : ∀ b o, G2.lookup b = some o → (G ++ G2).lookup b = some o := fun b o h => by
      rw [look_app, show G.lookup b = none from look_out fun hm => (nG b hm).1 (look_in h)]
      exact h
    have look1 : ∀ b o, G.lookup b = some o → (G ++ G2).lookup b = some o := fun b o h => by
      rw [look_app, h]
      rfl
    have hpA := look2 p _ hp
    have sq : SqL K (onto H3 (G ++ G2)) p (fs.map V.ref) := .inl (.inl (onto_in hpA))
    refine ⟨p, rfl, ⟨_, sq⟩, fun D hD => ?_⟩
    obtain ⟨nD, hD3⟩ := onto_none hD
    have nDG : D ∉ G.map (·.1) := fun h => nD ((memA D).mpr (.inl h))
    have tA : ∀ (v : List V) b o, ((D, HO.lst v) :: (G ++ G2)).lookup b = some o → ∀ tb, o ≠ .tbl tb := fun v b o h tb => by
      by_cases e : b = D
      · have e' : (b == D) = true := by simpa using e
        simp only [List.lookup, e'] at h
        cases h
        exact fun z => nomatch z
      · have e' : (b == D) = false := by simpa using e
        simp only [List.lookup, e'] at h
        rw [look_app] at h
        cases hg : G.lookup b with
        | some o' =>
          rw [hg] at h
          cases h
          exact tG b _ hg tb
        | none =>
          rw [hg] at h
          exact tG2 b o h tb
    have tA2 : ∀ (v : List V) b o, ((D, HO.lst v) :: G2).lookup b = some o → ∀ tb, o ≠ .tbl tb := fun v b o h tb => by
      by_cases e : b = D
      · have e' : (b == D) = true := by simpa using e
        simp only [List.lookup, e'] at h
        cases h
        exact fun z => nomatch z
      · have e' : (b == D) = false := by simpa using e
        simp only [List.lookup, e'] at h
        exact tG2 b o h tb
    have lookD : ∀ (v : List V) b o, b ≠ D → (G ++ G2).lookup b = some o → ((D, HO.lst v) :: (G ++ G2)).lookup b = some o := fun v b o hb h => by
      have e' : (b == D) = false := by simpa using hb
      simp only [List.lookup, e']
      exact h
    have neD : ∀ b o, (G ++ G2).lookup b = some o → b ≠ D := fun b o h e => nD (e ▸ look_in h)
    let Wp : Nat → Nat → Hp → Prop := fun i m Hc => ∃ W4 A4 H4 acc accV, Ok K mg W4 A4 H4 ∧ Ext W1 H1 W4 H4 ∧ Le W2 W4 ∧ (∀ b, b = D ∨ b ∈ (G ++ G2).map (·.1) → H4 b = none) ∧ (∀ c q', H3 c = some (LamX.CodeO c q') → H4 c = some (LamX.CodeO c q')) ∧ Hc = onto H4 ((D, .lst accV) :: (G ++ G2)) ∧ Reps K W4 acc accV ∧ acc.length = i ∧ i + m = bs.length + 1 ∧ i ≤ bs.length ∧
      Post K mg (Rep K) W1 H1 (fun c d H' => Wx c d σ H') Q ((runWs (bs.drop i) s' A4).bind fun ys A5 => R.ok (.lst (acc ++ ys)) A5)
    refine ⟨Wp, ⟨bs.length + 1, W3, A2, H3, [], [], k3, x2.trans x3, x3.le, fun b hb => ?_, fun _ _ h => h, upd_onto, rfl, rfl, Nat.zero_add _, Nat.zero_le _, z1⟩, ?_⟩
    · rcases hb with rfl | hb
      · exact hD3
      · rcases (memA b).mp hb with hb | hb
        · exact (nG b hb).2
        · exact nG2 b hb
    rintro i m Hc ⟨W4, A4, H4, acc, accV, k4, x4, l4, n4, c4, rfl, r4, al, im, ib, z4⟩
    have hn4 : ∀ (v : List V), ∀ b ∈ ((D, HO.lst v) :: (G ++ G2)).map (·.1), H4 b = none := fun v b hb => by
      rcases List.mem_cons.mp hb with e | hb
      · exact n4 b (.inl e)
      · exact n4 b (.inr hb)
    have pD : p ≠ D := neD p _ hpA
    have sq4 : SqL K (onto H4 ((D, .lst accV) :: (G ++ G2))) p (fs.map V.ref) := .inl (.inl (onto_in (lookD accV p _ pD hpA)))
    by_cases hi : i = bs.length
    · refine .inl ⟨⟨_, sq4, by rw [List.length_map, hfl, hi]; exact Nat.le_refl _⟩, ?_⟩
      rw [hi, List.drop_length] at z4
      have z4 : Post K mg (Rep K) W1 H1 (fun c d H' => Wx c d σ H') Q (.ok (.lst (acc ++ [])) A4) := z4
      rw [List.append_nil] at z4
      obtain ⟨k5, x5⟩ := k4.onto (G := G ++ G2) (fun b hb => n4 b (.inr hb)) (fun b o h => tA accV b o (lookD accV b o (neD b o h) h))
      have hD5 : onto H4 (G ++ G2) D = none := by rw [onto_ne nD, n4 D (.inl rfl)]
      obtain ⟨k6, x6⟩ := k5.frozen hD5 (.lst accV)
      rw [upd_onto] at k6 x6
      exact z4 _ _ _ ((x4.trans x5).trans x6) k6 ⟨D, accV, rfl, upd_same, r4.le (x5.trans x6).le⟩
    · have ilt : i < bs.length := by omega
      obtain ⟨f, hf⟩ : ∃ f, fs[i]? = some f := ⟨_, List.getElem?_eq_getElem (by rw [hfl]; exact ilt)⟩
      obtain ⟨l, hl, hFl⟩ := hF.get hf
      obtain ⟨t, mb, hbm, LO, hsim, hbody⟩ := hb i l hl
      have hfx : (fs.map V.ref)[i]? = some (V.ref f) := by rw [List.getElem?_map, hf]; rfl
      refine .inr ⟨⟨_, _, sq4, hfx⟩, Wp (i + 1) (m - 1), fun H' h => ⟨m - 1, by omega, h⟩, fun xv H' hy => ?_⟩
      obtain ⟨rfl, hy⟩ := hy
      have hxv := hy _ sq4
      rw [hfx] at hxv
      cases hxv
      have hσlen : σ.length = s.length := sr.len
      refine ⟨?_, ?_⟩
      · show ((((σ.set j none).set j (some (V.ref f))).set j none) : L2.St) = σ.set j none
        rw [List.set_set, List.set_set]
      show tWdC Pg w K mg base kr q T j _ _ _
      refine ⟨f, fun E HZ Q => t (bkE G E) σ' (off HZ (G.map (·.1))) (bkQ G Q), ?_, ?_, ?_⟩
      · show (((σ.set j none).set j (some (V.ref f))) : L2.St)[j]? = _
        rw [List.getElem?_set_self (by rw [List.length_set, hσlen]; exact hj)]
      · exact clo_of LO hC hir hy0 (fun i' v hi' hv => by rw [List.getElem?_set_ne (Ne.symm hi')]; exact hv) hσl ⟨_, hE⟩ (fun b o h => onto_in (lookD accV b o (neD b o (look1 b o h)) (look1 b o h))) (fun b ob h => onto_in (lookD accV b _ (neD b _ (look2 b _ h)) (look2 b _ h)))
          (H2 := H3) (fun c q' h => by
            have h4 := c4 c q' h
            rw [onto_ne (fun hm => by rw [hn4 accV c hm] at h4; cases h4)]
            exact h4) hFl hbody
      · rw [onto_swap nDG]
        obtain ⟨k5, x5⟩ := k4.onto (G := (D, .lst accV) :: G2) (fun b hb => by
          rcases List.mem_cons.mp hb with e | hb
          · exact n4 b (.inl e)
          · exact n4 b (.inr ((memA b).mpr (.inr hb)))) (tA2 accV)
        have hnG : ∀ b ∈ G.map (·.1), onto H4 ((D, .lst accV) :: G2) b = none := fun b hb => by
          rw [onto_ne (fun hm => by
            rcases List.mem_cons.mp hm with e | hm
            · have e : b = D := e
              exact nDG (e ▸ hb)
            · exact (nG b hb).1 hm)]
          exact n4 b (.inr ((memA b).mpr (.inl hb)))
        obtain ⟨k6, x6⟩ := k5.onto (G := G) hnG tG
        have dropE : bs.drop i = mb :: bs.drop (i + 1) := by
          have hbm' := List.getElem?_eq_some_iff.mp hbm
          obtain ⟨h1, h2⟩ := hbm'
          rw [List.drop_eq_getElem_cons h1, h2]
        rw [dropE] at z4
        have z5 : Post K mg (Rep K) W1 H1 (fun c d H' => Wx c d σ H') Q ((wordR (mb s' A4)).bind fun d A5 => (runWs (bs.drop (i + 1)) s' A5).bind fun ys A6 => R.ok (.lst ((acc ++ [d]) ++ ys)) A6) := by
          have e : ((runWs (mb :: bs.drop (i + 1)) s' A4).bind fun ys A5 => R.ok (Tg.D.lst (acc ++ ys)) A5) = (wordR (mb s' A4)).bind fun d A5 => (runWs (bs.drop (i + 1)) s' A5).bind fun ys A6 => R.ok (Tg.D.lst ((acc ++ [d]) ++ ys)) A6 := by
            conv => lhs; unfold runWs
            cases wordR (mb s' A4) with
            | ok d A5 =>
              simp only [R.bind_ok]
              cases runWs (bs.drop (i + 1)) s' A5 with
              | ok ys A6 => simp only [R.bind_ok, List.append_assoc, List.singleton_append]
              | exc _ _ => rfl
              | bad => rfl
            | exc _ _ => rfl
            | bad => rfl
          rw [← e]
          exact z4
        refine word_sim Wc hT hsim k5 (sr2.le l4) hnG tG (E' := fun c d H' => Wx c d σ H') (Post.bind0 z5 ((x4.trans x5).trans x6) fun d A5 v W5 H5 x7 k7 r7 z7 => ?_)
        rw [← onto_swap nDG] at x7
        obtain ⟨H6, rfl, n6, k8, x8⟩ := Ok.undoG (hn4 accV) (tA accV) k4 x7 k7
        refine ⟨accV, onto_in (by simp [List.lookup]), ?_, ?_⟩
        · rw [sizeLine_eq, r4.length]
          omega
        · rw [upd_onto, onto_two]
          refine ⟨W5, A5, H6, acc ++ [d], accV ++ [v], k8, x4.trans x8, l4.trans x8.le, fun b hb => ?_, fun c q' h => ?_, rfl, (r4.le x8.le).append (Reps.one r7), by rw [List.length_append, List.length_singleton, al], by omega, by omega, z7⟩
          · rcases hb with rfl | hb
            · exact n6 _ List.mem_cons_self
            · exact n6 _ (List.mem_cons_of_mem _ hb)
          · have h4 := c4 c q' h
            exact x8.out c _ h4 (fun tb e => LamX.codeO_ne tb e) (code_out k4 h4)
end
end Tg

set_option Elab.async false
set_option linter.all false
set_option maxRecDepth 100000
set_option maxHeartbeats 4000000
/-! TgCloL: [_law_word(w) for w in x(..)] as one expression. -/
namespace Tg
open PySem PySem.Spec PyProof.Rows L2
def noExpr : Expr := .Constant .none 0 ⟨0, 0, 0, 0⟩
/-- a lambda's parts -/
def lmE : Expr → Lm
  | .Lambda params body scope _ => ⟨params, body, scope, match params.defaults with
    | [.Constant (.int i) _ _] => some i
    | _ => none⟩
  | _ => ⟨⟨[], [], none, [], [], none, []⟩, noExpr, default, none⟩
/-- the j-th lambda of the i-th statement of a def: of a list, or of an append -/
def lmA (st : Stmt) (i j : Nat) : Lm := lmE (match (defBody st)[i]? with
  | some (.Assign _ (.List es _) _) => es.getD j noExpr
  | some (.Expr (.Call _ es _ _) _) => es.getD j noExpr
  | _ => noExpr)
def lmOkB (sg : Scope) (N : List Str) (l : Lm) : Bool :=
  decide (l.scope.kind = .function) && (!l.scope.isCoroutine && (!l.scope.isGenerator && l.scope.names.all fun y => (!decide (y.2 = .local) || !decide (y.1 ∈ N)) && (!decide (y.2 = .cell) && (!decide (y.2 = .free) || decide (sg.names.lookup y.1 = some .cell)))))
theorem lmOk_by {sg : Scope} {N : List Str} {l : Lm} (h : lmOkB sg N l = true) (bind : match l.dflt with
    | none => ∀ (q : Str) (cl : List (Str × Addr)) (pm cv ct doc : Value), bindArgs (cloFn q l.params l.body l.scope cl pm cv ct .none doc) ⟨[], []⟩ = pure []
    | some _ => ∃ y : Str, l.scope.names.lookup y = some .local ∧ ∀ (q : Str) (cl : List (Str × Addr)) (pm cv ct doc : Value) (T : Addr) (v : Value), ∃ k, bindArgs (cloFn q l.params l.body l.scope cl pm cv ct (.ref T) doc) ⟨[], []⟩ = seqItems? (.ref T) >>= k ∧ k (some #[v]) = pure [(y, v)]) : LmOk sg N l := by
  unfold lmOkB at h
  simp only [Bool.and_eq_true, Bool.or_eq_true, Bool.not_eq_true', decide_eq_true_eq, decide_eq_false_iff_not, List.all_eq_true] at h
  obtain ⟨h1, h2, h3, h4⟩ := h
  refine ⟨h1, h2, h3, fun y hy => ⟨fun e => ?_, (h4 y hy).2.1⟩, fun y hy e => ?_, bind⟩
  · rcases (h4 y hy).1 with z | z
    · exact absurd e z
    · exact z
  · rcases (h4 y hy).2.2 with z | z
    · exact absurd e z
    · exact z
/-- a making def: its text, what its statements are -/
def WksFn (Pg : Program) (w : World) (K : PySem.W.Frag) (mg : Str → Option Value) (base : Heap) (x : Str) (st : Stmt) (Ng ps : List Str) (tpre : TS) (Pt : Addr) (q : Str) (ir : Nat) (l1 l2 : Lm) (ls : List Lm) (j : Nat) : Prop :=
  ∃ (g : Addr) (oc : Value) (od an : Option Addr) (osl : Array (Option Value)) (kV doc pm cdv ct : Value), mg x = some (.ref g) ∧ PySem.W.keepIn K (.ref g) = true ∧ K.lookup g = some ⟨oc, od, .func (PySem.W.fnOf x x (defArgs st) (defBody st) (defScope st) .none kV doc pm an cdv ct), osl⟩ ∧ PySem.W.codeIn K cdv x = true ∧
    Binds K (PySem.W.fnOf x x (defArgs st) (defBody st) (defScope st) .none kV doc pm an cdv ct) ps [] ∧ FnScope Ng ps (defScope st) ∧
    ∀ (A : Around) (outer : List Env) (s : Shared) (H : Hp), Room j A → PSr (CxT Pg w K mg base Ng x st g cdv A outer s H (fun _ _ _ => False)) (defBody st)
      (fun D σ H' => tpre { nx := fun σ' H2 => tMkr K Pt q (CxT Pg w K mg base Ng x st g cdv A outer s H (fun _ _ _ => False)).env.cells ir l1 l2 ls D σ' H2, rt := fun _ _ => False } σ H')
theorem wksFn_of {Pg : Program} {w : World} {K : PySem.W.Frag} {mg : Str → Option Value} {base : Heap} {x : Str} {st : Stmt} {Ng ps : List Str} {tpre : TS} {Pt : Addr} {q : Str} {ir : Nat} {l1 l2 : Lm} {ls : List Lm} {j : Nat} (T : TF K mg x x st ps) (S : FnScope Ng ps (defScope st))
    (h : ∀ (g : Addr) (cdv : Value) (A : Around) (outer : List Env) (s : Shared) (H : Hp), (∀ c, codeA K mg x = some c → cdv = .ref c) → Room j A → PSr (CxT Pg w K mg base Ng x st g cdv A outer s H (fun _ _ _ => False)) (defBody st)
      (fun D σ H' => tpre { nx := fun σ' H2 => tMkr K Pt q (CxT Pg w K mg base Ng x st g cdv A outer s H (fun _ _ _ => False)).env.cells ir l1 l2 ls D σ' H2, rt := fun _ _ => False } σ H')) : WksFn Pg w K mg base x st Ng ps tpre Pt q ir l1 l2 ls j := by
  obtain ⟨f, fd, F, hm, hb⟩ := T
  obtain ⟨oc, od, kV, doc, pm, an, cdv, ct, osl, rfl, lk, hcd⟩ := F.ex
  refine ⟨f, oc, od, an, osl, kV, doc, pm, cdv, ct, hm, F.kp, lk, hcd, hb, S, fun A outer s H hr => h f cdv A outer s H (fun c hc => ?_) hr⟩
  unfold codeA at hc
  rw [hm] at hc
  dsimp only at hc
  rw [lk] at hc
  dsimp only at hc
  cases hcv : cdv <;> rw [hcv] at hc <;> first
    | (cases hc; done)
    | (cases hc; rfl)
/-- the lambdas' bodies, read -/
inductive LmsS (Pg : Program) (w : World) (K : PySem.W.Frag) (mg : Str → Option Value) (base : Heap) (k : Nat) (q : Str) (sg : Scope) (Ng : List Str) : List Lm → List ME → Prop where
  | nil : LmsS Pg w K mg base k q sg Ng [] []
  | cons {l : Lm} {m : ME} {ls : List Lm} {ms : List ME} {t : XK → TE} (ok : LmOk sg Ng l)
    (se : ∀ (A : Around) (outer : List Env) (s : Shared) (H : Hp) (E : XK) (f c' : Addr) (cl : List (Str × Addr)), Room k (A.deeper (PySem.W.envX q l.scope s.heap.objs.size f (.ref c') cl)) → SE (cloCx Pg w K mg base A outer s H E Ng q l.scope f c' cl) (fun c d _ H => E c d H) l.body (t E) m) :
    LmsS Pg w K mg base k q sg Ng ls ms → LmsS Pg w K mg base k q sg Ng (l :: ls) (m :: ms)
theorem LmsS.len {Pg : Program} {w : World} {K : PySem.W.Frag} {mg : Str → Option Value} {base : Heap} {k : Nat} {q : Str} {sg : Scope} {Ng : List Str} : ∀ {ls : List Lm} {ms : List ME}, LmsS Pg w K mg base k q sg Ng ls ms → ms.length = ls.length
  | _, _, .nil => rfl
  | _, _, .cons _ _ t => by simp [LmsS.len t]
theorem LmsS.get {Pg : Program} {w : World} {K : PySem.W.Frag} {mg : Str → Option Value} {base : Heap} {k : Nat} {q : Str} {sg : Scope} {Ng : List Str} {A0 : Around} (s0 : Shared) (hr : ∀ env, Room k (A0.deeper env)) : ∀ {ls : List Lm} {ms : List ME} (i : Nat) (l : Lm), LmsS Pg w K mg base k q sg Ng ls ms → ls[i]? = some l →
    ∃ (t : XK → TE) (m : ME), ms[i]? = some m ∧ LmOk sg Ng l ∧ (∀ E, SimE K mg (fun c d _ H => E c d H) (t E) m) ∧
      ∀ (A : Around) (outer : List Env) (s : Shared) (H : Hp) (E : XK) (f c' : Addr) (cl : List (Str × Addr)), Room k (A.deeper (PySem.W.envX q l.scope s.heap.objs.size f (.ref c') cl)) → PE (cloCx Pg w K mg base A outer s H E Ng q l.scope f c' cl) l.body (t E)
  | _, _, _, _, .nil, e => by simp at e
  | _, _, 0, l, .cons (t := t) (m := m) ok se _, e => by
    simp at e
    subst e
    exact ⟨t, m, rfl, ok, fun E => (se A0 [] s0 (fun _ => none) E 0 0 [] (hr _)).sim, fun A outer s H E f c' cl h => (se A outer s H E f c' cl h).pe⟩
  | _, _, i + 1, l, .cons _ _ r, e => by
    obtain ⟨t, m, h1, h2⟩ := LmsS.get s0 hr i l r (by simpa using e)
    exact ⟨t, m, by simpa using h1, h2⟩
theorem tkC {Pg : Program} {w : World} {K : PySem.W.Frag} {mg : Str → Option Value} {base : Heap} {A : Around} {outer : List Env} {s : Shared} {H : Hp} {E : XK} {N : List Str} {q : Str} {scope : Scope} {f c' : Addr} {cl : List (Str × Addr)} : Takes (cloCx Pg w K mg base A outer s H E N q scope f c' cl) (fun c d _ H => E c d H) := takes_of rfl rfl rfl rfl
theorem psr_fix {X : Cx} {sts : List Stmt} {t t' : TR} (h : PSr X sts t) (ht : t = t') : PSr X sts t' := ht ▸ h
theorem ssnevers {X : Cx} {Wx : WX} {sts : List Stmt} : SSs X Wx sts tNever mNever := ⟨pss_never, fun W σ s A H De k sr h => h.elim⟩
theorem simNx {K : PySem.W.Frag} {mg : Str → Option Value} {Wx : WX} : SimS K mg Wx tNext mNx := fun W σ s A H De k sr z => z W σ H (Ext.refl W H) k sr
theorem hfr_by {sc scope : Scope} (h : (scope.names.all fun y => !decide (y.2 = .free) || decide (sc.names.lookup y.1 = some .cell)) = true) : ∀ y ∈ scope.names, y.2 = .free → sc.names.lookup y.1 = some .cell ∨ sc.names.lookup y.1 = some .free := fun y hy e => by
  have z := List.all_eq_true.mp h y hy
  rw [decide_eq_true e] at z
  simp only [Bool.not_true, Bool.false_or, decide_eq_true_eq] at z
  exact .inl z
section
variable {X : Cx} {Wx : WX}
theorem swks {x y : Str} {stx stw : Stmt} {Ng ps : List Str} {tpre : TS} {mpre : MS} {P T : Addr} {ir j jr kr jj : Nat} {y0 : Str} {l1 l2 : Lm} {ls : List Lm} {bs : List ME} {e : Expr} {es : List Expr} {ta : TA} {ma : MA} {scope : Scope} {p1 p2 p3 p4 p5 p6 pos : Pos}
    (Wf : WksFn X.prog X.w X.K X.mg X.base x stx Ng ps tpre P (lamQ x) ir l1 l2 ls jr) (G : WordFn X.prog X.w X.K X.mg X.base stw T) (Wc : WordC X.K X.mg) (hT : X.mg "TagError" = some (.ref T)) (hx : x ∈ lamDefs) (hP : tabA X.K X.mg x = some P) (hu : ∀ y ∈ lamDefs, tabA X.K X.mg y = some P → y = x)
    (sp : SimS X.K X.mg (fun _ _ _ _ => False) tpre mpre) (hb : LmsS X.prog X.w X.K X.mg X.base kr (lamQ x) (defScope stx) Ng (l1 :: l2 :: ls) bs) (hr : Room jj X.A) (h1 : jr + 1 ≤ jj) (h2 : kr + 2 ≤ jj) (hls : ls.length < 1000) (hc : X.calm = true) (hN : X.N.Nodup) (ok : BlkOk X.N X.env.scope scope [(y, j)])
    (hyl : (relabel scope X.env).names.lookup y = some .local) (hgw : (relabel scope X.env).names.lookup ("_law_word" : Str) = some .globalImplicit) (hir : Ng[ir]? = some y0) (hy0 : (defScope stx).names.lookup y0 ≠ some .cell) (sa : SA X Wx (e :: es) ta ma)
    (hg : Gl X x := by rfl) (hdb : (x == ("__debug__" : Str)) = false := by decide) (hd : (y == ("__debug__" : Str)) = false := by decide) (hcd : (y == ("__classdict__" : Str)) = false := by decide)
    (he : starEach (e :: es) X.env = (false, eval e X.env) :: starEach es X.env := by rfl) (hpl : (backTo p6 (starEach es X.env)).any (·.1) = false := by rfl) (hs : ∀ z, foldedSetIterable (.Call (.Name x p5) (e :: es) [] p6) X.env z = pure z := by intro _; rfl) :
    SE X Wx (.ListComp (.Call (.Name "_law_word" p1) [.Name y p2] [] p3) [⟨.Name y p4, .Call (.Name x p5) (e :: es) [] p6, [], 0⟩] scope pos)
      (tLc (iList X.K (tWks X.K ps.length Ng (defScope stx) tpre P (lamQ x) ir l1 l2 ls ta)) (gName j) tYes (tWdC X.prog X.w X.K X.mg X.base kr (lamQ x) T j) [j]) (mWks j ps.length Ng.length mpre bs ma) := by
  have hyN : X.N[j]? = some y := ok.ix (y, j) (by simp)
  refine ⟨pe_lc (own := [(y, j)]) hc hN (pi_list ?_) ok (fun s H C cl fp => pg_name hN hyN (.inl hyl) (.inr hyl)) (fun s H C cl fp => pts_nil) (fun s H C cl fp => ?_) hs, ?_⟩
  · obtain ⟨g, oc, od, an, osl, kV, doc, pm, cdv, ct, hm, hk, lk, hcg, hbi, Sg, hbody⟩ := Wf
    exact pe_maker (ti := fun cells D σ H' => tpre { nx := fun σ' H2 => tMkr X.K P (lamQ x) cells ir l1 l2 ls D σ' H2, rt := fun _ _ => False } σ H') hm hk lk hcg hbi Sg (hr.mono h1) (fun A outer s H h => hbody A outer s H h) sa.pa hg hdb ⟨e, es, rfl, he, hpl⟩
  · exact pe_wordC (X := X.blk s H scope (compEnvC scope cl C X.env) fp) G hgw (hr.mono h2) hyN (.inl hyl) hd hcd
  · have hd2 : ∀ env, Room kr (X.A.deeper env) := fun env => (hr.mono (show kr + 1 ≤ jj by omega)).deeper env
    exact sim_wks Wc hT hx hP hu rfl sa.sim sp hir hy0 hls (by rw [hb.len]; rfl) (fun i l hl => LmsS.get X.s_0 hd2 i l hb hl)
end
end Tg

set_option Elab.async false
set_option linter.all false
set_option maxRecDepth 100000
set_option maxHeartbeats 4000000
namespace K01
open PySem Tg
def g_BOXES_marked : D := (.int (6))
def g_BOXES_words : D := (.int (8))
def g_CELLS : D := (.int (64))
def tb_FORMS : List (Str × Str) := [("put", "bn"), ("move", "bb"), ("add", "bbb"), ("take", "bbb"), ("less", "bbb"), ("same", "bbb"), ("is", "bb"), ("get", "bbo"), ("set", "bob"), ("narrow", "bbb"), ("fewer", "bbt"), ("gate", "bbg"), ("enter", "b"), ("room", "b"), ("shut", "b"), ("say", "b"), ("go", "r"), ("if", "br"), ("end", "")]
def g_HALF : D := (.int (10000))
def g_MOST_PLAIN : D := (.int (30))
def g_MOST_ROOMS : D := (.int (12))
def g_MOST_ROWS : D := (.int (60))
def g_NONE : D := (.str "-")
def g_OFFSET : D := (.int (64))
def g_PLACE : D := (.int (6))
def g_RIGHTS : D := (.str "ghls")
def g_WHOLE : D := (.int (7))
def g_WORDS : D := (.tup [(.str "put"), (.str "move"), (.str "add"), (.str "take"), (.str "less"), (.str "same"), (.str "get"), (.str "set"), (.str "say"), (.str "go"), (.str "if"), (.str "end")])
/- _law_taken: 0:_law_row_here 1:_law_many 2:_law_found 3:_law_cell -/
def b__law_taken : MS :=
  (mSeq (mIfS (mTb (mBin gtD (mBin ixD (mv 0) (mc (.int (3)))) (mc (.int (0))))) (mSeq (mAsg (mBin modD (mBin ixD (mv 0) (mc (.int (3)))) (mv 1)) (gmN 2))
  (mSeq (mSubS (mv 0) (mc (.int (3))) (mBin fdivD (mBin ixD (mv 0) (mc (.int (3)))) (mv 1)))
  (mRet (mv 2)))) mNx)
  (mSeq (mSubS (mv 0) (mc (.int (1))) (mBin addD (mBin ixD (mv 0) (mc (.int (1)))) (mc (.int (1)))))
  (mSeq (mIfS (mTb (mBin gtD (mBin ixD (mv 0) (mc (.int (1)))) (mCall lenD (mCons (mBin ixD (mv 0) (mc (.int (0)))) mNil)))) (mSeq (mSubS (mv 0) (mc (.int (2))) (mBin modD (mBin addD (mBin mulD (mBin ixD (mv 0) (mc (.int (2)))) (mc (.int (48271)))) (mc (.int (11)))) (mc (.int (2147483647)))))
  (mRet (mBin modD (mBin fdivD (mBin ixD (mv 0) (mc (.int (2)))) (mc (.int (7)))) (mv 1)))) mNx)
  (mSeq (mAsg (mBin ixD (mBin ixD (mv 0) (mc (.int (0)))) (mBin subD (mBin ixD (mv 0) (mc (.int (1)))) (mc (.int (1))))) (gmN 3))
  (mSeq (mSubS (mv 0) (mc (.int (2))) (mBin modD (mBin addD (mBin addD (mBin mulD (mBin ixD (mv 0) (mc (.int (2)))) (mc (.int (48271)))) (mv 3)) (mc (.int (11)))) (mc (.int (2147483647)))))
  (mSeq (mIfS (mTb (mBin geD (mv 3) (mBin powD (mc (.int (10))) (mc (.int (18)))))) (mSubS (mv 0) (mc (.int (3))) (mBin fdivD (mv 3) (mv 1))) mNx)
  (mRet (mBin modD (mv 3) (mv 1)))))))))
def m__law_taken : List D → AH → R D := mFun 2 4 b__law_taken
/- _law_number: 0:_law_row_here 1:_law_way -/
def b__law_number : MS :=
  (mSeq (mAsg (mCall m__law_taken (mCons (mv 0) (mCons (mc (.int (6))) mNil))) (gmN 1))
  (mSeq (mIfS (mTb (mBin ltD (mv 1) (mc (.int (4))))) (mRet (mBin ixD (mLst (mCons (mCall m__law_taken (mCons (mv 0) (mCons (mc (.int (5))) mNil))) (mCons (mCall m__law_taken (mCons (mv 0) (mCons (mc (.int (70))) mNil))) (mCons (mBin subD (mCall m__law_taken (mCons (mv 0) (mCons (mc (.int (40))) mNil))) (mc (.int (20)))) (mCons (mc (.int (1))) mNil))))) (mv 1))) mNx)
  (mRet (mBin ixD (mLst (mCons (mBin subD (mCall m__law_taken (mCons (mv 0) (mCons (mc (.int (20000))) mNil))) (mc (.int (10000)))) (mCons (mBin ixD (mLst (mCons (mc (.int (9999))) (mCons (mBin subD (mc (.int (0))) (mc (.int (10000)))) mNil))) (mCall m__law_taken (mCons (mv 0) (mCons (mc (.int (2))) mNil)))) mNil))) (mBin subD (mv 1) (mc (.int (4))))))))
def m__law_number : List D → AH → R D := mFun 1 2 b__law_number
/- _law_rights: 0:_law_row_here 1:_law_often 2:_law_sign -/
def b__law_rights : MS :=
  (mSeq (mAsg (mBin ixD (mLst (mCons (mc (.int (4))) (mCons (mc (.int (9))) (mCons (mc (.int (2))) mNil)))) (mCall m__law_taken (mCons (mv 0) (mCons (mc (.int (3))) mNil)))) (gmN 1))
  (mRet (mMt "str" joinD (mc (.str "")) (mCons (mLc (miAny (mc (.str "ghls"))) (gmN 2) (mTb (mBin gtD (mCall m__law_taken (mCons (mv 0) (mCons (mv 1) mNil))) (mc (.int (0))))) (mv 2) [2] finF) mNil))))
def m__law_rights : List D → AH → R D := mFun 1 3 b__law_rights
/- _law_row: 0:_law_row_here 1:_law_at 2:_law_rows 3:_law_words 4:_law_word_here 5:_law_r 6:_law_s 7:_law_t 8:_law_goal 9:_law_far 10:_law_some -/
def b__law_row : MS :=
  (mSeq (mAsg (mLst (mCons (mc (.str "put")) (mCons (mc (.str "move")) (mCons (mc (.str "add")) (mCons (mc (.str "take")) (mCons (mc (.str "less")) (mCons (mc (.str "same")) (mCons (mc (.str "is")) (mCons (mc (.str "get")) (mCons (mc (.str "get")) (mCons (mc (.str "set")) (mCons (mc (.str "set")) (mCons (mc (.str "narrow")) (mCons (mc (.str "fewer")) (mCons (mc (.str "gate")) mNil))))))))))))))) (gmN 3))
  (mSeq (mAsg (mBin addD (mv 3) (mLst (mCons (mc (.str "enter")) (mCons (mc (.str "room")) (mCons (mc (.str "room")) (mCons (mc (.str "shut")) (mCons (mc (.str "say")) (mCons (mc (.str "say")) (mCons (mc (.str "go")) (mCons (mc (.str "if")) (mCons (mc (.str "if")) (mCons (mc (.str "end")) mNil)))))))))))) (gmN 3))
  (mSeq (mAsg (mBin ixD (mv 3) (mCall m__law_taken (mCons (mv 0) (mCons (mc (.int (24))) mNil)))) (gmN 4))
  (mSeq (mPar [5, 6, 7] (mCons (mCall m__law_taken (mCons (mv 0) (mCons (mc (.int (8))) mNil))) (mCons (mCall m__law_taken (mCons (mv 0) (mCons (mc (.int (8))) mNil))) (mCons (mCall m__law_taken (mCons (mv 0) (mCons (mc (.int (8))) mNil))) mNil))))
  (mSeq (mAsg (mBin addD (mv 1) (mCall m__law_taken (mCons (mv 0) (mCons (mBin subD (mv 2) (mv 1)) mNil)))) (gmN 8))
  (mSeq (mIfS (mTb (mBin eqD (mCall m__law_taken (mCons (mv 0) (mCons (mc (.int (5))) mNil))) (mc (.int (4))))) (mAsg (mCall m__law_taken (mCons (mv 0) (mCons (mv 2) mNil))) (gmN 8)) mNx)
  (mSeq (mIfS (mTb (mBin inD (mv 4) (mTup (mCons (mc (.str "add")) (mCons (mc (.str "take")) (mCons (mc (.str "less")) (mCons (mc (.str "same")) (mCons (mc (.str "narrow")) mNil)))))))) (mRet (mTup (mCons (mv 4) (mCons (mv 5) (mCons (mv 6) (mCons (mv 7) mNil)))))) mNx)
  (mSeq (mIfS (mTb (mBin inD (mv 4) (mTup (mCons (mc (.str "get")) (mCons (mc (.str "set")) mNil))))) (mSeq (mAsg (mBin ixD (mLst (mCons (mc (.int (0))) (mCons (mc (.int (0))) (mCons (mBin subD (mCall m__law_taken (mCons (mv 0) (mCons (mc (.int (5))) mNil))) (mc (.int (2)))) (mCons (mBin subD (mCall m__law_taken (mCons (mv 0) (mCons (mc (.int (127))) mNil))) (mc (.int (63)))) mNil))))) (mCall m__law_taken (mCons (mv 0) (mCons (mc (.int (4))) mNil)))) (gmN 9))
  (mRet (mIf (mTb (mBin eqD (mv 4) (mc (.str "get")))) (mTup (mCons (mv 4) (mCons (mv 5) (mCons (mv 6) (mCons (mv 9) mNil))))) (mTup (mCons (mv 4) (mCons (mv 6) (mCons (mv 9) (mCons (mv 7) mNil)))))))) mNx)
  (mSeq (mAsg (mDctN (mPCons (mc (.str "put")) (mTup (mCons (mv 5) (mCons (mCall m__law_number (mCons (mv 0) mNil)) mNil))) (mPCons (mc (.str "fewer")) (mTup (mCons (mv 5) (mCons (mv 6) (mCons (mCall m__law_rights (mCons (mv 0) mNil)) mNil)))) (mPCons (mc (.str "go")) (mTup (mCons (mv 8) mNil)) (mPCons (mc (.str "if")) (mTup (mCons (mv 6) (mCons (mv 8) mNil))) (mPCons (mc (.str "end")) (mTup mNil) mPNil)))))) (gmN 10))
  (mSeq (mDrop (mMt "dict" updD (mv 10) (mCons (mLst (mCons (mTup (mCons (mc (.str "gate")) (mCons (mTup (mCons (mv 5) (mCons (mv 6) (mCons (mCall m__law_taken (mCons (mv 0) (mCons (mBin addD (mv 2) (mc (.int (1)))) mNil))) mNil)))) mNil))) (mCons (mTup (mCons (mc (.str "move")) (mCons (mTup (mCons (mv 5) (mCons (mv 6) mNil))) mNil))) (mCons (mTup (mCons (mc (.str "is")) (mCons (mTup (mCons (mv 5) (mCons (mv 6) mNil))) mNil))) mNil)))) mNil)))
  (mRet (mBin addD (mTup (mCons (mv 4) mNil)) (mGet2 (mv 10) (mv 4) (mTup (mCons (mv 6) mNil)))))))))))))))
def m__law_row : List D → AH → R D := mFun 3 11 b__law_row
/- _law_program: 0:_law_row_here 1:_law_most 2:_law_rows 3:_law_found 4:_law_at 5:_law_one -/
def b__law_program : MS :=
  (mSeq (mAsg (mBin addD (mc (.int (1))) (mCall m__law_taken (mCons (mv 0) (mCons (mv 1) mNil)))) (gmN 2))
  (mSeq (mAsg (mLc (mRng1 (mCons (mv 2) mNil)) (gmN 4) mYes (mCall m__law_row (mCons (mv 0) (mCons (mv 4) (mCons (mv 2) mNil)))) [4] finF) (gmN 3))
  (mRet (mCall tupD (mCons (mLc (miAny (mv 3)) (gmN 5) mYes (mIf (mAnd (mTb (mBin eqD (mv 5) (mTup (mCons (mc (.str "end")) mNil)))) (mTb (mBin gtD (mCall m__law_taken (mCons (mv 0) (mCons (mc (.int (4))) mNil))) (mc (.int (0)))))) (mTup (mCons (mc (.str "say")) (mCons (mc (.int (1))) mNil))) (mv 5)) [5] finF) mNil)))))
def m__law_program : List D → AH → R D := mFun 2 6 b__law_program
/- _law_may_be_plain: 0:_law_one 1:_law_far 2:_law_boxes -/
def b__law_may_be_plain : MS :=
  (mSeq (mIfS (mTb (mBin inD (mBin ixD (mv 0) (mc (.int (0)))) (mTup (mCons (mc (.str "get")) (mCons (mc (.str "set")) mNil))))) (mSeq (mAsg (mIf (mTb (mBin eqD (mBin ixD (mv 0) (mc (.int (0)))) (mc (.str "get")))) (mTup (mCons (mBin ixD (mv 0) (mc (.int (3)))) (mCons (mSl (mv 0) (mPart (mc (.int (1)))) (mPart (mc (.int (3))))) mNil))) (mTup (mCons (mBin ixD (mv 0) (mc (.int (2)))) (mCons (mTup (mCons (mBin ixD (mv 0) (mc (.int (1)))) (mCons (mBin ixD (mv 0) (mc (.int (3)))) mNil))) mNil)))) (gmTup 2 (gmCons (gmN 1) (gmCons (gmN 2) gmNil))))
  (mRet (mAndV (mBin eqD (mv 1) (mc (.int (0)))) (mBin ltD (mCall maxD (mCons (mv 2) mNil)) (mc (.int (6))))))) mNx)
  (mSeq (mIfS (mTb (mBin inD (mBin ixD (mv 0) (mc (.int (0)))) (mTup (mCons (mc (.str "go")) (mCons (mc (.str "end")) mNil))))) (mRet (mc (.bl true))) mNx)
  (mSeq (mAsg (mIf (mTb (mBin inD (mBin ixD (mv 0) (mc (.int (0)))) (mTup (mCons (mc (.str "put")) (mCons (mc (.str "if")) mNil))))) (mSl (mv 0) (mPart (mc (.int (1)))) (mPart (mc (.int (2))))) (mSl (mv 0) (mPart (mc (.int (1)))) mNoPart)) (gmN 2))
  (mSeq (mIfS (mTb (mBin ninD (mBin ixD (mv 0) (mc (.int (0)))) (mTup (mCons (mc (.str "put")) (mCons (mc (.str "move")) (mCons (mc (.str "add")) (mCons (mc (.str "take")) (mCons (mc (.str "less")) (mCons (mc (.str "same")) (mCons (mc (.str "say")) (mCons (mc (.str "if")) mNil))))))))))) (mRet (mc (.bl false))) mNx)
  (mRet (mBin ltD (mCall maxD (mCons (mv 2) mNil)) (mc (.int (6)))))))))
def m__law_may_be_plain : List D → AH → R D := mFun 1 3 b__law_may_be_plain
/- are_rights: 0:part 1:sign -/
def b_are_rights : MS :=
  (mRet (mAndV (mUn (isiD "str") (mv 0)) (mBin eqD (mv 0) (mMt "str" joinD (mc (.str "")) (mCons (mLc (miAny (mc g_RIGHTS)) (gmN 1) (mTb (mBin inD (mv 1) (mv 0))) (mv 1) [1] finF) mNil)))))
def m_are_rights : List D → AH → R D := mFun 1 2 b_are_rights
/- is_number: 0:word -/
def b_is_number : MS :=
  (mRet (mAndV (mUn (isiD "int") (mv 0)) (mNotV (mUn (isiD "bool") (mv 0)))))
def m_is_number : List D → AH → R D := mFun 1 1 b_is_number
/- is_within: 0:number 1:low 2:high -/
def b_is_within : MS :=
  (mRet (mAndV (mCall m_is_number (mCons (mv 0) mNil)) (mChain leD ltD (mv 1) (mv 0) (mv 2))))
def m_is_within : List D → AH → R D := mFun 3 3 b_is_within
/- is_part: 0:part 1:sort 2:rows 3:bounds -/
def b_is_part : MS :=
  (mSeq (mIfS (mTb (mBin eqD (mv 1) (mc (.str "t")))) (mRet (mCall m_are_rights (mCons (mv 0) mNil))) mNx)
  (mSeq (mAsg (mDct (mPCons (mc (.str "b")) (mTup (mCons (mc (.int (0))) (mCons (mc g_BOXES_words) mNil))) (mPCons (mc (.str "n")) (mTup (mCons (mBin subD (mc (.int (0))) (mc g_HALF)) (mCons (mc g_HALF) mNil))) (mPCons (mc (.str "o")) (mTup (mCons (mBin subD (mc (.int (1))) (mc g_OFFSET)) (mCons (mc g_OFFSET) mNil))) (mPCons (mc (.str "g")) (mTup (mCons (mc (.int (0))) (mCons (mBin addD (mv 2) (mc (.int (1)))) mNil))) (mPCons (mc (.str "r")) (mTup (mCons (mc (.int (0))) (mCons (mv 2) mNil))) mPNil)))))) (gmN 3))
  (mRet (mCall m_is_within (mCons (mv 0) (mCons (mBin ixD (mBin ixD (mv 3) (mv 1)) (mc (.int (0)))) (mCons (mBin ixD (mBin ixD (mv 3) (mv 1)) (mc (.int (1)))) mNil)))))))
def m_is_part : List D → AH → R D := mFun 3 4 b_is_part
/- is_row: 0:row 1:rows 2:form 3:k -/
def b_is_row : MS :=
  (mSeq (mIfS (mOr (mNot (mTb (mUn (isiD "tuple") (mv 0)))) (mOr (mTb (mBin eqD (mv 0) (mTup mNil))) (mOr (mNot (mTb (mUn (isiD "str") (mBin ixD (mv 0) (mc (.int (0))))))) (mTb (mUn (kninD tb_FORMS) (mBin ixD (mv 0) (mc (.int (0))))))))) (mRet (mc (.bl false))) mNx)
  (mSeq (mAsg (mUn (kixD tb_FORMS) (mBin ixD (mv 0) (mc (.int (0))))) (gmN 2))
  (mSeq (mIfS (mTb (mBin neD (mCall lenD (mCons (mv 0) mNil)) (mBin addD (mCall lenD (mCons (mv 2) mNil)) (mc (.int (1)))))) (mRet (mc (.bl false))) mNx)
  (mRet (mBin eqD (mLc (mRng1 (mCons (mCall lenD (mCons (mv 2) mNil)) mNil)) (gmN 3) (mNot (mTb (mCall m_is_part (mCons (mBin ixD (mv 0) (mBin addD (mv 3) (mc (.int (1))))) (mCons (mBin ixD (mv 2) (mv 3)) (mCons (mv 1) mNil)))))) (mv 3) [3] finF) (mLst mNil))))))
def m_is_row : List D → AH → R D := mFun 2 4 b_is_row
/- need_program: 0:program 1:number -/
def b_need_program : MS :=
  (mSeq (mIfS (mOr (mNot (mTb (mUn (isiD "tuple") (mv 0)))) (mTb (mBin eqD (mv 0) (mTup mNil)))) (mRaise "BadProgram" "row" (mc (.int (0)))) mNx)
  (mFor (mRng1 (mCons (mCall lenD (mCons (mv 0) mNil)) mNil)) (gmN 1) (mIfS (mOr (mTb (mBin geD (mv 1) (mc g_MOST_ROWS))) (mNot (mTb (mCall m_is_row (mCons (mBin ixD (mv 0) (mv 1)) (mCons (mCall lenD (mCons (mv 0) mNil)) mNil)))))) (mRaise "BadProgram" "row" (mv 1)) mNx)))
def m_need_program : List D → AH → R D := mFun 1 2 b_need_program
/- need_state: 0:rows 1:rooms 2:cells 3:boxes 4:most -/
def b_need_state : MS :=
  (mSeq (mIfS (mNot (mTb (mCall m_is_within (mCons (mv 1) (mCons (mc (.int (0))) (mCons (mBin addD (mc g_MOST_ROOMS) (mc (.int (1)))) mNil)))))) (mRaise0 "BadRooms" (mc (.str "no such count"))) mNx)
  mNever)
def m_need_state : List D → AH → R D := mFun 4 5 b_need_state
/- run: 0:program 1:rooms 2:cells 3:boxes 4:fuel 5:machine -/
def b_run : MS :=
  (mSeq (mDrop (mCall m_need_program (mCons (mv 0) mNil)))
  (mSeq (mDrop (mCall m_need_state (mCons (mCall lenD (mCons (mv 0) mNil)) (mCons (mv 1) (mCons (mv 2) (mCons (mv 3) mNil))))))
  mNever))
def m_run : List D → AH → R D := mFun 5 6 b_run
/- run_swept: 0:program 1:rooms 2:cells 3:boxes 4:fuel 5:sweeps 6:lazy -/
def b_run_swept : MS :=
  (mSeq (mDrop (mCall m_need_program (mCons (mv 0) mNil)))
  (mSeq (mDrop (mCall m_need_state (mCons (mCall lenD (mCons (mv 0) mNil)) (mCons (mv 1) (mCons (mv 2) (mCons (mv 3) mNil))))))
  mNever))
def m_run_swept : List D → AH → R D := mFun 6 7 b_run_swept
/- Machine.__init__: 0:self 1:program 2:rooms 3:cells 4:boxes -/
def b_Machine___init__ : MS :=
  (mSeq (mDrop (mCall m_need_program (mCons (mv 1) mNil)))
  (mSeq (mDrop (mCall m_need_state (mCons (mCall lenD (mCons (mv 1) mNil)) (mCons (mv 2) (mCons (mv 3) (mCons (mv 4) mNil))))))
  mNever))
def m_Machine___init__ : List D → AH → R D := mFun 5 5 b_Machine___init__
/- word_of: 0:part -/
def b_word_of : MS :=
  (mRet (mIf (mTb (mBin eqD (mv 0) (mc (.str "")))) (mc g_NONE) (mCall strD (mCons (mv 0) mNil))))
def m_word_of : List D → AH → R D := mFun 1 1 b_word_of
/- written: 0:program 1:row 2:part -/
def b_written : MS :=
  (mSeq (mDrop (mCall m_need_program (mCons (mv 0) mNil)))
  (mRet (mMt "str" joinD (mc (.str "\n")) (mCons (mLc (miAny (mv 0)) (gmN 1) mYes (mMt "str" joinD (mc (.str " ")) (mCons (mLc (miAny (mv 1)) (gmN 2) mYes (mCall m_word_of (mCons (mv 2) mNil)) [2] finF) mNil)) [1] finF) mNil))))
def m_written : List D → AH → R D := mFun 1 3 b_written
/- is_plain_marked: 0:row 1:boxes 2:box -/
def b_is_plain_marked : MS :=
  (mSeq (mIfS (mTb (mBin ninD (mBin ixD (mv 0) (mc (.int (0)))) (mc g_WORDS))) (mRet (mc (.bl false))) mNx)
  (mSeq (mIfS (mTb (mBin eqD (mBin ixD (mv 0) (mc (.int (0)))) (mc (.str "get")))) (mRet (mAndV (mBin eqD (mBin ixD (mv 0) (mc (.int (3)))) (mc (.int (0)))) (mBin ltD (mCall maxD (mCons (mSl (mv 0) (mPart (mc (.int (1)))) (mPart (mc (.int (3))))) mNil)) (mc g_BOXES_marked)))) mNx)
  (mSeq (mIfS (mTb (mBin eqD (mBin ixD (mv 0) (mc (.int (0)))) (mc (.str "set")))) (mRet (mAndV (mBin eqD (mBin ixD (mv 0) (mc (.int (2)))) (mc (.int (0)))) (mBin ltD (mCall maxD (mCons (mBin ixD (mv 0) (mc (.int (1)))) (mCons (mBin ixD (mv 0) (mc (.int (3)))) mNil))) (mc g_BOXES_marked)))) mNx)
  (mSeq (mAsg (mGet2 (mDct (mPCons (mc (.str "put")) (mSl (mv 0) (mPart (mc (.int (1)))) (mPart (mc (.int (2))))) (mPCons (mc (.str "go")) (mTup mNil) (mPCons (mc (.str "end")) (mTup mNil) (mPCons (mc (.str "if")) (mSl (mv 0) (mPart (mc (.int (1)))) (mPart (mc (.int (2))))) mPNil))))) (mBin ixD (mv 0) (mc (.int (0)))) (mSl (mv 0) (mPart (mc (.int (1)))) mNoPart)) (gmN 1))
  (mRet (mBin eqD (mLc (miAny (mv 1)) (gmN 2) (mTb (mBin geD (mv 2) (mc g_BOXES_marked))) (mv 2) [2] finF) (mLst mNil)))))))
def m_is_plain_marked : List D → AH → R D := mFun 1 3 b_is_plain_marked
/- need_plain: 0:program 1:number -/
def b_need_plain : MS :=
  (mSeq (mDrop (mCall m_need_program (mCons (mv 0) mNil)))
  (mFor (mRng1 (mCons (mCall lenD (mCons (mv 0) mNil)) mNil)) (gmN 1) (mIfS (mOr (mTb (mBin geD (mv 1) (mc g_MOST_PLAIN))) (mNot (mTb (mCall m_is_plain_marked (mCons (mBin ixD (mv 0) (mv 1)) mNil))))) (mRaise "BadProgram" "row" (mv 1)) mNx)))
def m_need_plain : List D → AH → R D := mFun 1 2 b_need_plain
/- need_numbers: 0:cells 1:place -/
def b_need_numbers : MS :=
  (mFor (mRng1 (mCons (mCall maxD (mCons (mc g_CELLS) (mCons (mCall lenD (mCons (mv 0) mNil)) mNil))) mNil)) (gmN 1) (mIfS (mOr (mTb (mBin geD (mv 1) (mCall lenD (mCons (mv 0) mNil)))) (mOr (mTb (mBin geD (mv 1) (mc g_CELLS))) (mNot (mTb (mCall m_is_within (mCons (mBin ixD (mv 0) (mv 1)) (mCons (mBin subD (mc (.int (0))) (mc g_HALF)) (mCons (mc g_HALF) mNil)))))))) (mRaise "BadWord" "place" (mv 1)) mNx))
def m_need_numbers : List D → AH → R D := mFun 1 2 b_need_numbers
/- run_places: 0:program 1:cells 2:fuel 3:plain -/
def b_run_places : MS :=
  (mSeq (mDrop (mCall m_need_plain (mCons (mv 0) mNil)))
  (mSeq (mDrop (mCall m_need_numbers (mCons (mv 1) mNil)))
  mNever))
def m_run_places : List D → AH → R D := mFun 3 4 b_run_places
/- keyed: 0:program 1:begins 2:origins 3:number 4:rows 5:row -/
def b_keyed : MS :=
  (mSeq (mDrop (mCall m_need_plain (mCons (mv 0) mNil)))
  (mSeq (mAsg (mLstN mNil) (gmN 1))
  (mSeq (mAsg (mLstN mNil) (gmN 2))
  (mSeq (mFor (mRng1 (mCons (mCall lenD (mCons (mv 0) mNil)) mNil)) (gmN 3) (mSeq (mDrop (mMt "list" appD (mv 1) (mCons (mCall lenD (mCons (mv 2) mNil)) mNil)))
  (mDrop (mMt "list" extD (mv 2) (mCons (mBin mulD (mLst (mCons (mv 3) mNil)) (mIf (mTb (mBin inD (mBin ixD (mBin ixD (mv 0) (mv 3)) (mc (.int (0)))) (mTup (mCons (mc (.str "get")) (mCons (mc (.str "set")) mNil))))) (mc (.int (2))) (mc (.int (1))))) mNil)))))
  (mSeq (mAsg (mLstN mNil) (gmN 4))
  (mSeq (mFor (miAny (mv 0)) (gmN 5) (mIfS (mTb (mBin eqD (mBin ixD (mv 5) (mc (.int (0)))) (mc (.str "get")))) (mDrop (mMt "list" extD (mv 4) (mCons (mLst (mCons (mTup (mCons (mc (.str "add")) (mCons (mc g_PLACE) (mCons (mc g_WHOLE) (mCons (mBin ixD (mv 5) (mc (.int (2)))) mNil))))) (mCons (mTup (mCons (mc (.str "get")) (mCons (mBin ixD (mv 5) (mc (.int (1)))) (mCons (mc g_PLACE) (mCons (mc (.int (0))) mNil))))) mNil))) mNil))) (mIfS (mTb (mBin eqD (mBin ixD (mv 5) (mc (.int (0)))) (mc (.str "set")))) (mDrop (mMt "list" extD (mv 4) (mCons (mLst (mCons (mTup (mCons (mc (.str "add")) (mCons (mc g_PLACE) (mCons (mc g_WHOLE) (mCons (mBin ixD (mv 5) (mc (.int (1)))) mNil))))) (mCons (mTup (mCons (mc (.str "set")) (mCons (mc g_PLACE) (mCons (mc (.int (0))) (mCons (mBin ixD (mv 5) (mc (.int (3)))) mNil))))) mNil))) mNil))) (mIfS (mTb (mBin inD (mBin ixD (mv 5) (mc (.int (0)))) (mTup (mCons (mc (.str "go")) (mCons (mc (.str "if")) mNil))))) (mDrop (mMt "list" appD (mv 4) (mCons (mBin addD (mSl (mv 5) mNoPart (mPart (mUn negD (mc (.int (1)))))) (mTup (mCons (mBin ixD (mv 1) (mBin ixD (mv 5) (mUn negD (mc (.int (1)))))) mNil))) mNil))) (mDrop (mMt "list" appD (mv 4) (mCons (mv 5) mNil)))))))
  (mRet (mTup (mCons (mCall tupD (mCons (mv 4) mNil)) (mCons (mCall tupD (mCons (mv 2) mNil)) mNil))))))))))
def m_keyed : List D → AH → R D := mFun 1 6 b_keyed
/- _law_bad: 0:_law_row_here 1:_law_many 2:_law_far 3:_law_some -/
def b__law_bad : MS :=
  (mSeq (mAsg (mBin ixD (mLst (mCons (mc (.int (0))) (mCons (mCall m__law_taken (mCons (mv 0) (mCons (mBin powD (mc (.int (10))) (mc (.int (6)))) mNil))) mNil))) (mCall m__law_taken (mCons (mv 0) (mCons (mc (.int (2))) mNil)))) (gmN 2))
  (mSeq (mAsg (mLstN (mCons (mTup (mCons (mc (.str "put")) (mCons (mBin addD (mc (.int (8))) (mv 2)) (mCons (mc (.int (1))) mNil)))) (mCons (mTup (mCons (mc (.str "put")) (mCons (mBin subD (mc (.int (0))) (mc (.int (1)))) (mCons (mc (.int (1))) mNil)))) (mCons (mTup (mCons (mc (.str "put")) (mCons (mc (.int (0))) (mCons (mBin addD (mc (.int (10000))) (mv 2)) mNil)))) (mCons (mTup (mCons (mc (.str "put")) (mCons (mc (.int (0))) (mCons (mBin subD (mBin subD (mc (.int (0))) (mc (.int (10001)))) (mv 2)) mNil)))) (mCons (mTup (mCons (mc (.str "put")) (mCons (mc (.int (0))) mNil))) mNil)))))) (gmN 3))
  (mSeq (mDrop (mMt "list" appD (mv 3) (mCons (mTup mNil) mNil)))
  (mSeq (mAsg (mBin addD (mv 3) (mLst (mCons (mTup (mCons (mc (.str "add")) (mCons (mc (.int (0))) (mCons (mc (.int (1))) mNil)))) (mCons (mTup (mCons (mc (.str "add")) (mCons (mc (.int (0))) (mCons (mc (.int (1))) (mCons (mBin addD (mc (.int (8))) (mv 2)) mNil))))) (mCons (mTup (mCons (mc (.str "add")) (mCons (mc (.int (0))) (mCons (mc (.int (1))) (mCons (mc (.int (2))) (mCons (mc (.int (3))) mNil)))))) (mCons (mTup (mCons (mc (.str "get")) (mCons (mc (.int (0))) (mCons (mc (.int (1))) (mCons (mBin addD (mc (.int (64))) (mv 2)) mNil))))) (mCons (mTup (mCons (mc (.str "end")) (mCons (mc (.int (0))) mNil))) mNil))))))) (gmN 3))
  (mSeq (mAsg (mBin addN (mv 3) (mLst (mCons (mTup (mCons (mc (.str "get")) (mCons (mc (.int (0))) (mCons (mc (.int (1))) (mCons (mBin subD (mc (.int (0))) (mc (.int (64)))) mNil))))) (mCons (mTup (mCons (mc (.str "set")) (mCons (mc (.int (0))) (mCons (mc (.int (64))) (mCons (mc (.int (1))) mNil))))) (mCons (mTup (mCons (mc (.str "set")) (mCons (mc (.int (0))) (mCons (mc (.int (1))) (mCons (mc (.int (8))) mNil))))) (mCons (mTup (mCons (mc (.str "fewer")) (mCons (mc (.int (0))) (mCons (mc (.int (1))) (mCons (mc (.str "hg")) mNil))))) mNil)))))) (gmN 3))
  (mSeq (mDrop (mMt "list" appD (mv 3) (mCons (mTup (mCons (mc (.str "fewer")) (mCons (mc (.int (0))) (mCons (mc (.int (1))) (mCons (mc (.str "gg")) mNil))))) mNil)))
  (mSeq (mAsg (mBin addD (mv 3) (mLst (mCons (mTup (mCons (mc (.str "fewer")) (mCons (mc (.int (0))) (mCons (mc (.int (1))) (mCons (mc (.str "x")) mNil))))) (mCons (mTup (mCons (mc (.str "fewer")) (mCons (mc (.int (0))) (mCons (mc (.int (1))) (mCons (mc (.int (0))) mNil))))) (mCons (mTup (mCons (mc (.str "gate")) (mCons (mc (.int (0))) (mCons (mc (.int (1))) (mCons (mBin addD (mBin addD (mv 1) (mc (.int (1)))) (mv 2)) mNil))))) (mCons (mTup (mCons (mc (.str "gate")) (mCons (mc (.int (0))) (mCons (mc (.int (1))) (mCons (mBin subD (mc (.int (0))) (mc (.int (1)))) mNil))))) mNil)))))) (gmN 3))
  (mSeq (mAsg (mBin addD (mv 3) (mLst (mCons (mTup (mCons (mc (.str "go")) (mCons (mBin addD (mv 1) (mv 2)) mNil))) (mCons (mTup (mCons (mc (.str "go")) (mCons (mBin subD (mc (.int (0))) (mc (.int (1)))) mNil))) (mCons (mTup (mCons (mc (.str "if")) (mCons (mc (.int (8))) (mCons (mc (.int (0))) mNil)))) (mCons (mTup (mCons (mc (.str "if")) (mCons (mc (.int (0))) (mCons (mv 1) mNil)))) (mCons (mTup (mCons (mc (.str "say")) (mCons (mc (.bl true)) mNil))) (mCons (mTup (mCons (mc (.str "Put")) (mCons (mc (.int (0))) (mCons (mc (.int (1))) mNil)))) mNil)))))))) (gmN 3))
  (mSeq (mAsg (mBin addD (mv 3) (mLst (mCons (mTup (mCons (mc (.str "room")) mNil)) (mCons (mTup (mCons (mc (.str "move")) (mCons (mc (.int (0))) (mCons (mTup (mCons (mc (.int (1))) mNil)) mNil)))) (mCons (mTup (mCons (mc (.int (1))) (mCons (mc (.int (2))) mNil))) (mCons (mTup (mCons (mc (.str "set")) (mCons (mc (.int (0))) (mCons (mc (.str "1")) (mCons (mc (.int (1))) mNil))))) (mCons (mTup (mCons (mc (.str "enter")) (mCons (mc (.int (0))) (mCons (mc (.int (0))) mNil)))) (mCons (mc (.int (7))) (mCons (mc (.str "end")) mNil))))))))) (gmN 3))
  (mRet (mBin ixD (mv 3) (mCall m__law_taken (mCons (mv 0) (mCons (mc (.int (33))) mNil))))))))))))))
def m__law_bad : List D → AH → R D := mFun 2 4 b__law_bad
/- _law_works: 0:_law_program_here 1:_law_works_here -/
def pre__law_works : MS := mNx
def lb0__law_works : ME := (mCall m_run (mCons (mv 0) (mCons (mc (.int (99))) (mCons (mLst mNil) (mCons (mLst mNil) (mCons (mBin subD (mc (.int (0))) (mc (.int (1)))) mNil))))))
def lb1__law_works : ME := (mCall m_run_swept (mCons (mv 0) (mCons (mc (.int (13))) (mCons (mLst mNil) (mCons (mLst mNil) (mCons (mc (.int (9999))) (mCons (mLst mNil) mNil)))))))
def lb2__law_works : ME := (mMake "Machine" m_Machine___init__ (mCons (mv 0) (mCons (mBin subD (mc (.int (0))) (mc (.int (1)))) (mCons (mLst mNil) (mCons (mLst mNil) mNil)))))
def lb3__law_works : ME := (mCall m_written (mCons (mv 0) mNil))
def lb4__law_works : ME := (mCall m_run_places (mCons (mv 0) (mCons (mLst mNil) (mCons (mBin subD (mc (.int (0))) (mc (.int (1)))) mNil))))
def lb5__law_works : ME := (mCall m_keyed (mCons (mv 0) mNil))
def bs__law_works : List ME := [lb0__law_works, lb1__law_works, lb2__law_works, lb3__law_works, lb4__law_works, lb5__law_works]
/- law: 0:_law_script 1:_law_row_here 2:_law_turn 3:_law_program_here 4:_law_many 5:_law_first 6:_law_due 7:_law_at 8:_law_odd 9:_law_later 10:_law_bad_here 11:_law_k 12:_law_work -/
def b_law : MS :=
  (mSeq (mAsg (mLstN (mCons (mv 0) (mCons (mc (.int (0))) (mCons (mc (.int (0))) (mCons (mc (.int (0))) mNil))))) (gmN 1))
  (mSeq (mFor (mRng1 (mCons (mc (.int (4))) mNil)) (gmN 2) (mSeq (mAsg (mCall m__law_program (mCons (mv 1) (mCons (mBin ixD (mLst (mCons (mc (.int (9))) (mCons (mc (.int (60))) mNil))) (mCall m__law_taken (mCons (mv 1) (mCons (mc (.int (2))) mNil)))) mNil))) (gmN 3))
  (mSeq (mAsg (mCall lenD (mCons (mv 3) mNil)) (gmN 4))
  (mSeq (mAsg (mBin ixD (mBin addD (mLc (mRng1 (mCons (mv 4) mNil)) (gmN 11) (mOr (mTb (mBin gtD (mv 11) (mc (.int (29))))) (mNot (mTb (mCall m__law_may_be_plain (mCons (mBin ixD (mv 3) (mv 11)) mNil))))) (mv 11) [11] finF) (mLst (mCons (mc .non) mNil))) (mc (.int (0)))) (gmN 5))
  (mSeq (mAsg (mBin addN (mBin addD (mBin mulD (mLst (mCons (mTup (mCons (mc (.str "rooms")) (mCons (mc (.int (0))) mNil))) mNil)) (mc (.int (3)))) (mLst (mCons (mc .non) mNil))) (mLst (mCons (mIf (mTb (mBin isD (mv 5) (mc .non))) (mTup (mCons (mc (.str "word")) (mCons (mc (.int (0))) mNil))) (mTup (mCons (mc (.str "program")) (mCons (mv 5) mNil)))) mNil))) (gmN 6))
  (mSeq (mDrop (mMt "list" appD (mv 6) (mCons (mIf (mTb (mBin isD (mv 5) (mc .non))) (mc .non) (mTup (mCons (mc (.str "program")) (mCons (mv 5) mNil)))) mNil)))
  (mSeq (mIfS (mTb (mBin neD (mWks 12 1 2 pre__law_works bs__law_works (mCons (mv 3) mNil)) (mv 6))) (mRet (mc (.bl false))) mNx)
  (mSeq (mAsg (mCall m__law_taken (mCons (mv 1) (mCons (mv 4) mNil))) (gmN 7))
  (mSeq (mAsg (mBin addD (mBin addD (mSl (mv 3) mNoPart (mPart (mv 7))) (mTup (mCons (mCall m__law_bad (mCons (mv 1) (mCons (mv 4) mNil))) mNil))) (mSl (mv 3) (mPart (mBin addD (mv 7) (mc (.int (1))))) mNoPart)) (gmN 8))
  (mSeq (mIfS (mTb (mBin eqD (mCall m__law_taken (mCons (mv 1) (mCons (mc (.int (2))) mNil))) (mc (.int (1))))) (mSeq (mAsg (mBin addD (mv 7) (mCall m__law_taken (mCons (mv 1) (mCons (mBin subD (mv 4) (mv 7)) mNil)))) (gmN 9))
  (mAsg (mBin addD (mBin addD (mSl (mv 8) mNoPart (mPart (mv 9))) (mTup (mCons (mCall m__law_bad (mCons (mv 1) (mCons (mv 4) mNil))) mNil))) (mSl (mv 8) (mPart (mBin addD (mv 9) (mc (.int (1))))) mNoPart)) (gmN 8))) mNx)
  (mSeq (mAsg (mBin ixD (mLst (mCons (mv 8) (mCons (mSl (mBin mulD (mv 3) (mc (.int (61)))) mNoPart (mPart (mBin addD (mc (.int (61))) (mCall m__law_taken (mCons (mv 1) (mCons (mc (.int (2))) mNil)))))) (mCons (mTup mNil) mNil)))) (mBin ixD (mLst (mCons (mc (.int (0))) (mCons (mc (.int (0))) (mCons (mc (.int (0))) (mCons (mc (.int (0))) (mCons (mc (.int (1))) (mCons (mc (.int (2))) mNil))))))) (mCall m__law_taken (mCons (mv 1) (mCons (mc (.int (6))) mNil))))) (gmN 10))
  (mSeq (mAsg (mIf (mTb (mBin eqD (mv 10) (mv 8))) (mv 7) (mBin ixD (mLst (mCons (mc (.int (60))) (mCons (mc (.int (0))) mNil))) (mCall intD (mCons (mBin eqD (mv 10) (mTup mNil)) mNil)))) (gmN 6))
  (mIfS (mTb (mBin neD (mWks 12 1 2 pre__law_works bs__law_works (mCons (mv 10) mNil)) (mBin mulD (mLst (mCons (mTup (mCons (mc (.str "program")) (mCons (mv 6) mNil))) mNil)) (mc (.int (6)))))) (mRet (mc (.bl false))) mNx)))))))))))))
  (mRet (mc (.bl true)))))
def m_law : List D → AH → R D := mFun 1 13 b_law
end K01

set_option Elab.async false
set_option linter.all false
set_option maxRecDepth 100000
set_option maxHeartbeats 4000000
namespace K01
open PySem L2 Tg
def top (i : Nat) : Stmt := PySem.Challenge.pw_tagmachine_k01_programs_refused.main.body.getD i (.Pass ⟨0, 0, 0, 0⟩)
abbrev s__law_taken : Stmt := top 75
abbrev n__law_taken : List Str := ["_law_row_here", "_law_many", "_law_found", "_law_cell"]
abbrev p__law_taken : List Str := ["_law_row_here", "_law_many"]
abbrev s__law_number : Stmt := top 77
abbrev n__law_number : List Str := ["_law_row_here", "_law_way"]
abbrev p__law_number : List Str := ["_law_row_here"]
abbrev s__law_rights : Stmt := top 78
abbrev n__law_rights : List Str := ["_law_row_here", "_law_often", "_law_sign"]
abbrev p__law_rights : List Str := ["_law_row_here"]
abbrev s__law_row : Stmt := top 79
abbrev n__law_row : List Str := ["_law_row_here", "_law_at", "_law_rows", "_law_words", "_law_word_here", "_law_r", "_law_s", "_law_t", "_law_goal", "_law_far", "_law_some"]
abbrev p__law_row : List Str := ["_law_row_here", "_law_at", "_law_rows"]
abbrev s__law_program : Stmt := top 80
abbrev n__law_program : List Str := ["_law_row_here", "_law_most", "_law_rows", "_law_found", "_law_at", "_law_one"]
abbrev p__law_program : List Str := ["_law_row_here", "_law_most"]
abbrev s__law_may_be_plain : Stmt := top 83
abbrev n__law_may_be_plain : List Str := ["_law_one", "_law_far", "_law_boxes"]
abbrev p__law_may_be_plain : List Str := ["_law_one"]
abbrev s_BadProgram___init__ : Stmt := inClass (top 2) 0
abbrev n_BadProgram___init__ : List Str := ["self", "row"]
abbrev p_BadProgram___init__ : List Str := ["self", "row"]
abbrev s_are_rights : Stmt := top 21
abbrev n_are_rights : List Str := ["part", "sign"]
abbrev p_are_rights : List Str := ["part"]
abbrev s_is_number : Stmt := top 19
abbrev n_is_number : List Str := ["word"]
abbrev p_is_number : List Str := ["word"]
abbrev s_is_within : Stmt := top 20
abbrev n_is_within : List Str := ["number", "low", "high"]
abbrev p_is_within : List Str := ["number", "low", "high"]
abbrev s_is_part : Stmt := top 39
abbrev n_is_part : List Str := ["part", "sort", "rows", "bounds"]
abbrev p_is_part : List Str := ["part", "sort", "rows"]
abbrev s_is_row : Stmt := top 40
abbrev n_is_row : List Str := ["row", "rows", "form", "k"]
abbrev p_is_row : List Str := ["row", "rows"]
abbrev s_need_program : Stmt := top 41
abbrev n_need_program : List Str := ["program", "number"]
abbrev p_need_program : List Str := ["program"]
abbrev s_need_state : Stmt := top 27
abbrev n_need_state : List Str := ["rows", "rooms", "cells", "boxes", "most"]
abbrev p_need_state : List Str := ["rows", "rooms", "cells", "boxes"]
abbrev s_run : Stmt := top 51
abbrev n_run : List Str := ["program", "rooms", "cells", "boxes", "fuel", "machine"]
abbrev p_run : List Str := ["program", "rooms", "cells", "boxes", "fuel"]
abbrev s_run_swept : Stmt := top 56
abbrev n_run_swept : List Str := ["program", "rooms", "cells", "boxes", "fuel", "sweeps", "lazy"]
abbrev p_run_swept : List Str := ["program", "rooms", "cells", "boxes", "fuel", "sweeps"]
abbrev s_Machine___init__ : Stmt := inClass (top 55) 0
abbrev n_Machine___init__ : List Str := ["self", "program", "rooms", "cells", "boxes"]
abbrev p_Machine___init__ : List Str := ["self", "program", "rooms", "cells", "boxes"]
abbrev s_word_of : Stmt := top 72
abbrev n_word_of : List Str := ["part"]
abbrev p_word_of : List Str := ["part"]
abbrev s_written : Stmt := top 73
abbrev n_written : List Str := ["program", "row", "part"]
abbrev p_written : List Str := ["program"]
abbrev s_is_plain_marked : Stmt := top 63
abbrev n_is_plain_marked : List Str := ["row", "boxes", "box"]
abbrev p_is_plain_marked : List Str := ["row"]
abbrev s_need_plain : Stmt := top 65
abbrev n_need_plain : List Str := ["program", "number"]
abbrev p_need_plain : List Str := ["program"]
abbrev s_BadWord___init__ : Stmt := inClass (top 3) 0
abbrev n_BadWord___init__ : List Str := ["self", "place"]
abbrev p_BadWord___init__ : List Str := ["self", "place"]
abbrev s_need_numbers : Stmt := top 66
abbrev n_need_numbers : List Str := ["cells", "place"]
abbrev p_need_numbers : List Str := ["cells"]
abbrev s_run_places : Stmt := top 68
abbrev n_run_places : List Str := ["program", "cells", "fuel", "plain"]
abbrev p_run_places : List Str := ["program", "cells", "fuel"]
abbrev s_keyed : Stmt := top 69
abbrev n_keyed : List Str := ["program", "begins", "origins", "number", "rows", "row"]
abbrev p_keyed : List Str := ["program"]
abbrev s__law_bad : Stmt := top 81
abbrev n__law_bad : List Str := ["_law_row_here", "_law_many", "_law_far", "_law_some"]
abbrev p__law_bad : List Str := ["_law_row_here", "_law_many"]
abbrev s_law : Stmt := top 84
abbrev n_law : List Str := ["_law_script", "_law_row_here", "_law_turn", "_law_program_here", "_law_many", "_law_first", "_law_due", "_law_at", "_law_odd", "_law_later", "_law_bad_here", "_law_k", "_law_work"]
abbrev p_law : List Str := ["_law_script"]
abbrev s__law_word : Stmt := top 76
abbrev n__law_word : List Str := ["_law_work", "e", "_law_kinds", "_law_word_here"]
abbrev p__law_word : List Str := ["_law_work"]
abbrev s__law_works : Stmt := top 82
abbrev n__law_works : List Str := ["_law_program_here", "_law_works_here"]
abbrev p__law_works : List Str := ["_law_program_here"]
end K01

set_option Elab.async false
set_option linter.all false
set_option maxRecDepth 100000
set_option maxHeartbeats 4000000
namespace K01
open PySem L2 Tg
def hXs : List PySem.Str := ["law", "_law_works"]
def hFc0 : List Fc := [fa (.glo "_law_taken"),
  fa (.keep "_law_taken"),
  fa (.glo "_law_number"),
  fa (.keep "_law_number"),
  fa (.glo "_law_rights"),
  fa (.keep "_law_rights"),
  fa (.glo "_law_row"),
  fa (.keep "_law_row"),
  fa (.glo "_law_program"),
  fa (.keep "_law_program"),
  fa (.glo "_law_may_be_plain"),
  fa (.keep "_law_may_be_plain"),
  fa (.glo "BadProgram"),
  excV "BadProgram" "ValueError.__new__",
  excY "BadProgram" "row",
  kpm "BadProgram" "__init__",
  fa (.glo "TagError"),
  clr "TagError",
  clb "TagError" "__init__" "ValueError.__init__",
  fa (.glo "are_rights"),
  fa (.keep "are_rights"),
  fa (.glo "is_number"),
  fa (.keep "is_number"),
  fa (.glo "is_within"),
  fa (.keep "is_within"),
  fa (.glo "is_part"),
  fa (.keep "is_part"),
  fa (.glo "is_row"),
  fa (.keep "is_row"),
  fa (.glo "need_program")]
def hFc1 : List Fc := [fa (.keep "need_program"),
  fa (.glo "need_state"),
  fa (.keep "need_state"),
  fa (.glo "run"),
  fa (.keep "run"),
  fa (.glo "run_swept"),
  fa (.keep "run_swept"),
  fa (.glo "Machine"),
  fa (.mkr "Machine"),
  kpm "Machine" "__init__",
  fa (.glo "word_of"),
  fa (.keep "word_of"),
  fa (.glo "written"),
  fa (.keep "written"),
  fa (.glo "is_plain_marked"),
  fa (.keep "is_plain_marked"),
  fa (.glo "need_plain"),
  fa (.keep "need_plain"),
  fa (.glo "BadWord"),
  excV "BadWord" "ValueError.__new__",
  excY "BadWord" "place",
  kpm "BadWord" "__init__",
  fa (.glo "need_numbers"),
  fa (.keep "need_numbers"),
  fa (.glo "run_places"),
  fa (.keep "run_places"),
  fa (.glo "keyed"),
  fa (.keep "keyed"),
  fa (.glo "_law_bad"),
  fa (.keep "_law_bad")]
def hFc2 : List Fc := [fa (.glo "law"),
  fa (.keep "law"),
  fa (.int "BOXES_marked" 6),
  fa (.int "BOXES_words" 8),
  fa (.int "CELLS" 64),
  fa (.glo "FORMS"),
  tabF "FORMS" tb_FORMS,
  fa (.int "HALF" 10000),
  fa (.int "MOST_PLAIN" 30),
  fa (.int "MOST_ROOMS" 12),
  fa (.int "MOST_ROWS" 60),
  fa (.str "NONE" "-"),
  fa (.int "OFFSET" 64),
  fa (.int "PLACE" 6),
  fa (.str "RIGHTS" "ghls"),
  fa (.int "WHOLE" 7),
  fa (.glo "WORDS"),
  tupF "WORDS" [(.str "put"), (.str "move"), (.str "add"), (.str "take"), (.str "less"), (.str "same"), (.str "get"), (.str "set"), (.str "say"), (.str "go"), (.str "if"), (.str "end")],
  fa (.glo "BadRooms"),
  x0F "BadRooms",
  fa (.glo "_law_word"),
  fa (.keep "_law_word"),
  wordG,
  wordF,
  wordF2,
  fa (.glo "_law_works"),
  fa (.keep "_law_works"),
  tabU hXs,
  lamG hXs,
  lamN hXs]
def hFc3 : List Fc := [fa (.free "ValueError"),
  fa (.free "bool"),
  fa (.free "int"),
  fa (.free "isinstance"),
  fa (.free "len"),
  fa (.free "max"),
  fa (.free "range"),
  fa (.free "str"),
  fa (.free "tuple")]
def hFc : List Fc := hFc0 ++ (hFc1 ++ (hFc2 ++ (hFc3)))
def hFn0 : List He.FnD := [⟨("_law_taken", none), "_law_taken", "_law_taken", defArgs s__law_taken, defBody s__law_taken, defScope s__law_taken⟩,
  ⟨("_law_number", none), "_law_number", "_law_number", defArgs s__law_number, defBody s__law_number, defScope s__law_number⟩,
  ⟨("_law_rights", none), "_law_rights", "_law_rights", defArgs s__law_rights, defBody s__law_rights, defScope s__law_rights⟩,
  ⟨("_law_row", none), "_law_row", "_law_row", defArgs s__law_row, defBody s__law_row, defScope s__law_row⟩,
  ⟨("_law_program", none), "_law_program", "_law_program", defArgs s__law_program, defBody s__law_program, defScope s__law_program⟩,
  ⟨("_law_may_be_plain", none), "_law_may_be_plain", "_law_may_be_plain", defArgs s__law_may_be_plain, defBody s__law_may_be_plain, defScope s__law_may_be_plain⟩,
  ⟨("BadProgram", some "__init__"), "__init__", "BadProgram.__init__", defArgs s_BadProgram___init__, defBody s_BadProgram___init__, defScope s_BadProgram___init__⟩,
  ⟨("are_rights", none), "are_rights", "are_rights", defArgs s_are_rights, defBody s_are_rights, defScope s_are_rights⟩,
  ⟨("is_number", none), "is_number", "is_number", defArgs s_is_number, defBody s_is_number, defScope s_is_number⟩,
  ⟨("is_within", none), "is_within", "is_within", defArgs s_is_within, defBody s_is_within, defScope s_is_within⟩,
  ⟨("is_part", none), "is_part", "is_part", defArgs s_is_part, defBody s_is_part, defScope s_is_part⟩,
  ⟨("is_row", none), "is_row", "is_row", defArgs s_is_row, defBody s_is_row, defScope s_is_row⟩,
  ⟨("need_program", none), "need_program", "need_program", defArgs s_need_program, defBody s_need_program, defScope s_need_program⟩,
  ⟨("need_state", none), "need_state", "need_state", defArgs s_need_state, defBody s_need_state, defScope s_need_state⟩,
  ⟨("run", none), "run", "run", defArgs s_run, defBody s_run, defScope s_run⟩,
  ⟨("run_swept", none), "run_swept", "run_swept", defArgs s_run_swept, defBody s_run_swept, defScope s_run_swept⟩,
  ⟨("Machine", some "__init__"), "__init__", "Machine.__init__", defArgs s_Machine___init__, defBody s_Machine___init__, defScope s_Machine___init__⟩,
  ⟨("word_of", none), "word_of", "word_of", defArgs s_word_of, defBody s_word_of, defScope s_word_of⟩,
  ⟨("written", none), "written", "written", defArgs s_written, defBody s_written, defScope s_written⟩,
  ⟨("is_plain_marked", none), "is_plain", "is_plain", defArgs s_is_plain_marked, defBody s_is_plain_marked, defScope s_is_plain_marked⟩,
  ⟨("need_plain", none), "need_plain", "need_plain", defArgs s_need_plain, defBody s_need_plain, defScope s_need_plain⟩,
  ⟨("BadWord", some "__init__"), "__init__", "BadWord.__init__", defArgs s_BadWord___init__, defBody s_BadWord___init__, defScope s_BadWord___init__⟩,
  ⟨("need_numbers", none), "need_numbers", "need_numbers", defArgs s_need_numbers, defBody s_need_numbers, defScope s_need_numbers⟩,
  ⟨("run_places", none), "run_places", "run_places", defArgs s_run_places, defBody s_run_places, defScope s_run_places⟩,
  ⟨("keyed", none), "keyed", "keyed", defArgs s_keyed, defBody s_keyed, defScope s_keyed⟩,
  ⟨("_law_bad", none), "_law_bad", "_law_bad", defArgs s__law_bad, defBody s__law_bad, defScope s__law_bad⟩,
  ⟨("law", none), "law", "law", defArgs s_law, defBody s_law, defScope s_law⟩,
  ⟨("_law_word", none), "_law_word", "_law_word", defArgs s__law_word, defBody s__law_word, defScope s__law_word⟩,
  ⟨("_law_works", none), "_law_works", "_law_works", defArgs s__law_works, defBody s__law_works, defScope s__law_works⟩]
def hFn : List He.FnD := hFn0
def hTs0 : List (Str × List Str) := [("FORMS", ["put", "move", "add", "take", "less", "same", "is", "get", "set", "narrow", "fewer", "gate", "enter", "room", "shut", "say", "go", "if", "end"])]
def hTs : List (Str × List Str) := hTs0
def hNm0 : List PySem.Str := ["TagError",
  "BadProgram",
  "BadWord",
  "BadRooms",
  "BadFuel",
  "BadCell",
  "Over",
  "BadText",
  "CELLS",
  "BOXES_words",
  "ROOM",
  "MOST_ROOMS",
  "HALF",
  "RIGHTS",
  "KEY",
  "GATE",
  "ring",
  "is_number",
  "is_within",
  "are_rights",
  "is_key",
  "is_plain",
  "is_plain_words",
  "is_word",
  "need_words",
  "need_state",
  "kind_of",
  "inner",
  "without",
  "moved"]
def hNm1 : List PySem.Str := ["narrowed",
  "fewer",
  "MOST_ROWS",
  "MOST_FUEL",
  "OFFSET",
  "FORMS",
  "is_part",
  "is_row",
  "need_program",
  "need_fuel",
  "END",
  "LONG",
  "Stop",
  "need",
  "Rows",
  "AtOnce",
  "run",
  "ALL",
  "Lazy",
  "Machine",
  "run_swept",
  "WORDS",
  "BOXES_marked",
  "MOST_PLAIN",
  "PLACE",
  "WHOLE",
  "is_plain_marked",
  "need_plain",
  "need_numbers",
  "Plain"]
def hNm2 : List PySem.Str := ["run_places",
  "keyed",
  "NONE",
  "word_of",
  "written",
  "_law_taken",
  "_law_word",
  "_law_number",
  "_law_rights",
  "_law_row",
  "_law_program",
  "_law_bad",
  "_law_works",
  "_law_may_be_plain"]
def hNm : List PySem.Str := hNm0 ++ (hNm1 ++ (hNm2))
abbrev hR : PySem.W.OpenRow := PySem.W.OpenLaw.row PySem.Challenge.rw_tagmachine_k01_programs_refused
abbrev hQ : Program := PySem.W.view hR.prog [84]
abbrev hK : PySem.W.Hook := hookT hFc hFn hTs hXs
set_option maxHeartbeats 0 in
theorem runF (w : World) : HandSHeadRun.RunEq hR hQ hK (fun s => obsTG hFc hFn hTs hXs (HandSHeadRun.getT s)) 20000 hNm (w.withFollow "special-get-raises" false) := by
  intro os
  kernel_rfl
set_option maxHeartbeats 0 in
theorem runT (w : World) : HandSHeadRun.RunEq hR hQ hK (fun s => obsTG hFc hFn hTs hXs (HandSHeadRun.getT s)) 20000 hNm (w.withFollow "special-get-raises" true) := by
  intro os
  kernel_rfl
theorem hRun (w : World) : HandSHeadRun.RunEq hR hQ hK (fun s => obsTG hFc hFn hTs hXs (HandSHeadRun.getT s)) 20000 hNm w := PySem.W.byRow2 "special-get-raises" (P := fun w => HandSHeadRun.RunEq hR hQ hK (fun s => obsTG hFc hFn hTs hXs (HandSHeadRun.getT s)) 20000 hNm w) runF runT w
end K01

set_option Elab.async false
set_option linter.all false
set_option maxRecDepth 100000
set_option maxHeartbeats 4000000
namespace K01
open PySem L2 Tg
structure Txt (K : PySem.W.Frag) (w : World) (mg : Str → Option Value) : Prop where
  t__law_taken : TF K mg "_law_taken" "_law_taken" s__law_taken p__law_taken
  t__law_number : TF K mg "_law_number" "_law_number" s__law_number p__law_number
  t__law_rights : TF K mg "_law_rights" "_law_rights" s__law_rights p__law_rights
  t__law_row : TF K mg "_law_row" "_law_row" s__law_row p__law_row
  t__law_program : TF K mg "_law_program" "_law_program" s__law_program p__law_program
  t__law_may_be_plain : TF K mg "_law_may_be_plain" "_law_may_be_plain" s__law_may_be_plain p__law_may_be_plain
  t_BadProgram___init__ : TX K mg "BadProgram" "TagError" "row" "BadProgram.__init__" s_BadProgram___init__ p_BadProgram___init__
  t_are_rights : TF K mg "are_rights" "are_rights" s_are_rights p_are_rights
  t_is_number : TF K mg "is_number" "is_number" s_is_number p_is_number
  t_is_within : TF K mg "is_within" "is_within" s_is_within p_is_within
  t_is_part : TF K mg "is_part" "is_part" s_is_part p_is_part
  t_is_row : TF K mg "is_row" "is_row" s_is_row p_is_row
  t_need_program : TF K mg "need_program" "need_program" s_need_program p_need_program
  t_need_state : TF K mg "need_state" "need_state" s_need_state p_need_state
  t_run : TF K mg "run" "run" s_run p_run
  t_run_swept : TF K mg "run_swept" "run_swept" s_run_swept p_run_swept
  t_Machine___init__ : TI K mg "Machine" "Machine.__init__" s_Machine___init__ p_Machine___init__
  t_word_of : TF K mg "word_of" "word_of" s_word_of p_word_of
  t_written : TF K mg "written" "written" s_written p_written
  t_is_plain_marked : TFA K mg "is_plain_marked" "is_plain" "is_plain" s_is_plain_marked p_is_plain_marked
  t_need_plain : TF K mg "need_plain" "need_plain" s_need_plain p_need_plain
  t_BadWord___init__ : TX K mg "BadWord" "TagError" "place" "BadWord.__init__" s_BadWord___init__ p_BadWord___init__
  t_need_numbers : TF K mg "need_numbers" "need_numbers" s_need_numbers p_need_numbers
  t_run_places : TF K mg "run_places" "run_places" s_run_places p_run_places
  t_keyed : TF K mg "keyed" "keyed" s_keyed p_keyed
  t__law_bad : TF K mg "_law_bad" "_law_bad" s__law_bad p__law_bad
  t_law : TL K mg "law" s_law "_law_script"
  g_BOXES_marked : GDat K mg "BOXES_marked" g_BOXES_marked
  g_BOXES_words : GDat K mg "BOXES_words" g_BOXES_words
  g_CELLS : GDat K mg "CELLS" g_CELLS
  g_FORMS : GTab K w mg "FORMS" tb_FORMS
  g_HALF : GDat K mg "HALF" g_HALF
  g_MOST_PLAIN : GDat K mg "MOST_PLAIN" g_MOST_PLAIN
  g_MOST_ROOMS : GDat K mg "MOST_ROOMS" g_MOST_ROOMS
  g_MOST_ROWS : GDat K mg "MOST_ROWS" g_MOST_ROWS
  g_NONE : GDat K mg "NONE" g_NONE
  g_OFFSET : GDat K mg "OFFSET" g_OFFSET
  g_PLACE : GDat K mg "PLACE" g_PLACE
  g_RIGHTS : GDat K mg "RIGHTS" g_RIGHTS
  g_WHOLE : GDat K mg "WHOLE" g_WHOLE
  g_WORDS : GDat K mg "WORDS" g_WORDS
  x_BadRooms : X0 K mg "BadRooms"
  t__law_word : TF K mg "_law_word" "_law_word" s__law_word p__law_word
  wc : WordC K mg
  t__law_works : TF K mg "_law_works" "_law_works" s__law_works p__law_works
  lt_law : LamT K mg "law"
  lt__law_works : LamT K mg "_law_works"
  z_ValueError : mg "ValueError" = none
  z_bool : mg "bool" = none
  z_int : mg "int" = none
  z_isinstance : mg "isinstance" = none
  z_len : mg "len" = none
  z_max : mg "max" = none
  z_range : mg "range" = none
  z_str : mg "str" = none
  z_tuple : mg "tuple" = none
section
variable {P : Program} {w : World} {K : PySem.W.Frag} {mg : Str → Option Value} {base : Heap}
theorem sc__law_word : FnScope n__law_word p__law_word (defScope s__law_word) := ⟨rfl, rfl, rfl, by decide +kernel, rfl, by decide +kernel, by decide +kernel⟩
theorem word_fn (T : Txt K w mg) {T0 : Addr} (hT : mg "TagError" = some (.ref T0)) : WordFn P w K mg base s__law_word T0 := by
  obtain ⟨g, fd, F, hm, hb⟩ := T.t__law_word
  obtain ⟨oc, od, kV, doc, pm, an, cdv, ct, osl, rfl, lk, hcd⟩ := F.ex
  refine ⟨g, oc, od, an, osl, kV, doc, pm, cdv, ct, n__law_word, hm, F.kp, lk, hcd, hb, sc__law_word, rfl, .inl rfl, fun X q e1 e2 e3 e4 e5 => ?_⟩
  subst e1 e2 e3 e4 e5
  exact gives_of hT sc__law_word.nd rfl rfl rfl rfl (fun _ => rfl) fun s H a oe cls d pn hz hf => pss_cons (ps_set (i := 2) sc__law_word.nd rfl (.inl rfl) (pe_lst (pa_cons (pe_callB (call_isX hz hf) rfl T.z_isinstance (by decide +kernel) (pa_cons (pe_var (i := 1) rfl (.inl rfl)) (pa_cons (pe_glob rfl (T.wc.at (c := "BadProgram") (by decide)) rfl) pa_nil))) (pa_cons (pe_callB (call_isX hz hf) rfl T.z_isinstance (by decide +kernel) (pa_cons (pe_var (i := 1) rfl (.inl rfl)) (pa_cons (pe_glob rfl (T.wc.at (c := "BadWord") (by decide)) rfl) pa_nil))) (pa_cons (pe_callB (call_isX hz hf) rfl T.z_isinstance (by decide +kernel) (pa_cons (pe_var (i := 1) rfl (.inl rfl)) (pa_cons (pe_glob rfl (T.wc.at (c := "BadRooms") (by decide)) rfl) pa_nil))) (pa_cons (pe_callB (call_isX hz hf) rfl T.z_isinstance (by decide +kernel) (pa_cons (pe_var (i := 1) rfl (.inl rfl)) (pa_cons (pe_glob rfl (T.wc.at (c := "BadFuel") (by decide)) rfl) pa_nil))) pa_nil))))))
      (pss_cons (ps_set (i := 2) sc__law_word.nd rfl (.inl rfl) (pe_op op_cat (pe_var (i := 2) rfl (.inl rfl)) (pe_lst (pa_cons (pe_callB (call_isX hz hf) rfl T.z_isinstance (by decide +kernel) (pa_cons (pe_var (i := 1) rfl (.inl rfl)) (pa_cons (pe_glob rfl (T.wc.at (c := "BadCell") (by decide)) rfl) pa_nil))) (pa_cons (pe_callB (call_isX hz hf) rfl T.z_isinstance (by decide +kernel) (pa_cons (pe_var (i := 1) rfl (.inl rfl)) (pa_cons (pe_glob rfl (T.wc.at (c := "Over") (by decide)) rfl) pa_nil))) (pa_cons (pe_callB (call_isX hz hf) rfl T.z_isinstance (by decide +kernel) (pa_cons (pe_var (i := 1) rfl (.inl rfl)) (pa_cons (pe_glob rfl (T.wc.at (c := "BadText") (by decide)) rfl) pa_nil))) pa_nil))))))
      (pss_cons (ps_if (PW.pt (pw_or (pt_cmpR op_ne (pe_bm PySem.F.plainAttrs_list PySem.F.slot_list_count PySem.F.type_list_count mt_count (pe_var (i := 2) rfl (.inl rfl)) (pa_cons pe_bl pa_nil)) pe_int (nomark _)) (pw_or1 (pt_not (pt_val (pe_callB (call_isX hz hf) rfl T.z_isinstance (by decide +kernel) (pa_cons (pe_var (i := 1) rfl (.inl rfl)) (pa_cons (pe_bltn rfl T.z_ValueError (by decide +kernel) rfl) pa_nil)))))))) (pss_one (ps_ret (pe_tup (pa_cons pe_str (pa_cons pe_int pa_nil))))) pss_nil)
      (pss_cons (ps_set (i := 3) sc__law_word.nd rfl (.inl rfl) (pe_ix ix_list (pe_lst (pa_cons pe_str (pa_cons pe_str (pa_cons pe_str (pa_cons pe_str (pa_cons pe_str (pa_cons pe_str (pa_cons pe_str pa_nil)))))))) (pe_bm PySem.F.plainAttrs_list PySem.F.slot_list_index PySem.F.type_list_index mt_index (pe_var (i := 2) rfl (.inl rfl)) (pa_cons pe_bl pa_nil)) (by intro _ _; rfl)))
      (pss_cons (ps_if (pt_cmpR op_eq (pe_var (i := 3) rfl (.inl rfl)) pe_str (nomark _)) (pss_one (ps_ret (pe_tup (pa_cons (pe_var (i := 3) rfl (.inl rfl)) (pa_cons (pe_xf (T.wc.xf (c := "BadWord") (by decide)).1 (T.wc.xf (c := "BadWord") (by decide)).2.2.1 hz hf (pe_var (i := 1) rfl (.inl rfl))) pa_nil))))) pss_nil)
      (pss_cons (ps_if (pt_cmpR op_eq (pe_var (i := 3) rfl (.inl rfl)) pe_str (nomark _)) (pss_one (ps_ret (pe_tup (pa_cons (pe_var (i := 3) rfl (.inl rfl)) (pa_cons (pe_xf (T.wc.xf (c := "BadProgram") (by decide)).1 (T.wc.xf (c := "BadProgram") (by decide)).2.1 hz hf (pe_var (i := 1) rfl (.inl rfl))) pa_nil))))) pss_nil)
      (pss_one (ps_ret (pe_tup (pa_cons (pe_var (i := 3) rfl (.inl rfl)) (pa_cons (pe_ifExp (pt_cmpR op_eq (pe_var (i := 3) rfl (.inl rfl)) pe_str (nomark _)) (pe_xf (T.wc.xf (c := "BadText") (by decide)).1 (T.wc.xf (c := "BadText") (by decide)).2.2.2 hz hf (pe_var (i := 1) rfl (.inl rfl))) pe_int) pa_nil))))))))))
theorem sc__law_taken : FnScope n__law_taken p__law_taken (defScope s__law_taken) := ⟨rfl, rfl, rfl, by decide +kernel, rfl, by decide +kernel, by decide +kernel⟩
theorem d__law_taken (T : Txt K w mg) : Dfn P w K mg base "_law_taken" 1 m__law_taken := dfn_of T.t__law_taken sc__law_taken fun f cd A outer s H E hr => ⟨_, by
  unfold b__law_taken
  exact
  (sscons
  (sifS (tcmp op_gt oGtS (six hr (sv 0) sint) sint (nomark _)) (sscons
  (sset 2 (sc__law_taken).nd (sop op_mod oModS (six hr (sv 0) sint) (sv 1)))
  (sscons
  (ssub hr (sv 0) sint (sop op_fdiv oFdivS (six hr (sv 0) sint) (sv 1)))
  (ssone
  (sret (sv 2))))) ssnil)
  (sscons
  (ssub hr (sv 0) sint (sop oAdd oAddS (six hr (sv 0) sint) sint))
  (sscons
  (sifS (tcmp op_gt oGtS (six hr (sv 0) sint) (sbuilt oLen oLenS T.z_len (acons (six hr (sv 0) sint) anil)) (nomark _)) (sscons
  (ssub hr (sv 0) sint (sop op_mod oModS (sop oAdd oAddS (sop oMul oMulS (six hr (sv 0) sint) sint) sint) sint))
  (ssone
  (sret (sop op_mod oModS (sop op_fdiv oFdivS (six hr (sv 0) sint) sint) (sv 1))))) ssnil)
  (sscons
  (sset 3 (sc__law_taken).nd (six hr (six hr (sv 0) sint) (sop op_sub oSubS (six hr (sv 0) sint) sint)))
  (sscons
  (ssub hr (sv 0) sint (sop op_mod oModS (sop oAdd oAddS (sop oAdd oAddS (sop oMul oMulS (six hr (sv 0) sint) sint) (sv 3)) sint) sint))
  (sscons
  (sifS (tcmp op_ge oGeS (sv 3) (sop op_pow oPowS sint sint) (nomark _)) (ssone
  (ssub hr (sv 0) sint (sop op_fdiv oFdivS (sv 3) (sv 1)))) ssnil)
  (ssone
  (sret (sop op_mod oModS (sv 3) (sv 1))))))))))⟩
theorem sc__law_number : FnScope n__law_number p__law_number (defScope s__law_number) := ⟨rfl, rfl, rfl, by decide +kernel, rfl, by decide +kernel, by decide +kernel⟩
theorem d__law_number (T : Txt K w mg) : Dfn P w K mg base "_law_number" 2 m__law_number := dfn_of T.t__law_number sc__law_number fun f cd A outer s H E hr => ⟨_, by
  unfold b__law_number
  exact
  (sscons
  (sset 1 (sc__law_number).nd (scall (d__law_taken T) hr (by decide) tkF (acons (sv 0) (acons sint anil))))
  (sscons
  (sifS (tcmp op_lt oLtS (sv 1) sint (nomark _)) (ssone
  (sret (six hr (slst (acons (scall (d__law_taken T) hr (by decide) tkF (acons (sv 0) (acons sint anil))) (acons (scall (d__law_taken T) hr (by decide) tkF (acons (sv 0) (acons sint anil))) (acons (sop op_sub oSubS (scall (d__law_taken T) hr (by decide) tkF (acons (sv 0) (acons sint anil))) sint) (acons sint anil))))) (sv 1)))) ssnil)
  (ssone
  (sret (six hr (slst (acons (sop op_sub oSubS (scall (d__law_taken T) hr (by decide) tkF (acons (sv 0) (acons sint anil))) sint) (acons (six hr (slst (acons sint (acons (sop op_sub oSubS sint sint) anil))) (scall (d__law_taken T) hr (by decide) tkF (acons (sv 0) (acons sint anil)))) anil))) (sop op_sub oSubS (sv 1) sint))))))⟩
theorem sc__law_rights : FnScope n__law_rights p__law_rights (defScope s__law_rights) := ⟨rfl, rfl, rfl, by decide +kernel, rfl, by decide +kernel, by decide +kernel⟩
theorem d__law_rights (T : Txt K w mg) : Dfn P w K mg base "_law_rights" 2 m__law_rights := dfn_of T.t__law_rights sc__law_rights fun f cd A outer s H E hr => ⟨_, by
  unfold b__law_rights
  exact
  (sscons
  (sset 1 (sc__law_rights).nd (six hr (slst (acons sint (acons sint (acons sint anil)))) (scall (d__law_taken T) hr (by decide) tkF (acons (sv 0) (acons sint anil)))))
  (ssone
  (sret (smt PySem.F.plainAttrs_str PySem.F.slot_str_join PySem.F.type_str_join mt_join oJoinS sstr (acons (by (refine' slc (own := [("_law_sign", 2)]) fin_f rfl (sc__law_rights).nd ?hi0 ?ok0 ?hg0 ?ht0 ?he0 ?hw0); (case hi0 => exact (iany sstr)); (case ok0 => exact blkOk_by (own := [("_law_sign", 2)]) (N := n__law_rights) (sc := (defScope s__law_rights)) (by decide +kernel)); (case hg0 => exact fun _ _ _ _ _ => sg_fix (gname (i := 2) (sc__law_rights).nd) (by first | exact rfl | (dsimp only [Cx.blk] <;> exact rfl))); (case ht0 => exact fun _ _ _ _ _ => sts_fix (stsone (tcmp op_gt oGtS (scall (d__law_taken T) (by exact hr) (by decide) takes0 (acons (sv 0) (acons (sv 1) anil))) sint (nomark _))) (by first | exact rfl | (dsimp only [Cx.blk] <;> exact rfl))); (case he0 => exact fun _ _ _ _ _ => se_fix (sv 2) (by first | exact rfl | (dsimp only [Cx.blk] <;> exact rfl))); (case hw0 => decide)) anil)))))⟩
theorem sc__law_row : FnScope n__law_row p__law_row (defScope s__law_row) := ⟨rfl, rfl, rfl, by decide +kernel, rfl, by decide +kernel, by decide +kernel⟩
theorem d__law_row (T : Txt K w mg) : Dfn P w K mg base "_law_row" 3 m__law_row := dfn_of T.t__law_row sc__law_row fun f cd A outer s H E hr => ⟨_, by
  unfold b__law_row
  exact
  (sscons
  (sset 3 (sc__law_row).nd (slst (acons sstr (acons sstr (acons sstr (acons sstr (acons sstr (acons sstr (acons sstr (acons sstr (acons sstr (acons sstr (acons sstr (acons sstr (acons sstr (acons sstr anil))))))))))))))))
  (sscons
  (sset 3 (sc__law_row).nd (sop oAdd oAddS (sv 3) (slst (acons sstr (acons sstr (acons sstr (acons sstr (acons sstr (acons sstr (acons sstr (acons sstr (acons sstr (acons sstr anil)))))))))))))
  (sscons
  (sset 4 (sc__law_row).nd (six hr (sv 3) (scall (d__law_taken T) hr (by decide) tkF (acons (sv 0) (acons sint anil)))))
  (sscons
  (sparT (i := 5) (j := 6) (l := 7) rfl (sc__law_row).nd (acons (scall (d__law_taken T) hr (by decide) tkF (acons (sv 0) (acons sint anil))) (acons (scall (d__law_taken T) hr (by decide) tkF (acons (sv 0) (acons sint anil))) (acons (scall (d__law_taken T) hr (by decide) tkF (acons (sv 0) (acons sint anil))) anil))))
  (sscons
  (sset 8 (sc__law_row).nd (sop oAdd oAddS (sv 1) (scall (d__law_taken T) hr (by decide) tkF (acons (sv 0) (acons (sop op_sub oSubS (sv 2) (sv 1)) anil)))))
  (sscons
  (sifS (tcmp (oEq hr) oEqS (scall (d__law_taken T) hr (by decide) tkF (acons (sv 0) (acons sint anil))) sint (nomark _)) (ssone
  (sset 8 (sc__law_row).nd (scall (d__law_taken T) hr (by decide) tkF (acons (sv 0) (acons (sv 2) anil))))) ssnil)
  (sscons
  (sifS (tcmp (oIn hr) oInS (sv 4) (stup (acons sstr (acons sstr (acons sstr (acons sstr (acons sstr anil)))))) (by with_unfolding_all rfl)) (ssone
  (sret (stup (acons (sv 4) (acons (sv 5) (acons (sv 6) (acons (sv 7) anil))))))) ssnil)
  (sscons
  (sifS (tcmp (oIn hr) oInS (sv 4) (stup (acons sstr (acons sstr anil))) (by with_unfolding_all rfl)) (sscons
  (sset 9 (sc__law_row).nd (six hr (slst (acons sint (acons sint (acons (sop op_sub oSubS (scall (d__law_taken T) hr (by decide) tkF (acons (sv 0) (acons sint anil))) sint) (acons (sop op_sub oSubS (scall (d__law_taken T) hr (by decide) tkF (acons (sv 0) (acons sint anil))) sint) anil))))) (scall (d__law_taken T) hr (by decide) tkF (acons (sv 0) (acons sint anil)))))
  (ssone
  (sret (sif (tcmp (oEq hr) oEqS (sv 4) sstr (nomark _)) (stup (acons (sv 4) (acons (sv 5) (acons (sv 6) (acons (sv 9) anil))))) (stup (acons (sv 4) (acons (sv 6) (acons (sv 9) (acons (sv 7) anil))))))))) ssnil)
  (sscons
  (sset 10 (sc__law_row).nd (sdctN (spcons sstr (stup (acons (sv 5) (acons (scall (d__law_number T) hr (by decide) tkF (acons (sv 0) anil)) anil))) (spcons sstr (stup (acons (sv 5) (acons (sv 6) (acons (scall (d__law_rights T) hr (by decide) tkF (acons (sv 0) anil)) anil)))) (spcons sstr (stup (acons (sv 8) anil)) (spcons sstr (stup (acons (sv 6) (acons (sv 8) anil))) (spcons sstr (stup anil) spnil)))))))
  (sscons
  (sexpr (smt PySem.F.plainAttrs_dict PySem.F.slot_dict_update PySem.F.type_dict_update (mt_upd rfl) oUpdS (sv 10) (acons (slst (acons (stup (acons sstr (acons (stup (acons (sv 5) (acons (sv 6) (acons (scall (d__law_taken T) hr (by decide) tkF (acons (sv 0) (acons (sop oAdd oAddS (sv 2) sint) anil))) anil)))) anil))) (acons (stup (acons sstr (acons (stup (acons (sv 5) (acons (sv 6) anil))) anil))) (acons (stup (acons sstr (acons (stup (acons (sv 5) (acons (sv 6) anil))) anil))) anil)))) anil)))
  (ssone
  (sret (sop oAdd oAddS (stup (acons (sv 4) anil)) (sget2 hr (sv 10) (sv 4) (stup (acons (sv 6) anil))))))))))))))))⟩
theorem sc__law_program : FnScope n__law_program p__law_program (defScope s__law_program) := ⟨rfl, rfl, rfl, by decide +kernel, rfl, by decide +kernel, by decide +kernel⟩
theorem d__law_program (T : Txt K w mg) : Dfn P w K mg base "_law_program" 4 m__law_program := dfn_of T.t__law_program sc__law_program fun f cd A outer s H E hr => ⟨_, by
  unfold b__law_program
  exact
  (sscons
  (sset 2 (sc__law_program).nd (sop oAdd oAddS sint (scall (d__law_taken T) hr (by decide) tkF (acons (sv 0) (acons (sv 1) anil)))))
  (sscons
  (by (refine' ssetLc 3 (own := [("_law_at", 4)]) fin_f rfl (sc__law_program).nd ?hi0 ?ok0 ?hg0 ?ht0 ?he0 ?hw0); (case hi0 => exact (irng1 T.z_range (acons (sv 2) anil))); (case ok0 => exact blkOk_by (own := [("_law_at", 4)]) (N := n__law_program) (sc := (defScope s__law_program)) (by decide +kernel)); (case hg0 => exact fun _ _ _ _ _ => sg_fix (gname (i := 4) (sc__law_program).nd) (by first | exact rfl | (dsimp only [Cx.blk] <;> exact rfl))); (case ht0 => exact fun _ _ _ _ _ => sts_fix stsnil (by first | exact rfl | (dsimp only [Cx.blk] <;> exact rfl))); (case he0 => exact fun _ _ _ _ _ => se_fix (scall (d__law_row T) (by exact hr) (by decide) takes0 (acons (sv 0) (acons (sv 4) (acons (sv 2) anil)))) (by first | exact rfl | (dsimp only [Cx.blk] <;> exact rfl))); (case hw0 => decide))
  (ssone
  (sret (styp call_tuple_of oTupS T.z_tuple (acons (by (refine' slc (own := [("_law_one", 5)]) fin_f rfl (sc__law_program).nd ?hi0 ?ok0 ?hg0 ?ht0 ?he0 ?hw0); (case hi0 => exact (iany (sv 3))); (case ok0 => exact blkOk_by (own := [("_law_one", 5)]) (N := n__law_program) (sc := (defScope s__law_program)) (by decide +kernel)); (case hg0 => exact fun _ _ _ _ _ => sg_fix (gname (i := 5) (sc__law_program).nd) (by first | exact rfl | (dsimp only [Cx.blk] <;> exact rfl))); (case ht0 => exact fun _ _ _ _ _ => sts_fix stsnil (by first | exact rfl | (dsimp only [Cx.blk] <;> exact rfl))); (case he0 => exact fun _ _ _ _ _ => se_fix (sif (twd (wand (tcmp (oEq (by exact hr)) oEqS (sv 5) (stup (acons sstr anil)) (nomark _)) (wand1 (tcmp op_gt oGtS (scall (d__law_taken T) (by exact hr) (by decide) takes0 (acons (sv 0) (acons sint anil))) sint (nomark _))))) (stup (acons sstr (acons sint anil))) (sv 5)) (by first | exact rfl | (dsimp only [Cx.blk] <;> exact rfl))); (case hw0 => decide)) anil))))))⟩
theorem sc__law_may_be_plain : FnScope n__law_may_be_plain p__law_may_be_plain (defScope s__law_may_be_plain) := ⟨rfl, rfl, rfl, by decide +kernel, rfl, by decide +kernel, by decide +kernel⟩
theorem d__law_may_be_plain (T : Txt K w mg) : Dfn P w K mg base "_law_may_be_plain" 1 m__law_may_be_plain := dfn_of T.t__law_may_be_plain sc__law_may_be_plain fun f cd A outer s H E hr => ⟨_, by
  unfold b__law_may_be_plain
  exact
  (sscons
  (sifS (tcmp (oIn hr) oInS (six hr (sv 0) sint) (stup (acons sstr (acons sstr anil))) (by with_unfolding_all rfl)) (sscons
  (sasg (sif (tcmp (oEq hr) oEqS (six hr (sv 0) sint) sstr (nomark _)) (stup (acons (six hr (sv 0) sint) (acons (ssl (sv 0) (osome sint) (osome sint)) anil))) (stup (acons (six hr (sv 0) sint) (acons (stup (acons (six hr (sv 0) sint) (acons (six hr (sv 0) sint) anil))) anil)))) (gtup rfl (gcons (gname (i := 1) (sc__law_may_be_plain).nd) (gcons (gname (i := 2) (sc__law_may_be_plain).nd) gnil))))
  (ssone
  (sret (sand (scmp (oEq hr) oEqS (sv 1) sint (nomark _)) (sone (scmp op_lt oLtS (sbuilt (oMax rfl) oMaxS T.z_max (acons (sv 2) anil)) sint (nomark _))))))) ssnil)
  (sscons
  (sifS (tcmp (oIn hr) oInS (six hr (sv 0) sint) (stup (acons sstr (acons sstr anil))) (by with_unfolding_all rfl)) (ssone
  (sret sbl)) ssnil)
  (sscons
  (sset 2 (sc__law_may_be_plain).nd (sif (tcmp (oIn hr) oInS (six hr (sv 0) sint) (stup (acons sstr (acons sstr anil))) (by with_unfolding_all rfl)) (ssl (sv 0) (osome sint) (osome sint)) (ssl (sv 0) (osome sint) onone)))
  (sscons
  (sifS (tcmp (oNIn hr) oNInS (six hr (sv 0) sint) (stup (acons sstr (acons sstr (acons sstr (acons sstr (acons sstr (acons sstr (acons sstr (acons sstr anil))))))))) (by with_unfolding_all rfl)) (ssone
  (sret sbl)) ssnil)
  (ssone
  (sret (scmp op_lt oLtS (sbuilt (oMax rfl) oMaxS T.z_max (acons (sv 2) anil)) sint (nomark _))))))))⟩
theorem sc_BadProgram___init__ : FnScope n_BadProgram___init__ p_BadProgram___init__ (defScope s_BadProgram___init__) := ⟨rfl, rfl, rfl, by decide +kernel, rfl, by decide +kernel, by decide +kernel⟩
theorem d_BadProgram___init__ (T : Txt K w mg) : Xmk P w K mg base "BadProgram" "row" 1 := xmk_of T.t_BadProgram___init__ sc_BadProgram___init__ fun C B newId initId bmB fI cdv A outer s H E xc hb no => pss_cons (ps_expr (pe_xin hb xc rfl (pa_cons (sv (Wx := fun _ _ _ _ => False) 0).pe (pa_cons (sv (Wx := fun _ _ _ _ => False) 1).pe pa_nil)))) (pss_one (ps_xst xc no (sv (Wx := fun _ _ _ _ => False) 0).pe (sv (Wx := fun _ _ _ _ => False) 1).pe))
theorem sc_are_rights : FnScope n_are_rights p_are_rights (defScope s_are_rights) := ⟨rfl, rfl, rfl, by decide +kernel, rfl, by decide +kernel, by decide +kernel⟩
theorem d_are_rights (T : Txt K w mg) : Dfn P w K mg base "are_rights" 1 m_are_rights := dfn_of T.t_are_rights sc_are_rights fun f cd A outer s H E hr => ⟨_, by
  unfold b_are_rights
  exact
  (ssone
  (sret (sand (sisi (T := "str") (by decide) T.z_isinstance T.z_str (sv 0)) (sone (scmp (oEq hr) oEqS (sv 0) (smt PySem.F.plainAttrs_str PySem.F.slot_str_join PySem.F.type_str_join mt_join oJoinS sstr (acons (by (refine' slc (own := [("sign", 1)]) fin_f rfl (sc_are_rights).nd ?hi0 ?ok0 ?hg0 ?ht0 ?he0 ?hw0); (case hi0 => exact (iany (sglob T.g_RIGHTS))); (case ok0 => exact blkOk_by (own := [("sign", 1)]) (N := n_are_rights) (sc := (defScope s_are_rights)) (by decide +kernel)); (case hg0 => exact fun _ _ _ _ _ => sg_fix (gname (i := 1) (sc_are_rights).nd) (by first | exact rfl | (dsimp only [Cx.blk] <;> exact rfl))); (case ht0 => exact fun _ _ _ _ _ => sts_fix (stsone (tcmp (oIn (by exact hr)) oInS (sv 1) (sv 0) (by with_unfolding_all rfl))) (by first | exact rfl | (dsimp only [Cx.blk] <;> exact rfl))); (case he0 => exact fun _ _ _ _ _ => se_fix (sv 1) (by first | exact rfl | (dsimp only [Cx.blk] <;> exact rfl))); (case hw0 => decide)) anil)) (nomark _))))))⟩
theorem sc_is_number : FnScope n_is_number p_is_number (defScope s_is_number) := ⟨rfl, rfl, rfl, by decide +kernel, rfl, by decide +kernel, by decide +kernel⟩
theorem d_is_number (T : Txt K w mg) : Dfn P w K mg base "is_number" 1 m_is_number := dfn_of T.t_is_number sc_is_number fun f cd A outer s H E hr => ⟨_, by
  unfold b_is_number
  exact
  (ssone
  (sret (sand (sisi (T := "int") (by decide) T.z_isinstance T.z_int (sv 0)) (sone (snot (sisi (T := "bool") (by decide) T.z_isinstance T.z_bool (sv 0)))))))⟩
theorem sc_is_within : FnScope n_is_within p_is_within (defScope s_is_within) := ⟨rfl, rfl, rfl, by decide +kernel, rfl, by decide +kernel, by decide +kernel⟩
theorem d_is_within (T : Txt K w mg) : Dfn P w K mg base "is_within" 2 m_is_within := dfn_of T.t_is_within sc_is_within fun f cd A outer s H E hr => ⟨_, by
  unfold b_is_within
  exact
  (ssone
  (sret (sand (scall (d_is_number T) hr (by decide) tkF (acons (sv 0) anil)) (sone (schain op_le op_lt oLeS oLtS (sv 1) (sv 0) (sv 2))))))⟩
theorem sc_is_part : FnScope n_is_part p_is_part (defScope s_is_part) := ⟨rfl, rfl, rfl, by decide +kernel, rfl, by decide +kernel, by decide +kernel⟩
theorem d_is_part (T : Txt K w mg) : Dfn P w K mg base "is_part" 3 m_is_part := dfn_of T.t_is_part sc_is_part fun f cd A outer s H E hr => ⟨_, by
  unfold b_is_part
  exact
  (sscons
  (sifS (tcmp (oEq hr) oEqS (sv 1) sstr (nomark _)) (ssone
  (sret (scall (d_are_rights T) hr (by decide) tkF (acons (sv 0) anil)))) ssnil)
  (sscons
  (sset 3 (sc_is_part).nd (sdct (spcons sstr (stup (acons sint (acons (sglob T.g_BOXES_words) anil))) (spcons sstr (stup (acons (sop op_sub oSubS sint (sglob T.g_HALF)) (acons (sglob T.g_HALF) anil))) (spcons sstr (stup (acons (sop op_sub oSubS sint (sglob T.g_OFFSET)) (acons (sglob T.g_OFFSET) anil))) (spcons sstr (stup (acons sint (acons (sop oAdd oAddS (sv 2) sint) anil))) (spcons sstr (stup (acons sint (acons (sv 2) anil))) spnil)))))))
  (ssone
  (sret (scall (d_is_within T) hr (by decide) tkF (acons (sv 0) (acons (six hr (six hr (sv 3) (sv 1)) sint) (acons (six hr (six hr (sv 3) (sv 1)) sint) anil))))))))⟩
theorem sc_is_row : FnScope n_is_row p_is_row (defScope s_is_row) := ⟨rfl, rfl, rfl, by decide +kernel, rfl, by decide +kernel, by decide +kernel⟩
theorem d_is_row (T : Txt K w mg) : Dfn P w K mg base "is_row" 4 m_is_row := dfn_of T.t_is_row sc_is_row fun f cd A outer s H E hr => ⟨_, by
  unfold b_is_row
  exact
  (sscons
  (sifS (twd (wor (tnot (tval (sisi (T := "tuple") (by decide) T.z_isinstance T.z_tuple (sv 0)))) (wor (tcmp (oEq hr) oEqS (sv 0) (stup anil) (nomark _)) (wor (tnot (tval (sisi (T := "str") (by decide) T.z_isinstance T.z_str (six hr (sv 0) sint)))) (wor1 (tknin T.g_FORMS (six hr (sv 0) sint))))))) (ssone
  (sret sbl)) ssnil)
  (sscons
  (sset 2 (sc_is_row).nd (skix T.g_FORMS (six hr (sv 0) sint)))
  (sscons
  (sifS (tcmp (oNe hr) oNeS (sbuilt oLen oLenS T.z_len (acons (sv 0) anil)) (sop oAdd oAddS (sbuilt oLen oLenS T.z_len (acons (sv 2) anil)) sint) (nomark _)) (ssone
  (sret sbl)) ssnil)
  (ssone
  (sret (scmp (oEq hr) oEqS (by (refine' slc (own := [("k", 3)]) fin_f rfl (sc_is_row).nd ?hi0 ?ok0 ?hg0 ?ht0 ?he0 ?hw0); (case hi0 => exact (irng1 T.z_range (acons (sbuilt oLen oLenS T.z_len (acons (sv 2) anil)) anil))); (case ok0 => exact blkOk_by (own := [("k", 3)]) (N := n_is_row) (sc := (defScope s_is_row)) (by decide +kernel)); (case hg0 => exact fun _ _ _ _ _ => sg_fix (gname (i := 3) (sc_is_row).nd) (by first | exact rfl | (dsimp only [Cx.blk] <;> exact rfl))); (case ht0 => exact fun _ _ _ _ _ => sts_fix (stsone (tnot (tval (scall (d_is_part T) (by exact hr) (by decide) takes0 (acons (six (by exact hr) (sv 0) (sop oAdd oAddS (sv 3) sint)) (acons (six (by exact hr) (sv 2) (sv 3)) (acons (sv 1) anil))))))) (by first | exact rfl | (dsimp only [Cx.blk] <;> exact rfl))); (case he0 => exact fun _ _ _ _ _ => se_fix (sv 3) (by first | exact rfl | (dsimp only [Cx.blk] <;> exact rfl))); (case hw0 => decide)) (slst anil) (nomark _)))))))⟩
theorem sc_need_program : FnScope n_need_program p_need_program (defScope s_need_program) := ⟨rfl, rfl, rfl, by decide +kernel, rfl, by decide +kernel, by decide +kernel⟩
theorem d_need_program (T : Txt K w mg) : Dfn P w K mg base "need_program" 5 m_need_program := dfn_of T.t_need_program sc_need_program fun f cd A outer s H E hr => ⟨_, by
  unfold b_need_program
  exact
  (sscons
  (sifS (twd (wor (tnot (tval (sisi (T := "tuple") (by decide) T.z_isinstance T.z_tuple (sv 0)))) (wor1 (tcmp (oEq hr) oEqS (sv 0) (stup anil) (nomark _))))) (ssone
  (sraise rfl (d_BadProgram___init__ T) hr (by decide) tkF sint)) ssnil)
  (ssone
  (sfor psF rfl (irng1 T.z_range (acons (sbuilt oLen oLenS T.z_len (acons (sv 0) anil)) anil)) (gname (i := 1) (sc_need_program).nd) (ssone
  (sifS (twd (wor (tcmp op_ge oGeS (sv 1) (sglob T.g_MOST_ROWS) (nomark _)) (wor1 (tnot (tval (scall (d_is_row T) hr (by decide) tkF (acons (six hr (sv 0) (sv 1)) (acons (sbuilt oLen oLenS T.z_len (acons (sv 0) anil)) anil)))))))) (ssone
  (sraise rfl (d_BadProgram___init__ T) hr (by decide) tkF (sv 1))) ssnil)))))⟩
theorem sc_need_state : FnScope n_need_state p_need_state (defScope s_need_state) := ⟨rfl, rfl, rfl, by decide +kernel, rfl, by decide +kernel, by decide +kernel⟩
theorem d_need_state (T : Txt K w mg) : Dfn P w K mg base "need_state" 3 m_need_state := dfn_of T.t_need_state sc_need_state fun f cd A outer s H E hr => ⟨_, by
  unfold b_need_state
  exact
  (sscons
  (sifS (tnot (tval (scall (d_is_within T) hr (by decide) tkF (acons (sv 1) (acons sint (acons (sop oAdd oAddS (sglob T.g_MOST_ROOMS) sint) anil)))))) (ssone
  (sraise0 rfl T.x_BadRooms tkF sstr)) ssnil)
  ssnevers)⟩
theorem sc_run : FnScope n_run p_run (defScope s_run) := ⟨rfl, rfl, rfl, by decide +kernel, rfl, by decide +kernel, by decide +kernel⟩
theorem d_run (T : Txt K w mg) : Dfn P w K mg base "run" 6 m_run := dfn_of T.t_run sc_run fun f cd A outer s H E hr => ⟨_, by
  unfold b_run
  exact
  (sscons
  (sexpr (scall (d_need_program T) hr (by decide) tkF (acons (sv 0) anil)))
  (sscons
  (sexpr (scall (d_need_state T) hr (by decide) tkF (acons (sbuilt oLen oLenS T.z_len (acons (sv 0) anil)) (acons (sv 1) (acons (sv 2) (acons (sv 3) anil))))))
  ssnevers))⟩
theorem sc_run_swept : FnScope n_run_swept p_run_swept (defScope s_run_swept) := ⟨rfl, rfl, rfl, by decide +kernel, rfl, by decide +kernel, by decide +kernel⟩
theorem d_run_swept (T : Txt K w mg) : Dfn P w K mg base "run_swept" 6 m_run_swept := dfn_of T.t_run_swept sc_run_swept fun f cd A outer s H E hr => ⟨_, by
  unfold b_run_swept
  exact
  (sscons
  (sexpr (scall (d_need_program T) hr (by decide) tkF (acons (sv 0) anil)))
  (sscons
  (sexpr (scall (d_need_state T) hr (by decide) tkF (acons (sbuilt oLen oLenS T.z_len (acons (sv 0) anil)) (acons (sv 1) (acons (sv 2) (acons (sv 3) anil))))))
  ssnevers))⟩
theorem sc_Machine___init__ : FnScope n_Machine___init__ p_Machine___init__ (defScope s_Machine___init__) := ⟨rfl, rfl, rfl, by decide +kernel, rfl, by decide +kernel, by decide +kernel⟩
theorem d_Machine___init__ (T : Txt K w mg) : Mkr P w K mg base "Machine" 6 m_Machine___init__ := mkr_of T.t_Machine___init__ sc_Machine___init__ fun f cd A outer s H E hr => ⟨_, by
  unfold b_Machine___init__
  exact
  (sscons
  (sexpr (scall (d_need_program T) hr (by decide) tkF (acons (sv 1) anil)))
  (sscons
  (sexpr (scall (d_need_state T) hr (by decide) tkF (acons (sbuilt oLen oLenS T.z_len (acons (sv 1) anil)) (acons (sv 2) (acons (sv 3) (acons (sv 4) anil))))))
  ssnevers))⟩
theorem sc_word_of : FnScope n_word_of p_word_of (defScope s_word_of) := ⟨rfl, rfl, rfl, by decide +kernel, rfl, by decide +kernel, by decide +kernel⟩
theorem d_word_of (T : Txt K w mg) : Dfn P w K mg base "word_of" 1 m_word_of := dfn_of T.t_word_of sc_word_of fun f cd A outer s H E hr => ⟨_, by
  unfold b_word_of
  exact
  (ssone
  (sret (sif (tcmp (oEq hr) oEqS (sv 0) sstr (nomark _)) (sglob T.g_NONE) (styp oStr oStrS T.z_str (acons (sv 0) anil)))))⟩
theorem sc_written : FnScope n_written p_written (defScope s_written) := ⟨rfl, rfl, rfl, by decide +kernel, rfl, by decide +kernel, by decide +kernel⟩
theorem d_written (T : Txt K w mg) : Dfn P w K mg base "written" 6 m_written := dfn_of T.t_written sc_written fun f cd A outer s H E hr => ⟨_, by
  unfold b_written
  exact
  (sscons
  (sexpr (scall (d_need_program T) hr (by decide) tkF (acons (sv 0) anil)))
  (ssone
  (sret (smt PySem.F.plainAttrs_str PySem.F.slot_str_join PySem.F.type_str_join mt_join oJoinS sstr (acons (by (refine' slc (own := [("row", 1)]) fin_f rfl (sc_written).nd ?hi0 ?ok0 ?hg0 ?ht0 ?he0 ?hw0); (case hi0 => exact (iany (sv 0))); (case ok0 => exact blkOk_by (own := [("row", 1)]) (N := n_written) (sc := (defScope s_written)) (by decide +kernel)); (case hg0 => exact fun _ _ _ _ _ => sg_fix (gname (i := 1) (sc_written).nd) (by first | exact rfl | (dsimp only [Cx.blk] <;> exact rfl))); (case ht0 => exact fun _ _ _ _ _ => sts_fix stsnil (by first | exact rfl | (dsimp only [Cx.blk] <;> exact rfl))); (case he0 => exact fun _ _ _ _ _ => se_fix (smt PySem.F.plainAttrs_str PySem.F.slot_str_join PySem.F.type_str_join mt_join oJoinS sstr (acons (by (refine' slc (own := [("part", 2)]) fin_f rfl (sc_written).nd ?hi1 ?ok1 ?hg1 ?ht1 ?he1 ?hw1); (case hi1 => exact (iany (sv 1))); (case ok1 => exact blkOk_by (own := [("part", 2)]) (N := n_written) (sc := (relS _ (defScope s_written))) (by decide +kernel)); (case hg1 => exact fun _ _ _ _ _ => sg_fix (gname (i := 2) (sc_written).nd) (by first | exact rfl | (dsimp only [Cx.blk] <;> exact rfl))); (case ht1 => exact fun _ _ _ _ _ => sts_fix stsnil (by first | exact rfl | (dsimp only [Cx.blk] <;> exact rfl))); (case he1 => exact fun _ _ _ _ _ => se_fix (scall (d_word_of T) (by exact hr) (by decide) takes0 (acons (sv 2) anil)) (by first | exact rfl | (dsimp only [Cx.blk] <;> exact rfl))); (case hw1 => decide)) anil)) (by first | exact rfl | (dsimp only [Cx.blk] <;> exact rfl))); (case hw0 => decide)) anil)))))⟩
theorem sc_is_plain_marked : FnScope n_is_plain_marked p_is_plain_marked (defScope s_is_plain_marked) := ⟨rfl, rfl, rfl, by decide +kernel, rfl, by decide +kernel, by decide +kernel⟩
theorem d_is_plain_marked (T : Txt K w mg) : Dfn P w K mg base "is_plain_marked" 1 m_is_plain_marked := dfn_ofA T.t_is_plain_marked sc_is_plain_marked fun f cd A outer s H E hr => ⟨_, by
  unfold b_is_plain_marked
  exact
  (sscons
  (sifS (tcmp (oNIn hr) oNInS (six hr (sv 0) sint) (sglob T.g_WORDS) (by with_unfolding_all rfl)) (ssone
  (sret sbl)) ssnil)
  (sscons
  (sifS (tcmp (oEq hr) oEqS (six hr (sv 0) sint) sstr (nomark _)) (ssone
  (sret (sand (scmp (oEq hr) oEqS (six hr (sv 0) sint) sint (nomark _)) (sone (scmp op_lt oLtS (sbuilt (oMax rfl) oMaxS T.z_max (acons (ssl (sv 0) (osome sint) (osome sint)) anil)) (sglob T.g_BOXES_marked) (nomark _)))))) ssnil)
  (sscons
  (sifS (tcmp (oEq hr) oEqS (six hr (sv 0) sint) sstr (nomark _)) (ssone
  (sret (sand (scmp (oEq hr) oEqS (six hr (sv 0) sint) sint (nomark _)) (sone (scmp op_lt oLtS (sbuilt (oMax rfl) oMaxS T.z_max (acons (six hr (sv 0) sint) (acons (six hr (sv 0) sint) anil))) (sglob T.g_BOXES_marked) (nomark _)))))) ssnil)
  (sscons
  (sset 1 (sc_is_plain_marked).nd (sget2 hr (sdct (spcons sstr (ssl (sv 0) (osome sint) (osome sint)) (spcons sstr (stup anil) (spcons sstr (stup anil) (spcons sstr (ssl (sv 0) (osome sint) (osome sint)) spnil))))) (six hr (sv 0) sint) (ssl (sv 0) (osome sint) onone)))
  (ssone
  (sret (scmp (oEq hr) oEqS (by (refine' slc (own := [("box", 2)]) fin_f rfl (sc_is_plain_marked).nd ?hi0 ?ok0 ?hg0 ?ht0 ?he0 ?hw0); (case hi0 => exact (iany (sv 1))); (case ok0 => exact blkOk_by (own := [("box", 2)]) (N := n_is_plain_marked) (sc := (defScope s_is_plain_marked)) (by decide +kernel)); (case hg0 => exact fun _ _ _ _ _ => sg_fix (gname (i := 2) (sc_is_plain_marked).nd) (by first | exact rfl | (dsimp only [Cx.blk] <;> exact rfl))); (case ht0 => exact fun _ _ _ _ _ => sts_fix (stsone (tcmp op_ge oGeS (sv 2) (sglob T.g_BOXES_marked) (nomark _))) (by first | exact rfl | (dsimp only [Cx.blk] <;> exact rfl))); (case he0 => exact fun _ _ _ _ _ => se_fix (sv 2) (by first | exact rfl | (dsimp only [Cx.blk] <;> exact rfl))); (case hw0 => decide)) (slst anil) (nomark _))))))))⟩
theorem sc_need_plain : FnScope n_need_plain p_need_plain (defScope s_need_plain) := ⟨rfl, rfl, rfl, by decide +kernel, rfl, by decide +kernel, by decide +kernel⟩
theorem d_need_plain (T : Txt K w mg) : Dfn P w K mg base "need_plain" 6 m_need_plain := dfn_of T.t_need_plain sc_need_plain fun f cd A outer s H E hr => ⟨_, by
  unfold b_need_plain
  exact
  (sscons
  (sexpr (scall (d_need_program T) hr (by decide) tkF (acons (sv 0) anil)))
  (ssone
  (sfor psF rfl (irng1 T.z_range (acons (sbuilt oLen oLenS T.z_len (acons (sv 0) anil)) anil)) (gname (i := 1) (sc_need_plain).nd) (ssone
  (sifS (twd (wor (tcmp op_ge oGeS (sv 1) (sglob T.g_MOST_PLAIN) (nomark _)) (wor1 (tnot (tval (scall (d_is_plain_marked T) hr (by decide) tkF (acons (six hr (sv 0) (sv 1)) anil))))))) (ssone
  (sraise rfl (d_BadProgram___init__ T) hr (by decide) tkF (sv 1))) ssnil)))))⟩
theorem sc_BadWord___init__ : FnScope n_BadWord___init__ p_BadWord___init__ (defScope s_BadWord___init__) := ⟨rfl, rfl, rfl, by decide +kernel, rfl, by decide +kernel, by decide +kernel⟩
theorem d_BadWord___init__ (T : Txt K w mg) : Xmk P w K mg base "BadWord" "place" 1 := xmk_of T.t_BadWord___init__ sc_BadWord___init__ fun C B newId initId bmB fI cdv A outer s H E xc hb no => pss_cons (ps_expr (pe_xin hb xc rfl (pa_cons (sv (Wx := fun _ _ _ _ => False) 0).pe (pa_cons (sv (Wx := fun _ _ _ _ => False) 1).pe pa_nil)))) (pss_one (ps_xst xc no (sv (Wx := fun _ _ _ _ => False) 0).pe (sv (Wx := fun _ _ _ _ => False) 1).pe))
theorem sc_need_numbers : FnScope n_need_numbers p_need_numbers (defScope s_need_numbers) := ⟨rfl, rfl, rfl, by decide +kernel, rfl, by decide +kernel, by decide +kernel⟩
theorem d_need_numbers (T : Txt K w mg) : Dfn P w K mg base "need_numbers" 3 m_need_numbers := dfn_of T.t_need_numbers sc_need_numbers fun f cd A outer s H E hr => ⟨_, by
  unfold b_need_numbers
  exact
  (ssone
  (sfor psF rfl (irng1 T.z_range (acons (sbuilt (oMax rfl) oMaxS T.z_max (acons (sglob T.g_CELLS) (acons (sbuilt oLen oLenS T.z_len (acons (sv 0) anil)) anil))) anil)) (gname (i := 1) (sc_need_numbers).nd) (ssone
  (sifS (twd (wor (tcmp op_ge oGeS (sv 1) (sbuilt oLen oLenS T.z_len (acons (sv 0) anil)) (nomark _)) (wor (tcmp op_ge oGeS (sv 1) (sglob T.g_CELLS) (nomark _)) (wor1 (tnot (tval (scall (d_is_within T) hr (by decide) tkF (acons (six hr (sv 0) (sv 1)) (acons (sop op_sub oSubS sint (sglob T.g_HALF)) (acons (sglob T.g_HALF) anil)))))))))) (ssone
  (sraise rfl (d_BadWord___init__ T) hr (by decide) tkF (sv 1))) ssnil))))⟩
theorem sc_run_places : FnScope n_run_places p_run_places (defScope s_run_places) := ⟨rfl, rfl, rfl, by decide +kernel, rfl, by decide +kernel, by decide +kernel⟩
theorem d_run_places (T : Txt K w mg) : Dfn P w K mg base "run_places" 7 m_run_places := dfn_of T.t_run_places sc_run_places fun f cd A outer s H E hr => ⟨_, by
  unfold b_run_places
  exact
  (sscons
  (sexpr (scall (d_need_plain T) hr (by decide) tkF (acons (sv 0) anil)))
  (sscons
  (sexpr (scall (d_need_numbers T) hr (by decide) tkF (acons (sv 1) anil)))
  ssnevers))⟩
theorem sc_keyed : FnScope n_keyed p_keyed (defScope s_keyed) := ⟨rfl, rfl, rfl, by decide +kernel, rfl, by decide +kernel, by decide +kernel⟩
theorem d_keyed (T : Txt K w mg) : Dfn P w K mg base "keyed" 7 m_keyed := dfn_of T.t_keyed sc_keyed fun f cd A outer s H E hr => ⟨_, by
  unfold b_keyed
  exact
  (sscons
  (sexpr (scall (d_need_plain T) hr (by decide) tkF (acons (sv 0) anil)))
  (sscons
  (sset 1 (sc_keyed).nd (slstN anil))
  (sscons
  (sset 2 (sc_keyed).nd (slstN anil))
  (sscons
  (sfor psF rfl (irng1 T.z_range (acons (sbuilt oLen oLenS T.z_len (acons (sv 0) anil)) anil)) (gname (i := 3) (sc_keyed).nd) (sscons
  (sexpr (smt PySem.F.plainAttrs_list PySem.F.slot_list_append PySem.F.type_list_append mt_append oAppS (sv 1) (acons (sbuilt oLen oLenS T.z_len (acons (sv 2) anil)) anil)))
  (ssone
  (sexpr (smt PySem.F.plainAttrs_list PySem.F.slot_list_extend PySem.F.type_list_extend mt_extend oExtS (sv 2) (acons (sop oMul oMulS (slst (acons (sv 3) anil)) (sif (tcmp (oIn hr) oInS (six hr (six hr (sv 0) (sv 3)) sint) (stup (acons sstr (acons sstr anil))) (by with_unfolding_all rfl)) sint sint)) anil))))))
  (sscons
  (sset 4 (sc_keyed).nd (slstN anil))
  (sscons
  (sfor psF rfl (iany (sv 0)) (gname (i := 5) (sc_keyed).nd) (ssone
  (sifS (tcmp (oEq hr) oEqS (six hr (sv 5) sint) sstr (nomark _)) (ssone
  (sexpr (smt PySem.F.plainAttrs_list PySem.F.slot_list_extend PySem.F.type_list_extend mt_extend oExtS (sv 4) (acons (slst (acons (stup (acons sstr (acons (sglob T.g_PLACE) (acons (sglob T.g_WHOLE) (acons (six hr (sv 5) sint) anil))))) (acons (stup (acons sstr (acons (six hr (sv 5) sint) (acons (sglob T.g_PLACE) (acons sint anil))))) anil))) anil)))) (ssone
  (sifS (tcmp (oEq hr) oEqS (six hr (sv 5) sint) sstr (nomark _)) (ssone
  (sexpr (smt PySem.F.plainAttrs_list PySem.F.slot_list_extend PySem.F.type_list_extend mt_extend oExtS (sv 4) (acons (slst (acons (stup (acons sstr (acons (sglob T.g_PLACE) (acons (sglob T.g_WHOLE) (acons (six hr (sv 5) sint) anil))))) (acons (stup (acons sstr (acons (sglob T.g_PLACE) (acons sint (acons (six hr (sv 5) sint) anil))))) anil))) anil)))) (ssone
  (sifS (tcmp (oIn hr) oInS (six hr (sv 5) sint) (stup (acons sstr (acons sstr anil))) (by with_unfolding_all rfl)) (ssone
  (sexpr (smt PySem.F.plainAttrs_list PySem.F.slot_list_append PySem.F.type_list_append mt_append oAppS (sv 4) (acons (sop oAdd oAddS (ssl (sv 5) onone (osome (sun un_neg oNegS sint))) (stup (acons (six hr (sv 1) (six hr (sv 5) (sun un_neg oNegS sint))) anil))) anil)))) (ssone
  (sexpr (smt PySem.F.plainAttrs_list PySem.F.slot_list_append PySem.F.type_list_append mt_append oAppS (sv 4) (acons (sv 5) anil)))))))))))
  (ssone
  (sret (stup (acons (styp call_tuple_of oTupS T.z_tuple (acons (sv 4) anil)) (acons (styp call_tuple_of oTupS T.z_tuple (acons (sv 2) anil)) anil)))))))))))⟩
theorem sc__law_bad : FnScope n__law_bad p__law_bad (defScope s__law_bad) := ⟨rfl, rfl, rfl, by decide +kernel, rfl, by decide +kernel, by decide +kernel⟩
theorem d__law_bad (T : Txt K w mg) : Dfn P w K mg base "_law_bad" 2 m__law_bad := dfn_of T.t__law_bad sc__law_bad fun f cd A outer s H E hr => ⟨_, by
  unfold b__law_bad
  exact
  (sscons
  (sset 2 (sc__law_bad).nd (six hr (slst (acons sint (acons (scall (d__law_taken T) hr (by decide) tkF (acons (sv 0) (acons (sop op_pow oPowS sint sint) anil))) anil))) (scall (d__law_taken T) hr (by decide) tkF (acons (sv 0) (acons sint anil)))))
  (sscons
  (sset 3 (sc__law_bad).nd (slstN (acons (stup (acons sstr (acons (sop oAdd oAddS sint (sv 2)) (acons sint anil)))) (acons (stup (acons sstr (acons (sop op_sub oSubS sint sint) (acons sint anil)))) (acons (stup (acons sstr (acons sint (acons (sop oAdd oAddS sint (sv 2)) anil)))) (acons (stup (acons sstr (acons sint (acons (sop op_sub oSubS (sop op_sub oSubS sint sint) (sv 2)) anil)))) (acons (stup (acons sstr (acons sint anil))) anil)))))))
  (sscons
  (sexpr (smt PySem.F.plainAttrs_list PySem.F.slot_list_append PySem.F.type_list_append mt_append oAppS (sv 3) (acons (stup anil) anil)))
  (sscons
  (sset 3 (sc__law_bad).nd (sop oAdd oAddS (sv 3) (slst (acons (stup (acons sstr (acons sint (acons sint anil)))) (acons (stup (acons sstr (acons sint (acons sint (acons (sop oAdd oAddS sint (sv 2)) anil))))) (acons (stup (acons sstr (acons sint (acons sint (acons sint (acons sint anil)))))) (acons (stup (acons sstr (acons sint (acons sint (acons (sop oAdd oAddS sint (sv 2)) anil))))) (acons (stup (acons sstr (acons sint anil))) anil))))))))
  (sscons
  (sset 3 (sc__law_bad).nd (sop oAdd oAddNS (sv 3) (slst (acons (stup (acons sstr (acons sint (acons sint (acons (sop op_sub oSubS sint sint) anil))))) (acons (stup (acons sstr (acons sint (acons sint (acons sint anil))))) (acons (stup (acons sstr (acons sint (acons sint (acons sint anil))))) (acons (stup (acons sstr (acons sint (acons sint (acons sstr anil))))) anil)))))))
  (sscons
  (sexpr (smt PySem.F.plainAttrs_list PySem.F.slot_list_append PySem.F.type_list_append mt_append oAppS (sv 3) (acons (stup (acons sstr (acons sint (acons sint (acons sstr anil))))) anil)))
  (sscons
  (sset 3 (sc__law_bad).nd (sop oAdd oAddS (sv 3) (slst (acons (stup (acons sstr (acons sint (acons sint (acons sstr anil))))) (acons (stup (acons sstr (acons sint (acons sint (acons sint anil))))) (acons (stup (acons sstr (acons sint (acons sint (acons (sop oAdd oAddS (sop oAdd oAddS (sv 1) sint) (sv 2)) anil))))) (acons (stup (acons sstr (acons sint (acons sint (acons (sop op_sub oSubS sint sint) anil))))) anil)))))))
  (sscons
  (sset 3 (sc__law_bad).nd (sop oAdd oAddS (sv 3) (slst (acons (stup (acons sstr (acons (sop oAdd oAddS (sv 1) (sv 2)) anil))) (acons (stup (acons sstr (acons (sop op_sub oSubS sint sint) anil))) (acons (stup (acons sstr (acons sint (acons sint anil)))) (acons (stup (acons sstr (acons sint (acons (sv 1) anil)))) (acons (stup (acons sstr (acons sbl anil))) (acons (stup (acons sstr (acons sint (acons sint anil)))) anil)))))))))
  (sscons
  (sset 3 (sc__law_bad).nd (sop oAdd oAddS (sv 3) (slst (acons (stup (acons sstr anil)) (acons (stup (acons sstr (acons sint (acons (stup (acons sint anil)) anil)))) (acons (stup (acons sint (acons sint anil))) (acons (stup (acons sstr (acons sint (acons sstr (acons sint anil))))) (acons (stup (acons sstr (acons sint (acons sint anil)))) (acons sint (acons sstr anil))))))))))
  (ssone
  (sret (six hr (sv 3) (scall (d__law_taken T) hr (by decide) tkF (acons (sv 0) (acons sint anil)))))))))))))))⟩
abbrev kr__law_works : Nat := 7
theorem sc__law_works : FnScope n__law_works p__law_works (defScope s__law_works) := ⟨rfl, rfl, rfl, by decide +kernel, rfl, by decide +kernel, by decide +kernel⟩
theorem wf__law_works (T : Txt K w mg) {c1 P1 : Addr} {tpre : TS} (hpre : tpre = tNext) (h1W : codeA K mg "_law_works" = some c1) (BW : LamX.TabB base mg c1 P1) :
    WksFn P w K mg base "_law_works" s__law_works n__law_works p__law_works tpre P1 (lamQ "_law_works") 1 (lmA s__law_works 0 0) (lmA s__law_works 0 1) [(lmA s__law_works 1 0), (lmA s__law_works 2 0), (lmA s__law_works 3 0), (lmA s__law_works 4 0)] 0 := wksFn_of T.t__law_works sc__law_works fun g cd A outer s H hcd hr => by
  have hco := hcd c1 h1W
  subst hpre
  exact psr_fix
    (psr_cons (ps_set (i := 1) (sc__law_works).nd rfl (.inl rfl) (pe_lst (pa_cons (pe_lamC BW hco rfl rfl (hfr_by (sc := defScope s__law_works) (by decide +kernel))) (pa_cons (pe_lamCd BW hco rfl rfl (hfr_by (sc := defScope s__law_works) (by decide +kernel))) pa_nil))))
    (psr_cons (ps_expr (pe_bm PySem.F.plainAttrs_list PySem.F.slot_list_append PySem.F.type_list_append mt_append (pe_var (i := 1) rfl (.inl rfl)) (pa_cons (pe_lamC BW hco rfl rfl (hfr_by (sc := defScope s__law_works) (by decide +kernel))) pa_nil)))
    (psr_cons (ps_expr (pe_bm PySem.F.plainAttrs_list PySem.F.slot_list_append PySem.F.type_list_append mt_append (pe_var (i := 1) rfl (.inl rfl)) (pa_cons (pe_lamC BW hco rfl rfl (hfr_by (sc := defScope s__law_works) (by decide +kernel))) pa_nil)))
    (psr_cons (ps_expr (pe_bm PySem.F.plainAttrs_list PySem.F.slot_list_append PySem.F.type_list_append mt_append (pe_var (i := 1) rfl (.inl rfl)) (pa_cons (pe_lamC BW hco rfl rfl (hfr_by (sc := defScope s__law_works) (by decide +kernel))) pa_nil)))
    (psr_cons (ps_expr (pe_bm PySem.F.plainAttrs_list PySem.F.slot_list_append PySem.F.type_list_append mt_append (pe_var (i := 1) rfl (.inl rfl)) (pa_cons (pe_lamC BW hco rfl rfl (hfr_by (sc := defScope s__law_works) (by decide +kernel))) pa_nil)))
    (psr_ret (pe_var (i := 1) rfl (.inl rfl))))))))
    rfl
theorem lo0__law_works : LmOk (defScope s__law_works) n__law_works (lmA s__law_works 0 0) := lmOk_by (by decide +kernel) (by exact (fun _ _ _ _ _ _ => rfl))
theorem lo1__law_works : LmOk (defScope s__law_works) n__law_works (lmA s__law_works 0 1) := lmOk_by (by decide +kernel) (by exact ⟨"_law_a", rfl, fun _ _ _ _ _ _ _ _ => ⟨_, rfl, rfl⟩⟩)
theorem lo2__law_works : LmOk (defScope s__law_works) n__law_works (lmA s__law_works 1 0) := lmOk_by (by decide +kernel) (by exact (fun _ _ _ _ _ _ => rfl))
theorem lo3__law_works : LmOk (defScope s__law_works) n__law_works (lmA s__law_works 2 0) := lmOk_by (by decide +kernel) (by exact (fun _ _ _ _ _ _ => rfl))
theorem lo4__law_works : LmOk (defScope s__law_works) n__law_works (lmA s__law_works 3 0) := lmOk_by (by decide +kernel) (by exact (fun _ _ _ _ _ _ => rfl))
theorem lo5__law_works : LmOk (defScope s__law_works) n__law_works (lmA s__law_works 4 0) := lmOk_by (by decide +kernel) (by exact (fun _ _ _ _ _ _ => rfl))
theorem lms__law_works (T : Txt K w mg) : LmsS P w K mg base kr__law_works (lamQ "_law_works") (defScope s__law_works) n__law_works [(lmA s__law_works 0 0), (lmA s__law_works 0 1), (lmA s__law_works 1 0), (lmA s__law_works 2 0), (lmA s__law_works 3 0), (lmA s__law_works 4 0)] bs__law_works :=
    (.cons lo0__law_works (fun A outer s H E f c' cl hr => by
    unfold lb0__law_works
    exact se_fix (scall (d_run T) (by exact hr) (by decide) tkC (acons (sv 0) (acons sint (acons (slst anil) (acons (slst anil) (acons (sop op_sub oSubS sint sint) anil)))))) (by first | exact rfl | (dsimp only [cloCx] <;> exact rfl)))
    (.cons lo1__law_works (fun A outer s H E f c' cl hr => by
    unfold lb1__law_works
    exact se_fix (scall (d_run_swept T) (by exact hr) (by decide) tkC (acons (sv 0) (acons sint (acons (slst anil) (acons (slst anil) (acons sint (acons (slst anil) anil))))))) (by first | exact rfl | (dsimp only [cloCx] <;> exact rfl)))
    (.cons lo2__law_works (fun A outer s H E f c' cl hr => by
    unfold lb2__law_works
    exact se_fix (smake (d_Machine___init__ T) (by exact hr) (by decide) tkC (acons (sv 0) (acons (sop op_sub oSubS sint sint) (acons (slst anil) (acons (slst anil) anil))))) (by first | exact rfl | (dsimp only [cloCx] <;> exact rfl)))
    (.cons lo3__law_works (fun A outer s H E f c' cl hr => by
    unfold lb3__law_works
    exact se_fix (scall (d_written T) (by exact hr) (by decide) tkC (acons (sv 0) anil)) (by first | exact rfl | (dsimp only [cloCx] <;> exact rfl)))
    (.cons lo4__law_works (fun A outer s H E f c' cl hr => by
    unfold lb4__law_works
    exact se_fix (scall (d_run_places T) (by exact hr) (by decide) tkC (acons (sv 0) (acons (slst anil) (acons (sop op_sub oSubS sint sint) anil)))) (by first | exact rfl | (dsimp only [cloCx] <;> exact rfl)))
    (.cons lo5__law_works (fun A outer s H E f c' cl hr => by
    unfold lb5__law_works
    exact se_fix (scall (d_keyed T) (by exact hr) (by decide) tkC (acons (sv 0) anil)) (by first | exact rfl | (dsimp only [cloCx] <;> exact rfl)))
    .nil))))))
theorem sc_law : FnScope n_law p_law (defScope s_law) := ⟨rfl, rfl, rfl, by decide +kernel, rfl, by decide +kernel, by decide +kernel⟩
theorem y_law (T : Txt K w mg) (LB : ∀ x ∈ lamDefs, LamB K mg base x) : BodyC P w K mg base n_law "law" s_law 10 b_law := fun f cd A outer s H E hcd hr => by
  obtain ⟨hxL, c0, P0, h1L, hPL, huL⟩ := T.lt_law
  have hcoL := hcd c0 h1L
  have BL := LB "law" hxL c0 P0 h1L hPL
  obtain ⟨T0, hT⟩ := tagged T.wc
  obtain ⟨hxW, c1, P1, h1W, hPW, huW⟩ := T.lt__law_works
  have BW := LB "_law_works" hxW c1 P1 h1W hPW
  have hpreW : tNext = tNext := rfl
  have spW : SimS K mg (fun _ _ _ _ => False) tNext mNx := simNx
  exact ⟨_, by
  unfold b_law
  exact
  (sscons
  (sset 1 (sc_law).nd (slstN (acons (sv 0) (acons sint (acons sint (acons sint anil))))))
  (sscons
  (sfor psF rfl (irng1 T.z_range (acons sint anil)) (gname (i := 2) (sc_law).nd) (sscons
  (sset 3 (sc_law).nd (scall (d__law_program T) hr (by decide) tkF (acons (sv 1) (acons (six hr (slst (acons sint (acons sint anil))) (scall (d__law_taken T) hr (by decide) tkF (acons (sv 1) (acons sint anil)))) anil))))
  (sscons
  (sset 4 (sc_law).nd (sbuilt oLen oLenS T.z_len (acons (sv 3) anil)))
  (sscons
  (sset 5 (sc_law).nd (six hr (sop oAdd oAddS (by (refine' slc (own := [("_law_k", 11)]) fin_f rfl (sc_law).nd ?hi0 ?ok0 ?hg0 ?ht0 ?he0 ?hw0); (case hi0 => exact (irng1 T.z_range (acons (sv 4) anil))); (case ok0 => exact blkOk_by (own := [("_law_k", 11)]) (N := n_law) (sc := (defScope s_law)) (by decide +kernel)); (case hg0 => exact fun _ _ _ _ _ => sg_fix (gname (i := 11) (sc_law).nd) (by first | exact rfl | (dsimp only [Cx.blk] <;> exact rfl))); (case ht0 => exact fun _ _ _ _ _ => sts_fix (stsone (twd (wor (tcmp op_gt oGtS (sv 11) sint (nomark _)) (wor1 (tnot (tval (scall (d__law_may_be_plain T) (by exact hr) (by decide) takes0 (acons (six (by exact hr) (sv 3) (sv 11)) anil)))))))) (by first | exact rfl | (dsimp only [Cx.blk] <;> exact rfl))); (case he0 => exact fun _ _ _ _ _ => se_fix (sv 11) (by first | exact rfl | (dsimp only [Cx.blk] <;> exact rfl))); (case hw0 => decide)) (slst (acons snon anil))) sint))
  (sscons
  (sset 6 (sc_law).nd (sop oAdd oAddNS (sop oAdd oAddS (sop oMul oMulS (slst (acons (stup (acons sstr (acons sint anil))) anil)) sint) (slst (acons snon anil))) (slst (acons (sif (tcmp op_isN oIsS (sv 5) snon (nomark _)) (stup (acons sstr (acons sint anil))) (stup (acons sstr (acons (sv 5) anil)))) anil))))
  (sscons
  (sexpr (smt PySem.F.plainAttrs_list PySem.F.slot_list_append PySem.F.type_list_append mt_append oAppS (sv 6) (acons (sif (tcmp op_isN oIsS (sv 5) snon (nomark _)) snon (stup (acons sstr (acons (sv 5) anil)))) anil)))
  (sscons
  (sifS (tcmp (oNe hr) oNeS (swks (jr := 0) (kr := kr__law_works) (wf__law_works T hpreW h1W BW) (word_fn T hT) T.wc hT hxW hPW huW spW (lms__law_works T) hr (by decide) (by decide) (by decide) rfl (sc_law).nd (blkOk_by (own := [("_law_work", 12)]) (N := n_law) (sc := (defScope s_law)) (by decide +kernel)) rfl rfl rfl (by decide +kernel) (acons (sv 3) anil)) (sv 6) (nomark _)) (ssone
  (sret sbl)) ssnil)
  (sscons
  (sset 7 (sc_law).nd (scall (d__law_taken T) hr (by decide) tkF (acons (sv 1) (acons (sv 4) anil))))
  (sscons
  (sset 8 (sc_law).nd (sop oAdd oAddS (sop oAdd oAddS (ssl (sv 3) onone (osome (sv 7))) (stup (acons (scall (d__law_bad T) hr (by decide) tkF (acons (sv 1) (acons (sv 4) anil))) anil))) (ssl (sv 3) (osome (sop oAdd oAddS (sv 7) sint)) onone)))
  (sscons
  (sifS (tcmp (oEq hr) oEqS (scall (d__law_taken T) hr (by decide) tkF (acons (sv 1) (acons sint anil))) sint (nomark _)) (sscons
  (sset 9 (sc_law).nd (sop oAdd oAddS (sv 7) (scall (d__law_taken T) hr (by decide) tkF (acons (sv 1) (acons (sop op_sub oSubS (sv 4) (sv 7)) anil)))))
  (ssone
  (sset 8 (sc_law).nd (sop oAdd oAddS (sop oAdd oAddS (ssl (sv 8) onone (osome (sv 9))) (stup (acons (scall (d__law_bad T) hr (by decide) tkF (acons (sv 1) (acons (sv 4) anil))) anil))) (ssl (sv 8) (osome (sop oAdd oAddS (sv 9) sint)) onone))))) ssnil)
  (sscons
  (sset 10 (sc_law).nd (six hr (slst (acons (sv 8) (acons (ssl (sop oMul oMulS (sv 3) sint) onone (osome (sop oAdd oAddS sint (scall (d__law_taken T) hr (by decide) tkF (acons (sv 1) (acons sint anil)))))) (acons (stup anil) anil)))) (six hr (slst (acons sint (acons sint (acons sint (acons sint (acons sint (acons sint anil))))))) (scall (d__law_taken T) hr (by decide) tkF (acons (sv 1) (acons sint anil))))))
  (sscons
  (sset 6 (sc_law).nd (sif (tcmp (oEq hr) oEqS (sv 10) (sv 8) (nomark _)) (sv 7) (six hr (slst (acons sint (acons sint anil))) (styp oInt oIntS T.z_int (acons (scmp (oEq hr) oEqS (sv 10) (stup anil) (nomark _)) anil)))))
  (ssone
  (sifS (tcmp (oNe hr) oNeS (swks (jr := 0) (kr := kr__law_works) (wf__law_works T hpreW h1W BW) (word_fn T hT) T.wc hT hxW hPW huW spW (lms__law_works T) hr (by decide) (by decide) (by decide) rfl (sc_law).nd (blkOk_by (own := [("_law_work", 12)]) (N := n_law) (sc := (defScope s_law)) (by decide +kernel)) rfl rfl rfl (by decide +kernel) (acons (sv 10) anil)) (sop oMul oMulS (slst (acons (stup (acons sstr (acons (sv 6) anil))) anil)) sint) (nomark _)) (ssone
  (sret sbl)) ssnil))))))))))))))
  (ssone
  (sret sbl))))⟩
end
end K01

set_option Elab.async false
set_option linter.all false
set_option maxRecDepth 100000
set_option maxHeartbeats 4000000
/-! K01P: rows of programs, written and read. -/
namespace K01
open PySem Tg L2
open SX (S)
/-- a part of a row: a number, rights -/
inductive PT where
  | n (i : Int) | t (l : List Nat)
def PT.d : PT → D
  | .n i => .int i
  | .t l => .str (S l)
def PT.s : PT → List Nat
  | .n i => numC i
  | .t [] => [45]
  | .t (c :: l) => c :: l
def R16 : List (List Nat) := [[], [115], [108], [108, 115], [104], [104, 115], [104, 108], [104, 108, 115], [103], [103, 115], [103, 108], [103, 108, 115], [103, 104], [103, 104, 115], [103, 104, 108], [103, 104, 108, 115]]
inductive PT.Ok (rows : Nat) : Nat → PT → Prop
  | b {i : Int} : 0 ≤ i → i < 8 → PT.Ok rows 98 (.n i)
  | n {i : Int} : -10000 ≤ i → i < 10000 → PT.Ok rows 110 (.n i)
  | o {i : Int} : -63 ≤ i → i < 64 → PT.Ok rows 111 (.n i)
  | g {i : Int} : 0 ≤ i → i < rows + 1 → PT.Ok rows 103 (.n i)
  | r {i : Int} : 0 ≤ i → i < rows → PT.Ok rows 114 (.n i)
  | t {l : List Nat} : l ∈ R16 → PT.Ok rows 116 (.t l)
structure RW where
  w : List Nat
  ps : List PT
def RW.d (r : RW) : D := .tup (.str (S r.w) :: r.ps.map PT.d)
def RW.parts (r : RW) : List (List Nat) := r.w :: r.ps.map PT.s
def RW.s (r : RW) : List Nat := TL.joinL [32] r.parts
def txt (prog : List RW) : List Nat := TL.joinL [10] (prog.map RW.s)
def forms : List (List Nat × List Nat) := [([112, 117, 116], [98, 110]), ([109, 111, 118, 101], [98, 98]), ([97, 100, 100], [98, 98, 98]), ([116, 97, 107, 101], [98, 98, 98]), ([108, 101, 115, 115], [98, 98, 98]), ([115, 97, 109, 101], [98, 98, 98]), ([105, 115], [98, 98]), ([103, 101, 116], [98, 98, 111]), ([115, 101, 116], [98, 111, 98]), ([110, 97, 114, 114, 111, 119], [98, 98, 98]), ([102, 101, 119, 101, 114], [98, 98, 116]), ([103, 97, 116, 101], [98, 98, 103]), ([101, 110, 116, 101, 114], [98]), ([114, 111, 111, 109], [98]), ([115, 104, 117, 116], [98]), ([115, 97, 121], [98]), ([103, 111], [114]), ([105, 102], [98, 114]), ([101, 110, 100], [])]
def RW.Ok (rows : Nat) (r : RW) : Prop := ∃ f, (r.w, f) ∈ forms ∧ All2 (PT.Ok rows) f r.ps
theorem fm_look : ∀ e ∈ forms, tb_FORMS.lookup (S e.1) = some (S e.2) := by decide +kernel
theorem fm_word : ∀ e ∈ forms, e.1 ≠ [] ∧ e.1.length ≤ 6 ∧ 32 ∉ e.1 ∧ 10 ∉ e.1 ∧ e.2.length ≤ 3 ∧ PyData.strOk (S e.1) = true := by decide +kernel
theorem r_word : ∀ l ∈ R16, l.length ≤ 4 ∧ 32 ∉ l ∧ 10 ∉ l ∧ 45 ∉ l ∧ PyData.strOk (S l) = true := by decide +kernel
theorem PT.Ok.rng {rows c : Nat} {i : Int} (h : PT.Ok rows c (.n i)) (hr : rows ≤ 60) : -100000 < i ∧ i < 100000 := by
  cases h <;> omega
theorem PT.Ok.facts {rows c : Nat} {p : PT} (h : PT.Ok rows c p) (hr : rows ≤ 60) : p.s ≠ [] ∧ p.s.length ≤ 6 ∧ 32 ∉ p.s ∧ 10 ∉ p.s := by
  cases p with
  | n i =>
    obtain ⟨h0, h1⟩ := h.rng hr
    exact ⟨numC_ne i, numC_len h0 h1, numC_free (by decide) (by decide), numC_free (by decide) (by decide)⟩
  | t l =>
    cases h with
    | t hl =>
      obtain ⟨a, b, c, _, _⟩ := r_word l hl
      cases l with
      | nil => exact ⟨by simp [PT.s], by simp [PT.s], by simp [PT.s], by simp [PT.s]⟩
      | cons x l => exact ⟨by simp [PT.s], Nat.le_trans a (by decide), b, c⟩
/-! ### parts -/
theorem kIt_str {z : Str} {A : AH} : kIt (.ok (.str z) A) = .ok (.data (signs z)) A := rfl
theorem joinL_one : ∀ l : List Nat, TL.joinL [] (l.map fun c => [c]) = l
  | [] => rfl
  | [c] => rfl
  | c :: d :: l => by
    show [c] ++ ([] ++ TL.joinL [] ((d :: l).map fun c => [c])) = _
    rw [joinL_one (d :: l)]
    rfl
theorem e_emp : Str.ofString "" = S [] := by decide
theorem e_rts : Str.ofString "ghls" = S [103, 104, 108, 115] := by decide
theorem sg_rts : signs (S [103, 104, 108, 115]) = [.str ⟨#[103]⟩, .str ⟨#[104]⟩, .str ⟨#[108]⟩, .str ⟨#[115]⟩] := rfl
def raL : ME := mLc (miAny (mc g_RIGHTS)) (gmN 1) (mTb (mBin inD (mv 1) (mv 0))) (mv 1) [1] finF
theorem raL_ok {l : List Nat} (h : l ∈ R16) {A : AH} : raL [some (.str (S l)), none] A = .ok (.lst (l.map fun c => .str (S [c]))) A := by
  have h' := h
  simp only [R16, List.mem_cons, List.not_mem_nil, or_false] at h'
  rcases h' with rfl | rfl | rfl | rfl | rfl | rfl | rfl | rfl | rfl | rfl | rfl | rfl | rfl | rfl | rfl | rfl
  all_goals simp [raL, g_RIGHTS, kIt_str, e_rts, sg_rts, in_S]
theorem are_ok {l : List Nat} (h : l ∈ R16) {A : AH} : m_are_rights [.str (S l)] A = .ok (.bl true) A := by
  have e0 : m_are_rights [.str (S l)] A = finS (mRet (mAndV (mUn (isiD "str") (mv 0)) (mBin eqD (mv 0) (mMt "str" joinD (mc (.str "")) (mCons raL mNil)))) [some (.str (S l)), none] A) := rfl
  have e1 : joinD (.str (S [])) [.lst (l.map fun c => .str (S [c]))] A = .ok (.str (S l)) A := by
    have := join_S (A := A) (s := []) (k := 1) (ls := l.map fun c => [c]) (fun x hx => by
      obtain ⟨c, _, rfl⟩ := List.mem_map.mp hx
      exact Nat.le_refl 1) (by rw [List.length_map]; have := (r_word l h).1; omega)
    rw [joinL_one, List.map_map] at this
    exact this
  rw [e0]
  simp [subTy, raL_ok h, e_emp, e1, tyMD]
theorem within_ok {i lo hi : Int} {A : AH} (h1 : lo ≤ i) (h2 : i < hi) : m_is_within [.int i, .int lo, .int hi] A = .ok (.bl true) A := by
  have e0 : m_is_within [.int i, .int lo, .int hi] A = finS (b_is_within [some (.int i), some (.int lo), some (.int hi)] A) := rfl
  have e1 : ∀ x B, m_is_number [x] B = finS (b_is_number [some x] B) := fun _ _ => rfl
  rw [e0]
  simp [b_is_within, e1, b_is_number, subTy, h1, h2]
theorem k_b : (⟨#[98]⟩ : Str) = Str.ofString "b" := by decide
theorem k_n : (⟨#[110]⟩ : Str) = Str.ofString "n" := by decide
theorem k_o : (⟨#[111]⟩ : Str) = Str.ofString "o" := by decide
theorem k_g : (⟨#[103]⟩ : Str) = Str.ofString "g" := by decide
theorem k_r : (⟨#[114]⟩ : Str) = Str.ofString "r" := by decide
theorem k_t : (⟨#[116]⟩ : Str) = Str.ofString "t" := by decide
theorem part_is {rows c : Nat} {p : PT} (h : PT.Ok rows c p) {A : AH} : m_is_part [p.d, .str ⟨#[c]⟩, .int rows] A = .ok (.bl true) A := by
  have e0 : m_is_part [p.d, .str ⟨#[c]⟩, .int rows] A = finS (b_is_part [some p.d, some (.str ⟨#[c]⟩), some (.int rows), none] A) := rfl
  rw [e0]
  cases h with
  | b h1 h2 =>
    rw [k_b]
    simp [b_is_part, PT.d, g_BOXES_words, g_HALF, g_OFFSET, keysD, keyD, mergeD, ptK, lkK, ixD, dctD, itemsD, within_ok h1 h2]
  | n h1 h2 =>
    rw [k_n]
    simp [b_is_part, PT.d, g_BOXES_words, g_HALF, g_OFFSET, keysD, keyD, mergeD, ptK, lkK, ixD, dctD, itemsD, within_ok h1 h2]
  | o h1 h2 =>
    rw [k_o]
    simp [b_is_part, PT.d, g_BOXES_words, g_HALF, g_OFFSET, keysD, keyD, mergeD, ptK, lkK, ixD, dctD, itemsD, within_ok h1 h2]
  | g h1 h2 =>
    rw [k_g]
    simp [b_is_part, PT.d, g_BOXES_words, g_HALF, g_OFFSET, keysD, keyD, mergeD, ptK, lkK, ixD, dctD, itemsD, within_ok h1 h2]
  | r h1 h2 =>
    rw [k_r]
    simp [b_is_part, PT.d, g_BOXES_words, g_HALF, g_OFFSET, keysD, keyD, mergeD, ptK, lkK, ixD, dctD, itemsD, within_ok h1 h2]
  | t h1 =>
    rw [k_t]
    simp [b_is_part, PT.d, are_ok h1]
theorem PT.Ok.okF {rows c : Nat} {p : PT} (h : PT.Ok rows c p) : Tg.okF p.d = true := by
  cases h <;> first
    | rfl
    | (rename_i hl; exact (r_word _ hl).2.2.2.2)
def q1 : MS := (mIfS (mOr (mNot (mTb (mUn (isiD "tuple") (mv 0)))) (mOr (mTb (mBin eqD (mv 0) (mTup mNil))) (mOr (mNot (mTb (mUn (isiD "str") (mBin ixD (mv 0) (mc (.int (0))))))) (mTb (mUn (kninD tb_FORMS) (mBin ixD (mv 0) (mc (.int (0))))))))) (mRet (mc (.bl false))) mNx)
def q2 : MS := (mAsg (mUn (kixD tb_FORMS) (mBin ixD (mv 0) (mc (.int (0))))) (gmN 2))
def q3 : MS := (mIfS (mTb (mBin neD (mCall lenD (mCons (mv 0) mNil)) (mBin addD (mCall lenD (mCons (mv 2) mNil)) (mc (.int (1)))))) (mRet (mc (.bl false))) mNx)
def qL : ME := (mLc (mRng1 (mCons (mCall lenD (mCons (mv 2) mNil)) mNil)) (gmN 3) (mNot (mTb (mCall m_is_part (mCons (mBin ixD (mv 0) (mBin addD (mv 3) (mc (.int (1))))) (mCons (mBin ixD (mv 2) (mv 3)) (mCons (mv 1) mNil)))))) (mv 3) [3] finF)
def qT : MT := (mNot (mTb (mCall m_is_part (mCons (mBin ixD (mv 0) (mBin addD (mv 3) (mc (.int (1))))) (mCons (mBin ixD (mv 2) (mv 3)) (mCons (mv 1) mNil))))))
theorem okFs {rows : Nat} {f : List Nat} {ps : List PT} (h : All2 (PT.Ok rows) f ps) : (ps.map PT.d).all Tg.okF = true := by
  induction h with
  | nil => rfl
  | cons h1 _ ih => rw [List.map_cons, List.all_cons, h1.okF, ih]; rfl
theorem eq_nil {d : D} {ds : List D} {A : AH} (h : (d :: ds).all Tg.okF = true) : eqD (.tup (d :: ds)) (.tup []) A = .ok (.bl false) A := by
  rw [eq_tupF (by rw [h]; rfl)]
  rfl
theorem row_is {rows : Nat} {r : RW} (h : r.Ok rows) {A : AH} : m_is_row [r.d, .int rows] A = .ok (.bl true) A := by
  obtain ⟨f, hf, h2⟩ := h
  have e0 : m_is_row [r.d, .int rows] A = finS (mSeq q1 (mSeq q2 (mSeq q3 (mRet (mBin eqD qL (mLst mNil))))) [some r.d, some (.int rows), none, none] A) := rfl
  have hlook := fm_look _ hf
  obtain ⟨w1, w2, w3, w4, w5, w6⟩ := fm_word _ hf
  have hall : (D.str (S r.w) :: r.ps.map PT.d).all Tg.okF = true := by
    rw [List.all_cons, okFs h2, Bool.and_true]
    exact w6
  have hl := h2.len
  dsimp only at hlook w1 w2 w3 w4 w5 w6
  have c1 : q1 [some r.d, some (.int rows), none, none] A = .nx [some r.d, some (.int rows), none, none] A := by
    simp [q1, RW.d, subTy, eq_nil hall, kninD, hlook]
  have c2 : q2 [some r.d, some (.int rows), none, none] A = .nx [some r.d, some (.int rows), some (.str (S f)), none] A := by
    simp [q2, RW.d, kixD, hlook]
  have lz : lenD [.str (S f)] A = .ok (.int f.length) A := len_S (Nat.le_trans w5 (by decide))
  have c3 : q3 [some r.d, some (.int rows), some (.str (S f)), none] A = .nx [some r.d, some (.int rows), some (.str (S f)), none] A := by
    simp [q3, RW.d, lz, hl]
  have c4 : qL [some r.d, some (.int rows), some (.str (S f)), none] A = .ok (.lst []) A := by
    have e : (mCons (mCall lenD (mCons (mv 2) mNil)) mNil) [some r.d, some (.int rows), some (.str (S f)), none] A = .ok [.int (f.length : Int)] A := by simp [lz]
    have hk : f.length < 16777216 := Nat.lt_of_le_of_lt w5 (by decide)
    have := lc_pure (g := gmN 3) (tt := qT) (te := mv 3) (vs := [3]) (fun _ => false) (fun d => d) (rng1 e hk) (by rw [List.length_map, List.length_range]; exact hk) (fun d hd => by
      obtain ⟨i, hi', rfl⟩ := List.mem_map.mp hd
      have hi := List.mem_range.mp hi'
      have hi2 : i < r.ps.length := by omega
      have hp := part_is (A := A) (h2.get i hi hi2)
      have x1 : ixD r.d (.int ((i : Int) + 1)) A = .ok (r.ps[i]).d A := by
        refine ix_tup ?_
        have := atI_ok (xs := D.str (S r.w) :: r.ps.map PT.d) (i := i + 1) (v := (r.ps[i]).d) (by rw [List.getElem?_cons_succ, List.getElem?_map, List.getElem?_eq_getElem hi2]; rfl)
        exact this
      have x2 : ixD (.str (S f)) (.int (i : Int)) A = .ok (.str ⟨#[f[i]]⟩) A := ix_ofS (by rw [SX.S_len]; omega) (atI_ok (List.getElem?_eq_getElem hi))
      exact ⟨_, rfl, by simp [qT, wpD, x1, x2, hp], fun q => nomatch q⟩)
    rw [show ∀ l : List D, l.filter (fun _ => false) = [] from fun l => by simp] at this
    exact this
  have c5 : eqD (.lst []) (.lst []) A = .ok (.bl true) A := eq_lstF rfl
  have c6 : (mRet (mBin eqD qL (mLst mNil))) [some r.d, some (.int rows), some (.str (S f)), none] A = .rt (.bl true) A := by
    rw [e_ret, e_bin, c4, kB1_0, e_lst, e_nil]
    simp [c5]
  rw [e0, e_seq, c1, RS.nxt_nx, e_seq, c2, RS.nxt_nx, e_seq, c3, RS.nxt_nx, c6, finS_rt]
end K01


set_option Elab.async false
set_option linter.all false
set_option maxRecDepth 100000
set_option maxHeartbeats 4000000
/-! K01Q: any rows as rows of programs; what need_program refuses. -/
namespace K01
open PySem Tg L2
open SX (S)
/-! ### parts -/
def rts (w : List Nat) : List Nat := [103, 104, 108, 115].filter fun c => decide (c ∈ w)
def sgn : D → Nat
  | .str z => z.cps.toList.getD 0 0
  | _ => 0
theorem rts_len (w : List Nat) : (rts w).length ≤ 4 := List.length_filter_le _ [103, 104, 108, 115]
theorem rts_list {w : List Nat} : (([D.str ⟨#[103]⟩, .str ⟨#[104]⟩, .str ⟨#[108]⟩, .str ⟨#[115]⟩] : List D).filter fun d => decide (sgn d ∈ w)) = (rts w).map fun c => .str (S [c]) := by
  show (([103, 104, 108, 115].map fun c => D.str ⟨#[c]⟩).filter fun d => decide (sgn d ∈ w)) = _
  rw [List.filter_map]
  rfl
theorem rts_join {w : List Nat} {A : AH} : joinD (.str (S [])) [.lst ((rts w).map fun c => .str (S [c]))] A = .ok (.str (S (rts w))) A := by
  have := join_S (A := A) (s := []) (k := 1) (ls := (rts w).map fun c => [c]) (fun x hx => by
    obtain ⟨c, _, rfl⟩ := List.mem_map.mp hx
    exact Nat.le_refl 1) (by rw [List.length_map]; have := rts_len w; omega)
  rw [joinL_one, List.map_map] at this
  exact this
theorem raL_gen {w : List Nat} {A : AH} : raL [some (.str (S w)), none] A = .ok (.lst ((rts w).map fun c => .str (S [c]))) A := by
  have e : miAny (mc g_RIGHTS) [some (.str (S w)), none] A = .ok (.data [.str ⟨#[103]⟩, .str ⟨#[104]⟩, .str ⟨#[108]⟩, .str ⟨#[115]⟩]) A := by
    simp [g_RIGHTS, kIt_str, e_rts, sg_rts]
  have := lc_pure (g := gmN 1) (tt := mTb (mBin inD (mv 1) (mv 0))) (te := mv 1) (vs := [1]) (fun d => decide (sgn d ∈ w)) (fun d => d) e (by decide) (fun d hd => by
    have : ∃ c, d = .str ⟨#[c]⟩ := by
      simp only [List.mem_cons, List.not_mem_nil, or_false] at hd
      rcases hd with rfl | rfl | rfl | rfl <;> exact ⟨_, rfl⟩
    obtain ⟨c, rfl⟩ := this
    refine ⟨_, rfl, ?_, fun q => rfl⟩
    simp only [e_tb, e_bin, wpD, wp_cons, wp_nil, List.set_cons_succ, List.set_cons_zero, e_mvS, e_mv0, kB1_0, kB2_0, in_S, kT_0]
    rfl)
  rw [List.map_id'', rts_list] at this
  · exact this
  · intro x
    rfl
/-- what may stand as a part -/
inductive Pk : D → Prop
  | int (i : Int) : Pk (.int i)
  | str (l : List Nat) : PyData.strOk (S l) = true → Pk (.str (S l))
  | bl (b : Bool) : Pk (.bl b)
  | one : Pk (.tup [.int 1])
def lowP (c : Nat) : Int := if c = 110 then -10000 else if c = 111 then -63 else 0
def highP (c n : Nat) : Int := if c = 98 then 8 else if c = 110 then 10000 else if c = 111 then 64 else if c = 103 then (n : Int) + 1 else n
def inR (d : D) (a b : Int) : Bool := match d with
  | .int i => decide (a ≤ i) && decide (i < b)
  | _ => false
def isT (d : D) : Bool := match d with
  | .str z => decide (z.cps.toList = rts z.cps.toList)
  | _ => false
def partB (d : D) (c n : Nat) : Bool := if c = 116 then isT d else inR d (lowP c) (highP c n)
theorem are_gen {d : D} (h : Pk d) {A : AH} : m_are_rights [d] A = .ok (.bl (isT d)) A := by
  have e0 : m_are_rights [d] A = finS (mRet (mAndV (mUn (isiD "str") (mv 0)) (mBin eqD (mv 0) (mMt "str" joinD (mc (.str "")) (mCons raL mNil)))) [some d, none] A) := rfl
  rw [e0]
  cases h with
  | str w hw =>
    have q : (S w == S (rts w)) = decide (w = rts w) := SX.S_beq_eq
    have q2 : isT (.str (S w)) = decide (w = rts w) := by
      show decide ((S w).cps.toList = rts (S w).cps.toList) = _
      simp [S]
    rw [q2]
    simp [subTy, raL_gen, e_emp, rts_join, tyMD, q]
  | int i => simp [subTy, isT]
  | bl b => simp [subTy, isT]
  | one => simp [subTy, isT]
theorem within_gen {d : D} (h : Pk d) {lo hi : Int} {A : AH} : m_is_within [d, .int lo, .int hi] A = .ok (.bl (inR d lo hi)) A := by
  have e0 : m_is_within [d, .int lo, .int hi] A = finS (b_is_within [some d, some (.int lo), some (.int hi)] A) := rfl
  have e1 : ∀ x B, m_is_number [x] B = finS (b_is_number [some x] B) := fun _ _ => rfl
  rw [e0]
  cases h with
  | int i =>
    by_cases h1 : lo ≤ i
    · simp [b_is_within, e1, b_is_number, subTy, inR, h1]
    · simp [b_is_within, e1, b_is_number, subTy, inR, h1]
  | str w hw => simp [b_is_within, e1, b_is_number, subTy, inR]
  | bl b => simp [b_is_within, e1, b_is_number, subTy, inR]
  | one => simp [b_is_within, e1, b_is_number, subTy, inR]
def Srt (c : Nat) : Prop := c = 98 ∨ c = 110 ∨ c = 111 ∨ c = 103 ∨ c = 114 ∨ c = 116
theorem part_gen {d : D} {c n : Nat} (h : Srt c) (hd : Pk d) {A : AH} : m_is_part [d, .str ⟨#[c]⟩, .int n] A = .ok (.bl (partB d c n)) A := by
  have e0 : m_is_part [d, .str ⟨#[c]⟩, .int n] A = finS (b_is_part [some d, some (.str ⟨#[c]⟩), some (.int n), none] A) := rfl
  rw [e0]
  rcases h with rfl | rfl | rfl | rfl | rfl | rfl
  · rw [k_b]
    have e : m_is_within [d, .int (lowP 98), .int (highP 98 n)] A = _ := within_gen hd
    simp [lowP, highP] at e
    simp [b_is_part, partB, lowP, highP, g_BOXES_words, g_HALF, g_OFFSET, keysD, keyD, mergeD, ptK, lkK, ixD, dctD, itemsD, e]
  · rw [k_n]
    have e : m_is_within [d, .int (lowP 110), .int (highP 110 n)] A = _ := within_gen hd
    simp [lowP, highP] at e
    simp [b_is_part, partB, lowP, highP, g_BOXES_words, g_HALF, g_OFFSET, keysD, keyD, mergeD, ptK, lkK, ixD, dctD, itemsD, e]
  · rw [k_o]
    have e : m_is_within [d, .int (lowP 111), .int (highP 111 n)] A = _ := within_gen hd
    simp [lowP, highP] at e
    simp [b_is_part, partB, lowP, highP, g_BOXES_words, g_HALF, g_OFFSET, keysD, keyD, mergeD, ptK, lkK, ixD, dctD, itemsD, e]
  · rw [k_g]
    have e : m_is_within [d, .int (lowP 103), .int (highP 103 n)] A = _ := within_gen hd
    simp [lowP, highP] at e
    simp [b_is_part, partB, lowP, highP, g_BOXES_words, g_HALF, g_OFFSET, keysD, keyD, mergeD, ptK, lkK, ixD, dctD, itemsD, e]
  · rw [k_r]
    have e : m_is_within [d, .int (lowP 114), .int (highP 114 n)] A = _ := within_gen hd
    simp [lowP, highP] at e
    simp [b_is_part, partB, lowP, highP, g_BOXES_words, g_HALF, g_OFFSET, keysD, keyD, mergeD, ptK, lkK, ixD, dctD, itemsD, e]
  · rw [k_t]
    have e2 : partB d 116 n = isT d := if_pos rfl
    rw [e2]
    simp [b_is_part, are_gen hd]
/-! ### rows -/
theorem tb_forms : tb_FORMS = forms.map fun e => (S e.1, S e.2) := by decide +kernel
theorem look_map {w : List Nat} : ∀ {fs : List (List Nat × List Nat)}, (fs.map fun e => (S e.1, S e.2)).lookup (S w) = (fs.lookup w).map S
  | [] => rfl
  | (a, b) :: fs => by
    simp only [List.map_cons, List.lookup]
    rw [SX.S_beq]
    cases q : w == a with
    | true => rfl
    | false => exact look_map
theorem look_forms {w : List Nat} : tb_FORMS.lookup (S w) = (forms.lookup w).map S := by rw [tb_forms, look_map]
theorem forms_ok : ∀ e ∈ forms, ∀ c ∈ e.2, Srt c := by
  have h : (forms.all fun e => e.2.all fun c => decide (c = 98) || (decide (c = 110) || (decide (c = 111) || (decide (c = 103) || (decide (c = 114) || decide (c = 116)))))) = true := by decide
  intro e he c hc
  have := List.all_eq_true.mp (List.all_eq_true.mp h e he) c hc
  simpa [Srt] using this
theorem form_mem {w f : List Nat} : ∀ {fs : List (List Nat × List Nat)}, fs.lookup w = some f → (w, f) ∈ fs
  | [], h => nomatch h
  | (a, b) :: fs, h => by
    simp only [List.lookup] at h
    cases q : w == a with
    | true =>
      rw [q] at h
      cases h
      rw [beq_iff_eq.mp q]
      exact List.mem_cons_self
    | false =>
      rw [q] at h
      exact List.mem_cons_of_mem _ (form_mem h)
theorem pk_C {d : D} (h : Pk d) : datC d = true ∧ depD d ≤ 1 := by
  cases h with
  | int i => exact ⟨by simp [datC], by simp [depD]⟩
  | str l hl => exact ⟨by simpa [datC] using hl, by simp [depD]⟩
  | bl b => exact ⟨by simp [datC], by simp [depD]⟩
  | one => exact ⟨by simp [datC, datCs], by simp [depD, depL]⟩
theorem pks_C {ds : List D} (h : ∀ d ∈ ds, Pk d) : datCs ds = true ∧ depL ds ≤ 1 := ⟨by
  rw [datCs_all, List.all_eq_true]
  exact fun d hd => (pk_C (h d hd)).1, depL_le fun d hd => (pk_C (h d hd)).2⟩
def badAt (ds : List D) (f : List Nat) (n i : Nat) : Bool := match ds[i]?, f[i]? with
  | some d, some c => !partB d c n
  | _, _ => false
/-- whether it is a row: its word's form, its parts -/
def rowB (f : List Nat) (ds : List D) (n : Nat) : Bool := decide (ds.length = f.length) && (List.range f.length).all fun i => !badAt ds f n i
theorem row_gen {w f : List Nat} {ds : List D} {n : Nat} {A : AH} (hf : forms.lookup w = some f) (hp : ∀ d ∈ ds, Pk d) (hdl : ds.length ≤ 100) :
    m_is_row [.tup (.str (S w) :: ds), .int n] A = .ok (.bl (rowB f ds n)) A := by
  have hfm := form_mem hf
  obtain ⟨w1, w2, w3, w4, w5, w6⟩ := fm_word _ hfm
  dsimp only at w5 w6
  have e0 : m_is_row [.tup (.str (S w) :: ds), .int n] A = finS (mSeq q1 (mSeq q2 (mSeq q3 (mRet (mBin eqD qL (mLst mNil))))) [some (.tup (.str (S w) :: ds)), some (.int n), none, none] A) := rfl
  have hlook : tb_FORMS.lookup (S w) = some (S f) := by rw [look_forms, hf]; rfl
  obtain ⟨c, dp⟩ := pks_C hp
  have hC : datCs (D.str (S w) :: ds) = true := by
    simp only [datCs, Bool.and_eq_true]
    exact ⟨by simpa [datC] using w6, c⟩
  have en : eqD (.tup (D.str (S w) :: ds)) (.tup []) A = .ok (.bl false) A := eq_tupN hC rfl (by simp only [depL, depD]; omega) (Nat.zero_le _) (by simp)
  have c1 : q1 [some (.tup (.str (S w) :: ds)), some (.int n), none, none] A = .nx [some (.tup (.str (S w) :: ds)), some (.int n), none, none] A := by
    simp [q1, subTy, en, kninD, hlook]
  have c2 : q2 [some (.tup (.str (S w) :: ds)), some (.int n), none, none] A = .nx [some (.tup (.str (S w) :: ds)), some (.int n), some (.str (S f)), none] A := by
    simp [q2, kixD, hlook]
  have lz : lenD [.str (S f)] A = .ok (.int f.length) A := len_S (Nat.le_trans w5 (by decide))
  by_cases hz : ds.length = f.length
  · have c3 : q3 [some (.tup (.str (S w) :: ds)), some (.int n), some (.str (S f)), none] A = .nx [some (.tup (.str (S w) :: ds)), some (.int n), some (.str (S f)), none] A := by
      simp [q3, lz, hz]
    have c4 : qL [some (.tup (.str (S w) :: ds)), some (.int n), some (.str (S f)), none] A = .ok (.lst (((List.range f.length).filter fun i => badAt ds f n i).map fun i : Nat => D.int (i : Int))) A := by
      have e : (mCons (mCall lenD (mCons (mv 2) mNil)) mNil) [some (.tup (.str (S w) :: ds)), some (.int n), some (.str (S f)), none] A = .ok [.int (f.length : Int)] A := by simp [lz]
      have hk : f.length < 16777216 := Nat.lt_of_le_of_lt w5 (by decide)
      have := lc_pure (g := gmN 3) (tt := qT) (te := mv 3) (vs := [3]) (fun d => match d with
        | .int i => badAt ds f n i.toNat
        | _ => false) (fun d => d) (rng1 e hk) (by rw [List.length_map, List.length_range]; exact hk) (fun d hd => by
        obtain ⟨i, hi', rfl⟩ := List.mem_map.mp hd
        have hi := List.mem_range.mp hi'
        have hi2 : i < ds.length := by omega
        have g1 : ds[i]? = some ds[i] := List.getElem?_eq_getElem hi2
        have g2 : f[i]? = some f[i] := List.getElem?_eq_getElem hi
        have hsrt : Srt f[i] := forms_ok _ hfm _ (List.getElem_mem hi)
        have hp := part_gen (n := n) (A := A) hsrt (hp _ (List.getElem_mem hi2))
        have x1 : ixD (.tup (.str (S w) :: ds)) (.int ((i : Int) + 1)) A = .ok ds[i] A := by
          refine ix_tup ?_
          have := atI_ok (xs := D.str (S w) :: ds) (i := i + 1) (v := ds[i]) (by rw [List.getElem?_cons_succ, g1])
          exact this
        have x2 : ixD (.str (S f)) (.int (i : Int)) A = .ok (.str ⟨#[f[i]]⟩) A := ix_ofS (by rw [SX.S_len]; omega) (atI_ok g2)
        have eb : badAt ds f n i = !partB ds[i] f[i] n := by
          unfold badAt
          rw [g1, g2]
        refine ⟨_, rfl, ?_, fun q => rfl⟩
        show _ = R.ok (badAt ds f n i) A
        rw [eb]
        simp [qT, wpD, x1, x2, hp])
      rw [List.map_id'' (fun _ => rfl), List.filter_map] at this
      exact this
    have c5 : eqD (.lst (((List.range f.length).filter fun i => badAt ds f n i).map fun i : Nat => D.int (i : Int))) (.lst []) A = .ok (.bl (rowB f ds n)) A := by
      rw [eq_lstF]
      · congr 2
        unfold rowB
        rw [decide_eq_true hz, Bool.true_and]
        cases hq : (List.range f.length).filter fun i => badAt ds f n i with
        | nil =>
          have := List.filter_eq_nil_iff.mp hq
          rw [show ((List.range f.length).all fun i => !badAt ds f n i) = true from List.all_eq_true.mpr fun i hi => by
            cases q : badAt ds f n i with
            | false => rfl
            | true => exact absurd q (this i hi)]
          rfl
        | cons i r =>
          have hi : i ∈ (List.range f.length).filter fun i => badAt ds f n i := by rw [hq]; exact List.mem_cons_self
          obtain ⟨h1, h2⟩ := List.mem_filter.mp hi
          have : ((List.range f.length).all fun i => !badAt ds f n i) = false := by
            cases q : (List.range f.length).all fun i => !badAt ds f n i with
            | false => rfl
            | true =>
              have := List.all_eq_true.mp q i h1
              rw [h2] at this
              cases this
          rw [this]
          rfl
      · rw [Bool.and_eq_true]
        refine ⟨List.all_eq_true.mpr fun d hd => ?_, rfl⟩
        obtain ⟨i, _, rfl⟩ := List.mem_map.mp hd
        rfl
    have c6 : (mRet (mBin eqD qL (mLst mNil))) [some (.tup (.str (S w) :: ds)), some (.int n), some (.str (S f)), none] A = .rt (.bl (rowB f ds n)) A := by
      rw [e_ret, e_bin, c4, kB1_0, e_lst, e_nil]
      simp [c5]
    rw [e0, e_seq, c1, RS.nxt_nx, e_seq, c2, RS.nxt_nx, e_seq, c3, RS.nxt_nx, c6, finS_rt]
  · have hz' : (((ds.length : Int) + 1) == (f.length : Int) + 1) = false := by
      rw [beq_eq_false_iff_ne]
      omega
    have c3 : q3 [some (.tup (.str (S w) :: ds)), some (.int n), some (.str (S f)), none] A = .rt (.bl false) A := by
      simp [q3, lz, hz']
    have : rowB f ds n = false := by
      unfold rowB
      rw [decide_eq_false hz, Bool.false_and]
    rw [this, e0, e_seq, c1, RS.nxt_nx, e_seq, c2, RS.nxt_nx, e_seq, c3]
    rfl
end K01

set_option Elab.async false
set_option linter.all false
set_option maxRecDepth 100000
set_option maxHeartbeats 4000000
/-! K01T: what is drawn, and the law. -/
namespace K01
open PySem Tg L2
open SX (S)
theorem tk : m__law_taken = m_taken := rfl
theorem rInt (a b : Int) : ((a : Int) == b) = decide (a = b) := by
  by_cases h : a = b
  · simp [h]
  · simp [h]
theorem takenN {r : Nat} {ns : List Int} {A : AH} (many : Int) (h : RowAt r ns A) (hm : 0 < many ∧ many < 1073741824) : ∃ (v : Nat) (A' : AH), m_taken [.ref r, .int many] A = .ok (.int (v : Int)) A' ∧ RowAt r ns A' ∧ (v : Int) < many := by
  obtain ⟨v, A', e, h1, h2, h3⟩ := takenR many h hm
  obtain ⟨n, rfl⟩ := Int.eq_ofNat_of_zero_le h2
  exact ⟨n, A', e, h1, h3⟩
theorem number_ok {r : Nat} {ns : List Int} {A : AH} (h : RowAt r ns A) : ∃ v A', m__law_number [.ref r] A = .ok (.int v) A' ∧ RowAt r ns A' ∧ -10000 ≤ v ∧ v < 10000 := by
  have e0 : m__law_number [.ref r] A = finS (b__law_number [some (.ref r), none] A) := rfl
  obtain ⟨w, A1, e1, h1, w1⟩ := takenN 6 h ⟨by omega, by omega⟩
  by_cases h4 : (w : Int) < 4
  · obtain ⟨x, A2, e2, h2, x1⟩ := takenN 5 h1 ⟨by omega, by omega⟩
    obtain ⟨y, A3, e3, h3, y1⟩ := takenN 70 h2 ⟨by omega, by omega⟩
    obtain ⟨z, A4, e4, h4', z1⟩ := takenN 40 h3 ⟨by omega, by omega⟩
    have hw : w = 0 ∨ w = 1 ∨ w = 2 ∨ w = 3 := by omega
    rcases hw with rfl | rfl | rfl | rfl
    · exact ⟨x, A4, by rw [e0]; simp at e1; simp [b__law_number, tk, e1, e2, e3, e4], h4', by omega, by omega⟩
    · exact ⟨y, A4, by rw [e0]; simp at e1; simp [b__law_number, tk, e1, e2, e3, e4], h4', by omega, by omega⟩
    · exact ⟨z - 20, A4, by rw [e0]; simp at e1; simp [b__law_number, tk, e1, e2, e3, e4], h4', by omega, by omega⟩
    · exact ⟨1, A4, by rw [e0]; simp at e1; simp [b__law_number, tk, e1, e2, e3, e4], h4', by omega, by omega⟩
  · obtain ⟨x, A2, e2, h2, x1⟩ := takenN 20000 h1 ⟨by omega, by omega⟩
    obtain ⟨y, A3, e3, h3, y1⟩ := takenN 2 h2 ⟨by omega, by omega⟩
    have hw : w = 4 ∨ w = 5 := by omega
    have hy : y = 0 ∨ y = 1 := by omega
    rcases hw with rfl | rfl
    · rcases hy with rfl | rfl
      · exact ⟨x - 10000, A3, by rw [e0]; simp at e1 e3; simp [b__law_number, tk, e1, e2, e3], h3, by omega, by omega⟩
      · exact ⟨x - 10000, A3, by rw [e0]; simp at e1 e3; simp [b__law_number, tk, e1, e2, e3], h3, by omega, by omega⟩
    · rcases hy with rfl | rfl
      · exact ⟨9999, A3, by rw [e0]; simp at e1 e3; simp [b__law_number, tk, e1, e2, e3], h3, by omega, by omega⟩
      · exact ⟨-10000, A3, by rw [e0]; simp at e1 e3; simp [b__law_number, tk, e1, e2, e3], h3, by omega, by omega⟩
theorem sub16 : ∀ l : List Nat, l.Sublist [103, 104, 108, 115] → l ∈ R16 := by
  intro l h
  cases h <;> rename_i h <;> cases h <;> rename_i h <;> cases h <;> rename_i h <;> cases h <;> rename_i h <;> cases h <;> decide
theorem sub_map {α β : Type} {f : α → β} : ∀ {xs : List α} {ys : List β}, ys.Sublist (xs.map f) → ∃ l : List α, l.Sublist xs ∧ ys = l.map f
  | [], ys, h => ⟨[], .slnil, List.sublist_nil.mp h⟩
  | x :: xs, ys, h => by
    rcases List.sublist_cons_iff.mp h with h5 | ⟨zs, e, h5⟩
    · obtain ⟨l, h1, h2⟩ := sub_map h5
      exact ⟨l, h1.cons x, h2⟩
    · subst e
      obtain ⟨l, h1, h2⟩ := sub_map h5
      exact ⟨x :: l, h1.cons₂ x, by rw [h2]; rfl⟩
theorem rights_join {l : List Nat} (h : l ∈ R16) {A : AH} : joinD (.str (S [])) [.lst (l.map fun c => .str ⟨#[c]⟩)] A = .ok (.str (S l)) A := by
  have := join_S (A := A) (s := []) (k := 1) (ls := l.map fun c => [c]) (fun x hx => by
    obtain ⟨c, _, rfl⟩ := List.mem_map.mp hx
    exact Nat.le_refl 1) (by rw [List.length_map]; have := (r_word l h).1; omega)
  rw [joinL_one, List.map_map] at this
  exact this
def g1 : MS := (mAsg (mBin ixD (mLst (mCons (mc (.int (4))) (mCons (mc (.int (9))) (mCons (mc (.int (2))) mNil)))) (mCall m__law_taken (mCons (mv 0) (mCons (mc (.int (3))) mNil)))) (gmN 1))
def gL : ME := mLc (miAny (mc (.str "ghls"))) (gmN 2) (mTb (mBin gtD (mCall m__law_taken (mCons (mv 0) (mCons (mv 1) mNil))) (mc (.int (0))))) (mv 2) [2] finF
theorem rights_ok {r : Nat} {ns : List Int} {A : AH} (h : RowAt r ns A) : ∃ (l : List Nat) (A' : AH), m__law_rights [.ref r] A = .ok (.str (S l)) A' ∧ RowAt r ns A' ∧ l ∈ R16 := by
  have e0 : m__law_rights [.ref r] A = finS (mSeq g1 (mRet (mMt "str" joinD (mc (.str "")) (mCons gL mNil))) [some (.ref r), none, none] A) := rfl
  obtain ⟨w, A1, e1, h1, w1⟩ := takenN 3 h ⟨by omega, by omega⟩
  have hk : ∃ i : Int, 0 < i ∧ i < 10 ∧ atI [D.int 4, D.int 9, D.int 2] (w : Int) = some (.int i) := by
    have hk : w = 0 ∨ w = 1 ∨ w = 2 := by omega
    rcases hk with rfl | rfl | rfl
    · exact ⟨4, by omega, by omega, at0⟩
    · exact ⟨9, by omega, by omega, at1⟩
    · exact ⟨2, by omega, by omega, at2⟩
  obtain ⟨i, i0, i1, hi⟩ := hk
  have c1 : g1 [some (.ref r), none, none] A = .nx [some (.ref r), some (.int i), none] A1 := by
    simp [g1, tk, e1, hi]
  have e2 : miAny (mc (.str "ghls")) [some (.ref r), some (.int i), none] A1 = .ok (.data ([103, 104, 108, 115].map fun c => .str ⟨#[c]⟩)) A1 := by
    rw [e_rts]
    rfl
  obtain ⟨ys, A2, e3, h2, hs⟩ := lc_sub (g := gmN 2) (tt := mTb (mBin gtD (mCall m__law_taken (mCons (mv 0) (mCons (mv 1) mNil))) (mc (.int (0))))) (te := mv 2) (vs := [2]) (RowAt r ns) e2 (by decide) h1 (fun d _ B hB => by
    obtain ⟨v, B', e, hB', _⟩ := takenN i hB ⟨i0, by omega⟩
    exact ⟨_, decide (0 < (v : Int)), B', rfl, by simp only [e_tb, e_bin, e_call, e_cons, e_nil, wpD, wp_cons, wp_nil, List.set_cons_succ, List.set_cons_zero, e_mvS, e_mv0, kC1_0, kC2_0, kCall_0, tk, e, kB1_0, e_mc, kB2_0, o_gt, kT_0], hB', rfl⟩)
  obtain ⟨l, hl, rfl⟩ := sub_map hs
  have hl16 := sub16 l hl
  have e4 : gL [some (.ref r), some (.int i), none] A1 = .ok (.lst (l.map fun c => .str ⟨#[c]⟩)) A2 := e3
  refine ⟨l, A2, ?_, h2, hl16⟩
  rw [e0, e_seq, c1, RS.nxt_nx]
  simp [e4, e_emp, rights_join hl16, tyMD]
def wl : List D := [.str "put", .str "move", .str "add", .str "take", .str "less", .str "same", .str "is", .str "get", .str "get", .str "set", .str "set", .str "narrow", .str "fewer", .str "gate", .str "enter", .str "room", .str "room", .str "shut", .str "say", .str "say", .str "go", .str "if", .str "if", .str "end"]
theorem wl_at {w : Nat} (h : (w : Int) < 24) : ∃ z : String, atI wl (w : Int) = some (.str z) ∧ (z = "put" ∨ z = "move" ∨ z = "add" ∨ z = "take" ∨ z = "less" ∨ z = "same" ∨ z = "is" ∨ z = "get" ∨ z = "set" ∨ z = "narrow" ∨ z = "fewer" ∨ z = "gate" ∨ z = "enter" ∨ z = "room" ∨ z = "shut" ∨ z = "say" ∨ z = "go" ∨ z = "if" ∨ z = "end") := by
  have hw : w = 0 ∨ w = 1 ∨ w = 2 ∨ w = 3 ∨ w = 4 ∨ w = 5 ∨ w = 6 ∨ w = 7 ∨ w = 8 ∨ w = 9 ∨ w = 10 ∨ w = 11 ∨ w = 12 ∨ w = 13 ∨ w = 14 ∨ w = 15 ∨ w = 16 ∨ w = 17 ∨ w = 18 ∨ w = 19 ∨ w = 20 ∨ w = 21 ∨ w = 22 ∨ w = 23 := by omega
  rcases hw with rfl | rfl | rfl | rfl | rfl | rfl | rfl | rfl | rfl | rfl | rfl | rfl | rfl | rfl | rfl | rfl | rfl | rfl | rfl | rfl | rfl | rfl | rfl | rfl
  all_goals exact ⟨_, rfl, by decide⟩
theorem e_w_put : Str.ofString "put" = S [112, 117, 116] := by decide
theorem e_w_move : Str.ofString "move" = S [109, 111, 118, 101] := by decide
theorem e_w_add : Str.ofString "add" = S [97, 100, 100] := by decide
theorem e_w_take : Str.ofString "take" = S [116, 97, 107, 101] := by decide
theorem e_w_less : Str.ofString "less" = S [108, 101, 115, 115] := by decide
theorem e_w_same : Str.ofString "same" = S [115, 97, 109, 101] := by decide
theorem e_w_is : Str.ofString "is" = S [105, 115] := by decide
theorem e_w_get : Str.ofString "get" = S [103, 101, 116] := by decide
theorem e_w_set : Str.ofString "set" = S [115, 101, 116] := by decide
theorem e_w_narrow : Str.ofString "narrow" = S [110, 97, 114, 114, 111, 119] := by decide
theorem e_w_fewer : Str.ofString "fewer" = S [102, 101, 119, 101, 114] := by decide
theorem e_w_gate : Str.ofString "gate" = S [103, 97, 116, 101] := by decide
theorem e_w_enter : Str.ofString "enter" = S [101, 110, 116, 101, 114] := by decide
theorem e_w_room : Str.ofString "room" = S [114, 111, 111, 109] := by decide
theorem e_w_shut : Str.ofString "shut" = S [115, 104, 117, 116] := by decide
theorem e_w_say : Str.ofString "say" = S [115, 97, 121] := by decide
theorem e_w_go : Str.ofString "go" = S [103, 111] := by decide
theorem e_w_if : Str.ofString "if" = S [105, 102] := by decide
theorem e_w_end : Str.ofString "end" = S [101, 110, 100] := by decide
def k1 : MS := (mAsg (mLst (mCons (mc (.str "put")) (mCons (mc (.str "move")) (mCons (mc (.str "add")) (mCons (mc (.str "take")) (mCons (mc (.str "less")) (mCons (mc (.str "same")) (mCons (mc (.str "is")) (mCons (mc (.str "get")) (mCons (mc (.str "get")) (mCons (mc (.str "set")) (mCons (mc (.str "set")) (mCons (mc (.str "narrow")) (mCons (mc (.str "fewer")) (mCons (mc (.str "gate")) mNil))))))))))))))) (gmN 3))
def k2 : MS := (mAsg (mBin addD (mv 3) (mLst (mCons (mc (.str "enter")) (mCons (mc (.str "room")) (mCons (mc (.str "room")) (mCons (mc (.str "shut")) (mCons (mc (.str "say")) (mCons (mc (.str "say")) (mCons (mc (.str "go")) (mCons (mc (.str "if")) (mCons (mc (.str "if")) (mCons (mc (.str "end")) mNil)))))))))))) (gmN 3))
def k3 : MS := (mAsg (mBin ixD (mv 3) (mCall m__law_taken (mCons (mv 0) (mCons (mc (.int (24))) mNil)))) (gmN 4))
def k4 : MS := (mPar [5, 6, 7] (mCons (mCall m__law_taken (mCons (mv 0) (mCons (mc (.int (8))) mNil))) (mCons (mCall m__law_taken (mCons (mv 0) (mCons (mc (.int (8))) mNil))) (mCons (mCall m__law_taken (mCons (mv 0) (mCons (mc (.int (8))) mNil))) mNil))))
def k5 : MS := (mAsg (mBin addD (mv 1) (mCall m__law_taken (mCons (mv 0) (mCons (mBin subD (mv 2) (mv 1)) mNil)))) (gmN 8))
def k6 : MS := (mIfS (mTb (mBin eqD (mCall m__law_taken (mCons (mv 0) (mCons (mc (.int (5))) mNil))) (mc (.int (4))))) (mAsg (mCall m__law_taken (mCons (mv 0) (mCons (mv 2) mNil))) (gmN 8)) mNx)
def k7 : MS := (mIfS (mTb (mBin inD (mv 4) (mTup (mCons (mc (.str "add")) (mCons (mc (.str "take")) (mCons (mc (.str "less")) (mCons (mc (.str "same")) (mCons (mc (.str "narrow")) mNil)))))))) (mRet (mTup (mCons (mv 4) (mCons (mv 5) (mCons (mv 6) (mCons (mv 7) mNil)))))) mNx)
def k8 : MS := (mIfS (mTb (mBin inD (mv 4) (mTup (mCons (mc (.str "get")) (mCons (mc (.str "set")) mNil))))) (mSeq (mAsg (mBin ixD (mLst (mCons (mc (.int (0))) (mCons (mc (.int (0))) (mCons (mBin subD (mCall m__law_taken (mCons (mv 0) (mCons (mc (.int (5))) mNil))) (mc (.int (2)))) (mCons (mBin subD (mCall m__law_taken (mCons (mv 0) (mCons (mc (.int (127))) mNil))) (mc (.int (63)))) mNil))))) (mCall m__law_taken (mCons (mv 0) (mCons (mc (.int (4))) mNil)))) (gmN 9))
  (mRet (mIf (mTb (mBin eqD (mv 4) (mc (.str "get")))) (mTup (mCons (mv 4) (mCons (mv 5) (mCons (mv 6) (mCons (mv 9) mNil))))) (mTup (mCons (mv 4) (mCons (mv 6) (mCons (mv 9) (mCons (mv 7) mNil)))))))) mNx)
def k9 : MS := (mAsg (mDctN (mPCons (mc (.str "put")) (mTup (mCons (mv 5) (mCons (mCall m__law_number (mCons (mv 0) mNil)) mNil))) (mPCons (mc (.str "fewer")) (mTup (mCons (mv 5) (mCons (mv 6) (mCons (mCall m__law_rights (mCons (mv 0) mNil)) mNil)))) (mPCons (mc (.str "go")) (mTup (mCons (mv 8) mNil)) (mPCons (mc (.str "if")) (mTup (mCons (mv 6) (mCons (mv 8) mNil))) (mPCons (mc (.str "end")) (mTup mNil) mPNil)))))) (gmN 10))
def k10 : MS := (mDrop (mMt "dict" updD (mv 10) (mCons (mLst (mCons (mTup (mCons (mc (.str "gate")) (mCons (mTup (mCons (mv 5) (mCons (mv 6) (mCons (mCall m__law_taken (mCons (mv 0) (mCons (mBin addD (mv 2) (mc (.int (1)))) mNil))) mNil)))) mNil))) (mCons (mTup (mCons (mc (.str "move")) (mCons (mTup (mCons (mv 5) (mCons (mv 6) mNil))) mNil))) (mCons (mTup (mCons (mc (.str "is")) (mCons (mTup (mCons (mv 5) (mCons (mv 6) mNil))) mNil))) mNil)))) mNil)))
def k11 : MS := (mRet (mBin addD (mTup (mCons (mv 4) mNil)) (mGet2 (mv 10) (mv 4) (mTup (mCons (mv 6) mNil)))))
theorem row_made {r : Nat} {ns : List Int} {A : AH} {at_ rows : Nat} (h : RowAt r ns A) (h0 : at_ < rows) (h1 : rows ≤ 60) : ∃ (p : RW) (A' : AH), m__law_row [.ref r, .int at_, .int rows] A = .ok p.d A' ∧ RowAt r ns A' ∧ p.Ok rows := by
  have e0 : m__law_row [.ref r, .int at_, .int rows] A = finS (mSeq k1 (mSeq k2 (mSeq k3 (mSeq k4 (mSeq k5 (mSeq k6 (mSeq k7 (mSeq k8 (mSeq k9 (mSeq k10 k11))))))))) [some (.ref r), some (.int at_), some (.int rows), none, none, none, none, none, none, none, none] A) := rfl
  obtain ⟨w, A1, e1, h1', w1⟩ := takenN 24 h ⟨by omega, by omega⟩
  obtain ⟨q, hq, hz⟩ := wl_at w1
  obtain ⟨x, A2, e2, h2, x1⟩ := takenN 8 h1' ⟨by omega, by omega⟩
  obtain ⟨y, A3, e3, h3, y1⟩ := takenN 8 h2 ⟨by omega, by omega⟩
  obtain ⟨z, A4, e4, h4, z1⟩ := takenN 8 h3 ⟨by omega, by omega⟩
  obtain ⟨g, A5, e5, h5, g1⟩ := takenN ((rows : Int) - at_) h4 ⟨by omega, by omega⟩
  obtain ⟨u, A6, e6, h6, u1⟩ := takenN 5 h5 ⟨by omega, by omega⟩
  have hcut : ∀ B, (k1 [some (.ref r), some (.int at_), some (.int rows), none, none, none, none, none, none, none, none] B).nxt k2 = .nx [some (.ref r), some (.int at_), some (.int rows), some (.lst wl), none, none, none, none, none, none, none] B := fun B => by
    simp [k1, k2, addD, lstL, wl]
  have c3 : k3 [some (.ref r), some (.int at_), some (.int rows), some (.lst wl), none, none, none, none, none, none, none] A = .nx [some (.ref r), some (.int at_), some (.int rows), some (.lst wl), some (.str q), none, none, none, none, none, none] A1 := by
    simp [k3, tk, e1, hq]
  have c4 : k4 [some (.ref r), some (.int at_), some (.int rows), some (.lst wl), some (.str q), none, none, none, none, none, none] A1 = .nx [some (.ref r), some (.int at_), some (.int rows), some (.lst wl), some (.str q), some (.int x), some (.int y), some (.int z), none, none, none] A4 := by
    simp [k4, tk, e2, e3, e4]
  have c5 : k5 [some (.ref r), some (.int at_), some (.int rows), some (.lst wl), some (.str q), some (.int x), some (.int y), some (.int z), none, none, none] A4 = .nx [some (.ref r), some (.int at_), some (.int rows), some (.lst wl), some (.str q), some (.int x), some (.int y), some (.int z), some (.int ((at_ + g : Nat) : Int)), none, none] A5 := by
    simp [k5, tk, e5]
  have c6 : ∃ (goal : Nat) (A7 : AH), k6 [some (.ref r), some (.int at_), some (.int rows), some (.lst wl), some (.str q), some (.int x), some (.int y), some (.int z), some (.int ((at_ + g : Nat) : Int)), none, none] A5 = .nx [some (.ref r), some (.int at_), some (.int rows), some (.lst wl), some (.str q), some (.int x), some (.int y), some (.int z), some (.int (goal : Int)), none, none] A7 ∧ RowAt r ns A7 ∧ goal < rows := by
    by_cases hu : u = 4
    · obtain ⟨v, A7, e7, h7, v1⟩ := takenN (rows : Int) h6 ⟨by omega, by omega⟩
      exact ⟨v, A7, by subst hu; simp at e6; simp [k6, tk, e6, e7], h7, by omega⟩
    · have hu2 : ¬ (u : Int) = 4 := by omega
      exact ⟨at_ + g, A6, by simp [k6, tk, e6, rInt, hu2], h6, by omega⟩
  obtain ⟨goal, A7, c6, h7, hg⟩ := c6
  have pre : m__law_row [.ref r, .int at_, .int rows] A = finS (mSeq k7 (mSeq k8 (mSeq k9 (mSeq k10 k11))) [some (.ref r), some (.int at_), some (.int rows), some (.lst wl), some (.str q), some (.int x), some (.int y), some (.int z), some (.int (goal : Int)), none, none] A7) := by
    rw [e0, e_seq]
    have := hcut A
    rw [show ∀ n : MS, (k1 [some (.ref r), some (.int at_), some (.int rows), none, none, none, none, none, none, none, none] A).nxt (mSeq k2 n) = ((k1 [some (.ref r), some (.int at_), some (.int rows), none, none, none, none, none, none, none, none] A).nxt k2).nxt n from fun n => by cases k1 [some (.ref r), some (.int at_), some (.int rows), none, none, none, none, none, none, none, none] A <;> rfl, this, RS.nxt_nx, e_seq, c3, RS.nxt_nx, e_seq, c4, RS.nxt_nx, e_seq, c5, RS.nxt_nx, e_seq, c6, RS.nxt_nx]
  have x2 : (0 : Int) ≤ x ∧ (x : Int) < 8 := by omega
  have y2 : (0 : Int) ≤ y ∧ (y : Int) < 8 := by omega
  have z2 : (0 : Int) ≤ z ∧ (z : Int) < 8 := by omega
  have g2 : (0 : Int) ≤ goal ∧ (goal : Int) < rows := by omega
  clear c3 c4 c5 c6 hcut e0 hq
  obtain ⟨i, A8, e8, h8, i0, i1⟩ := number_ok h7
  obtain ⟨l, A9, e9, h9, hl⟩ := rights_ok h8
  obtain ⟨t, A10, e10, h10, len10, t1⟩ := takenApp ((rows : Int) + 1) [.dct [(.inr "put", .tup [.int x, .int i]), (.inr "fewer", .tup [.int x, .int y, .str (S l)]), (.inr "go", .tup [.int goal]), (.inr "if", .tup [.int y, .int goal]), (.inr "end", .tup [])]] h9 ⟨by omega, by omega⟩
  have hx : ∀ o : AO, (A10 ++ [o])[A9.length]? = some o := fun o => by
    rw [← len10]
    simp
  have hs : ∀ o o' : AO, (A10 ++ [o]).set A9.length o' = A10 ++ [o'] := fun o o' => by
    rw [← len10]
    simp
  have c9 : k9 [some (.ref r), some (.int at_), some (.int rows), some (.lst wl), some (.str q), some (.int x), some (.int y), some (.int z), some (.int (goal : Int)), none, none] A7 = .nx [some (.ref r), some (.int at_), some (.int rows), some (.lst wl), some (.str q), some (.int x), some (.int y), some (.int z), some (.int (goal : Int)), none, some (.ref A9.length)] (A9 ++ [.dct [(.inr "put", .tup [.int x, .int i]), (.inr "fewer", .tup [.int x, .int y, .str (S l)]), (.inr "go", .tup [.int goal]), (.inr "if", .tup [.int y, .int goal]), (.inr "end", .tup [])]]) := by
    simp [k9, e8, e9, keysD, keyD, mergeD, ptK]
  have c10 : k10 [some (.ref r), some (.int at_), some (.int rows), some (.lst wl), some (.str q), some (.int x), some (.int y), some (.int z), some (.int (goal : Int)), none, some (.ref A9.length)] (A9 ++ [.dct [(.inr "put", .tup [.int x, .int i]), (.inr "fewer", .tup [.int x, .int y, .str (S l)]), (.inr "go", .tup [.int goal]), (.inr "if", .tup [.int y, .int goal]), (.inr "end", .tup [])]]) = .nx [some (.ref r), some (.int at_), some (.int rows), some (.lst wl), some (.str q), some (.int x), some (.int y), some (.int z), some (.int (goal : Int)), none, some (.ref A9.length)] (A10 ++ [.dct [(.inr "put", .tup [.int x, .int i]), (.inr "fewer", .tup [.int x, .int y, .str (S l)]), (.inr "go", .tup [.int goal]), (.inr "if", .tup [.int y, .int goal]), (.inr "end", .tup []), (.inr "gate", .tup [.int x, .int y, .int t]), (.inr "move", .tup [.int x, .int y]), (.inr "is", .tup [.int x, .int y])]]) := by
    simp [k10, tk, dct_ref, e10, updD, pairsD, keyD, mergeD, ptK, hx, hs]
  obtain ⟨f1, B1, d1, hB1, _⟩ := takenN 5 h7 ⟨by omega, by omega⟩
  obtain ⟨f2, B2, d2, hB2, _⟩ := takenN 127 hB1 ⟨by omega, by omega⟩
  obtain ⟨f3, B3, d3, hB3, f31⟩ := takenN 4 hB2 ⟨by omega, by omega⟩
  have hf : ∃ o : Int, -63 ≤ o ∧ o < 64 ∧ atI [D.int 0, D.int 0, D.int ((f1 : Int) - 2), D.int ((f2 : Int) - 63)] (f3 : Int) = some (.int o) := by
    have hk : f3 = 0 ∨ f3 = 1 ∨ f3 = 2 ∨ f3 = 3 := by omega
    rcases hk with rfl | rfl | rfl | rfl
    · exact ⟨0, by omega, by omega, at0⟩
    · exact ⟨0, by omega, by omega, at1⟩
    · exact ⟨f1 - 2, by omega, by omega, at2⟩
    · exact ⟨f2 - 63, by omega, by omega, at3⟩
  obtain ⟨o, o0, o1, ho⟩ := hf
  have t2 : (0 : Int) ≤ t ∧ (t : Int) < rows + 1 := by omega
  rcases hz with rfl | rfl | rfl | rfl | rfl | rfl | rfl | rfl | rfl | rfl | rfl | rfl | rfl | rfl | rfl | rfl | rfl | rfl | rfl
  · have hd : RW.d ⟨[112, 117, 116], [.n x, .n i]⟩ = .tup [.str "put", .int x, .int i] := by
      rw [e_w_put]
      rfl
    refine ⟨⟨[112, 117, 116], [.n x, .n i]⟩, A10 ++ [?o_put], ?e_put, h10.app _, ⟨[98, 110], by show ([112, 117, 116], [98, 110]) ∈ forms; decide, .cons (.b x2.1 x2.2) (.cons (.n i0 i1) (.nil))⟩⟩
    case e_put =>
      rw [pre, hd, e_seq, show ∀ B, k7 [some (.ref r), some (.int at_), some (.int rows), some (.lst wl), some (.str "put"), some (.int x), some (.int y), some (.int z), some (.int (goal : Int)), none, none] B = .nx [some (.ref r), some (.int at_), some (.int rows), some (.lst wl), some (.str "put"), some (.int x), some (.int y), some (.int z), some (.int (goal : Int)), none, none] B from fun B => by simp [k7, in_str], RS.nxt_nx, e_seq, show ∀ B, k8 [some (.ref r), some (.int at_), some (.int rows), some (.lst wl), some (.str "put"), some (.int x), some (.int y), some (.int z), some (.int (goal : Int)), none, none] B = .nx [some (.ref r), some (.int at_), some (.int rows), some (.lst wl), some (.str "put"), some (.int x), some (.int y), some (.int z), some (.int (goal : Int)), none, none] B from fun B => by simp [k8, in_str], RS.nxt_nx, e_seq, c9, RS.nxt_nx, e_seq, c10, RS.nxt_nx]
      simp [k11, dct_ref, getD2, keyD, lkK, addD, hx]
      try rfl
  · have hd : RW.d ⟨[109, 111, 118, 101], [.n x, .n y]⟩ = .tup [.str "move", .int x, .int y] := by
      rw [e_w_move]
      rfl
    refine ⟨⟨[109, 111, 118, 101], [.n x, .n y]⟩, A10 ++ [?o_move], ?e_move, h10.app _, ⟨[98, 98], by show ([109, 111, 118, 101], [98, 98]) ∈ forms; decide, .cons (.b x2.1 x2.2) (.cons (.b y2.1 y2.2) (.nil))⟩⟩
    case e_move =>
      rw [pre, hd, e_seq, show ∀ B, k7 [some (.ref r), some (.int at_), some (.int rows), some (.lst wl), some (.str "move"), some (.int x), some (.int y), some (.int z), some (.int (goal : Int)), none, none] B = .nx [some (.ref r), some (.int at_), some (.int rows), some (.lst wl), some (.str "move"), some (.int x), some (.int y), some (.int z), some (.int (goal : Int)), none, none] B from fun B => by simp [k7, in_str], RS.nxt_nx, e_seq, show ∀ B, k8 [some (.ref r), some (.int at_), some (.int rows), some (.lst wl), some (.str "move"), some (.int x), some (.int y), some (.int z), some (.int (goal : Int)), none, none] B = .nx [some (.ref r), some (.int at_), some (.int rows), some (.lst wl), some (.str "move"), some (.int x), some (.int y), some (.int z), some (.int (goal : Int)), none, none] B from fun B => by simp [k8, in_str], RS.nxt_nx, e_seq, c9, RS.nxt_nx, e_seq, c10, RS.nxt_nx]
      simp [k11, dct_ref, getD2, keyD, lkK, addD, hx]
      try rfl
  · have hd : RW.d ⟨[97, 100, 100], [.n x, .n y, .n z]⟩ = .tup [.str "add", .int x, .int y, .int z] := by
      rw [e_w_add]
      rfl
    exact ⟨⟨[97, 100, 100], [.n x, .n y, .n z]⟩, A7, by rw [pre, hd]; simp [k7, in_str], h7, ⟨[98, 98, 98], by show ([97, 100, 100], [98, 98, 98]) ∈ forms; decide, .cons (.b x2.1 x2.2) (.cons (.b y2.1 y2.2) (.cons (.b z2.1 z2.2) (.nil)))⟩⟩
  · have hd : RW.d ⟨[116, 97, 107, 101], [.n x, .n y, .n z]⟩ = .tup [.str "take", .int x, .int y, .int z] := by
      rw [e_w_take]
      rfl
    exact ⟨⟨[116, 97, 107, 101], [.n x, .n y, .n z]⟩, A7, by rw [pre, hd]; simp [k7, in_str], h7, ⟨[98, 98, 98], by show ([116, 97, 107, 101], [98, 98, 98]) ∈ forms; decide, .cons (.b x2.1 x2.2) (.cons (.b y2.1 y2.2) (.cons (.b z2.1 z2.2) (.nil)))⟩⟩
  · have hd : RW.d ⟨[108, 101, 115, 115], [.n x, .n y, .n z]⟩ = .tup [.str "less", .int x, .int y, .int z] := by
      rw [e_w_less]
      rfl
    exact ⟨⟨[108, 101, 115, 115], [.n x, .n y, .n z]⟩, A7, by rw [pre, hd]; simp [k7, in_str], h7, ⟨[98, 98, 98], by show ([108, 101, 115, 115], [98, 98, 98]) ∈ forms; decide, .cons (.b x2.1 x2.2) (.cons (.b y2.1 y2.2) (.cons (.b z2.1 z2.2) (.nil)))⟩⟩
  · have hd : RW.d ⟨[115, 97, 109, 101], [.n x, .n y, .n z]⟩ = .tup [.str "same", .int x, .int y, .int z] := by
      rw [e_w_same]
      rfl
    exact ⟨⟨[115, 97, 109, 101], [.n x, .n y, .n z]⟩, A7, by rw [pre, hd]; simp [k7, in_str], h7, ⟨[98, 98, 98], by show ([115, 97, 109, 101], [98, 98, 98]) ∈ forms; decide, .cons (.b x2.1 x2.2) (.cons (.b y2.1 y2.2) (.cons (.b z2.1 z2.2) (.nil)))⟩⟩
  · have hd : RW.d ⟨[105, 115], [.n x, .n y]⟩ = .tup [.str "is", .int x, .int y] := by
      rw [e_w_is]
      rfl
    refine ⟨⟨[105, 115], [.n x, .n y]⟩, A10 ++ [?o_is], ?e_is, h10.app _, ⟨[98, 98], by show ([105, 115], [98, 98]) ∈ forms; decide, .cons (.b x2.1 x2.2) (.cons (.b y2.1 y2.2) (.nil))⟩⟩
    case e_is =>
      rw [pre, hd, e_seq, show ∀ B, k7 [some (.ref r), some (.int at_), some (.int rows), some (.lst wl), some (.str "is"), some (.int x), some (.int y), some (.int z), some (.int (goal : Int)), none, none] B = .nx [some (.ref r), some (.int at_), some (.int rows), some (.lst wl), some (.str "is"), some (.int x), some (.int y), some (.int z), some (.int (goal : Int)), none, none] B from fun B => by simp [k7, in_str], RS.nxt_nx, e_seq, show ∀ B, k8 [some (.ref r), some (.int at_), some (.int rows), some (.lst wl), some (.str "is"), some (.int x), some (.int y), some (.int z), some (.int (goal : Int)), none, none] B = .nx [some (.ref r), some (.int at_), some (.int rows), some (.lst wl), some (.str "is"), some (.int x), some (.int y), some (.int z), some (.int (goal : Int)), none, none] B from fun B => by simp [k8, in_str], RS.nxt_nx, e_seq, c9, RS.nxt_nx, e_seq, c10, RS.nxt_nx]
      simp [k11, dct_ref, getD2, keyD, lkK, addD, hx]
      try rfl
  · have hd : RW.d ⟨[103, 101, 116], [.n x, .n y, .n o]⟩ = .tup [.str "get", .int x, .int y, .int o] := by
      rw [e_w_get]
      rfl
    exact ⟨⟨[103, 101, 116], [.n x, .n y, .n o]⟩, B3, by rw [pre, hd]; simp [k7, k8, in_str, tk, d1, d2, d3, ho], hB3, ⟨[98, 98, 111], by show ([103, 101, 116], [98, 98, 111]) ∈ forms; decide, .cons (.b x2.1 x2.2) (.cons (.b y2.1 y2.2) (.cons (.o o0 o1) (.nil)))⟩⟩
  · have hd : RW.d ⟨[115, 101, 116], [.n y, .n o, .n z]⟩ = .tup [.str "set", .int y, .int o, .int z] := by
      rw [e_w_set]
      rfl
    exact ⟨⟨[115, 101, 116], [.n y, .n o, .n z]⟩, B3, by rw [pre, hd]; simp [k7, k8, in_str, tk, d1, d2, d3, ho], hB3, ⟨[98, 111, 98], by show ([115, 101, 116], [98, 111, 98]) ∈ forms; decide, .cons (.b y2.1 y2.2) (.cons (.o o0 o1) (.cons (.b z2.1 z2.2) (.nil)))⟩⟩
  · have hd : RW.d ⟨[110, 97, 114, 114, 111, 119], [.n x, .n y, .n z]⟩ = .tup [.str "narrow", .int x, .int y, .int z] := by
      rw [e_w_narrow]
      rfl
    exact ⟨⟨[110, 97, 114, 114, 111, 119], [.n x, .n y, .n z]⟩, A7, by rw [pre, hd]; simp [k7, in_str], h7, ⟨[98, 98, 98], by show ([110, 97, 114, 114, 111, 119], [98, 98, 98]) ∈ forms; decide, .cons (.b x2.1 x2.2) (.cons (.b y2.1 y2.2) (.cons (.b z2.1 z2.2) (.nil)))⟩⟩
  · have hd : RW.d ⟨[102, 101, 119, 101, 114], [.n x, .n y, .t l]⟩ = .tup [.str "fewer", .int x, .int y, .str (S l)] := by
      rw [e_w_fewer]
      rfl
    refine ⟨⟨[102, 101, 119, 101, 114], [.n x, .n y, .t l]⟩, A10 ++ [?o_fewer], ?e_fewer, h10.app _, ⟨[98, 98, 116], by show ([102, 101, 119, 101, 114], [98, 98, 116]) ∈ forms; decide, .cons (.b x2.1 x2.2) (.cons (.b y2.1 y2.2) (.cons (.t hl) (.nil)))⟩⟩
    case e_fewer =>
      rw [pre, hd, e_seq, show ∀ B, k7 [some (.ref r), some (.int at_), some (.int rows), some (.lst wl), some (.str "fewer"), some (.int x), some (.int y), some (.int z), some (.int (goal : Int)), none, none] B = .nx [some (.ref r), some (.int at_), some (.int rows), some (.lst wl), some (.str "fewer"), some (.int x), some (.int y), some (.int z), some (.int (goal : Int)), none, none] B from fun B => by simp [k7, in_str], RS.nxt_nx, e_seq, show ∀ B, k8 [some (.ref r), some (.int at_), some (.int rows), some (.lst wl), some (.str "fewer"), some (.int x), some (.int y), some (.int z), some (.int (goal : Int)), none, none] B = .nx [some (.ref r), some (.int at_), some (.int rows), some (.lst wl), some (.str "fewer"), some (.int x), some (.int y), some (.int z), some (.int (goal : Int)), none, none] B from fun B => by simp [k8, in_str], RS.nxt_nx, e_seq, c9, RS.nxt_nx, e_seq, c10, RS.nxt_nx]
      simp [k11, dct_ref, getD2, keyD, lkK, addD, hx]
      try rfl
  · have hd : RW.d ⟨[103, 97, 116, 101], [.n x, .n y, .n t]⟩ = .tup [.str "gate", .int x, .int y, .int t] := by
      rw [e_w_gate]
      rfl
    refine ⟨⟨[103, 97, 116, 101], [.n x, .n y, .n t]⟩, A10 ++ [?o_gate], ?e_gate, h10.app _, ⟨[98, 98, 103], by show ([103, 97, 116, 101], [98, 98, 103]) ∈ forms; decide, .cons (.b x2.1 x2.2) (.cons (.b y2.1 y2.2) (.cons (.g t2.1 t2.2) (.nil)))⟩⟩
    case e_gate =>
      rw [pre, hd, e_seq, show ∀ B, k7 [some (.ref r), some (.int at_), some (.int rows), some (.lst wl), some (.str "gate"), some (.int x), some (.int y), some (.int z), some (.int (goal : Int)), none, none] B = .nx [some (.ref r), some (.int at_), some (.int rows), some (.lst wl), some (.str "gate"), some (.int x), some (.int y), some (.int z), some (.int (goal : Int)), none, none] B from fun B => by simp [k7, in_str], RS.nxt_nx, e_seq, show ∀ B, k8 [some (.ref r), some (.int at_), some (.int rows), some (.lst wl), some (.str "gate"), some (.int x), some (.int y), some (.int z), some (.int (goal : Int)), none, none] B = .nx [some (.ref r), some (.int at_), some (.int rows), some (.lst wl), some (.str "gate"), some (.int x), some (.int y), some (.int z), some (.int (goal : Int)), none, none] B from fun B => by simp [k8, in_str], RS.nxt_nx, e_seq, c9, RS.nxt_nx, e_seq, c10, RS.nxt_nx]
      simp [k11, dct_ref, getD2, keyD, lkK, addD, hx]
      try rfl
  · have hd : RW.d ⟨[101, 110, 116, 101, 114], [.n y]⟩ = .tup [.str "enter", .int y] := by
      rw [e_w_enter]
      rfl
    refine ⟨⟨[101, 110, 116, 101, 114], [.n y]⟩, A10 ++ [?o_enter], ?e_enter, h10.app _, ⟨[98], by show ([101, 110, 116, 101, 114], [98]) ∈ forms; decide, .cons (.b y2.1 y2.2) (.nil)⟩⟩
    case e_enter =>
      rw [pre, hd, e_seq, show ∀ B, k7 [some (.ref r), some (.int at_), some (.int rows), some (.lst wl), some (.str "enter"), some (.int x), some (.int y), some (.int z), some (.int (goal : Int)), none, none] B = .nx [some (.ref r), some (.int at_), some (.int rows), some (.lst wl), some (.str "enter"), some (.int x), some (.int y), some (.int z), some (.int (goal : Int)), none, none] B from fun B => by simp [k7, in_str], RS.nxt_nx, e_seq, show ∀ B, k8 [some (.ref r), some (.int at_), some (.int rows), some (.lst wl), some (.str "enter"), some (.int x), some (.int y), some (.int z), some (.int (goal : Int)), none, none] B = .nx [some (.ref r), some (.int at_), some (.int rows), some (.lst wl), some (.str "enter"), some (.int x), some (.int y), some (.int z), some (.int (goal : Int)), none, none] B from fun B => by simp [k8, in_str], RS.nxt_nx, e_seq, c9, RS.nxt_nx, e_seq, c10, RS.nxt_nx]
      simp [k11, dct_ref, getD2, keyD, lkK, addD, hx]
      try rfl
  · have hd : RW.d ⟨[114, 111, 111, 109], [.n y]⟩ = .tup [.str "room", .int y] := by
      rw [e_w_room]
      rfl
    refine ⟨⟨[114, 111, 111, 109], [.n y]⟩, A10 ++ [?o_room], ?e_room, h10.app _, ⟨[98], by show ([114, 111, 111, 109], [98]) ∈ forms; decide, .cons (.b y2.1 y2.2) (.nil)⟩⟩
    case e_room =>
      rw [pre, hd, e_seq, show ∀ B, k7 [some (.ref r), some (.int at_), some (.int rows), some (.lst wl), some (.str "room"), some (.int x), some (.int y), some (.int z), some (.int (goal : Int)), none, none] B = .nx [some (.ref r), some (.int at_), some (.int rows), some (.lst wl), some (.str "room"), some (.int x), some (.int y), some (.int z), some (.int (goal : Int)), none, none] B from fun B => by simp [k7, in_str], RS.nxt_nx, e_seq, show ∀ B, k8 [some (.ref r), some (.int at_), some (.int rows), some (.lst wl), some (.str "room"), some (.int x), some (.int y), some (.int z), some (.int (goal : Int)), none, none] B = .nx [some (.ref r), some (.int at_), some (.int rows), some (.lst wl), some (.str "room"), some (.int x), some (.int y), some (.int z), some (.int (goal : Int)), none, none] B from fun B => by simp [k8, in_str], RS.nxt_nx, e_seq, c9, RS.nxt_nx, e_seq, c10, RS.nxt_nx]
      simp [k11, dct_ref, getD2, keyD, lkK, addD, hx]
      try rfl
  · have hd : RW.d ⟨[115, 104, 117, 116], [.n y]⟩ = .tup [.str "shut", .int y] := by
      rw [e_w_shut]
      rfl
    refine ⟨⟨[115, 104, 117, 116], [.n y]⟩, A10 ++ [?o_shut], ?e_shut, h10.app _, ⟨[98], by show ([115, 104, 117, 116], [98]) ∈ forms; decide, .cons (.b y2.1 y2.2) (.nil)⟩⟩
    case e_shut =>
      rw [pre, hd, e_seq, show ∀ B, k7 [some (.ref r), some (.int at_), some (.int rows), some (.lst wl), some (.str "shut"), some (.int x), some (.int y), some (.int z), some (.int (goal : Int)), none, none] B = .nx [some (.ref r), some (.int at_), some (.int rows), some (.lst wl), some (.str "shut"), some (.int x), some (.int y), some (.int z), some (.int (goal : Int)), none, none] B from fun B => by simp [k7, in_str], RS.nxt_nx, e_seq, show ∀ B, k8 [some (.ref r), some (.int at_), some (.int rows), some (.lst wl), some (.str "shut"), some (.int x), some (.int y), some (.int z), some (.int (goal : Int)), none, none] B = .nx [some (.ref r), some (.int at_), some (.int rows), some (.lst wl), some (.str "shut"), some (.int x), some (.int y), some (.int z), some (.int (goal : Int)), none, none] B from fun B => by simp [k8, in_str], RS.nxt_nx, e_seq, c9, RS.nxt_nx, e_seq, c10, RS.nxt_nx]
      simp [k11, dct_ref, getD2, keyD, lkK, addD, hx]
      try rfl
  · have hd : RW.d ⟨[115, 97, 121], [.n y]⟩ = .tup [.str "say", .int y] := by
      rw [e_w_say]
      rfl
    refine ⟨⟨[115, 97, 121], [.n y]⟩, A10 ++ [?o_say], ?e_say, h10.app _, ⟨[98], by show ([115, 97, 121], [98]) ∈ forms; decide, .cons (.b y2.1 y2.2) (.nil)⟩⟩
    case e_say =>
      rw [pre, hd, e_seq, show ∀ B, k7 [some (.ref r), some (.int at_), some (.int rows), some (.lst wl), some (.str "say"), some (.int x), some (.int y), some (.int z), some (.int (goal : Int)), none, none] B = .nx [some (.ref r), some (.int at_), some (.int rows), some (.lst wl), some (.str "say"), some (.int x), some (.int y), some (.int z), some (.int (goal : Int)), none, none] B from fun B => by simp [k7, in_str], RS.nxt_nx, e_seq, show ∀ B, k8 [some (.ref r), some (.int at_), some (.int rows), some (.lst wl), some (.str "say"), some (.int x), some (.int y), some (.int z), some (.int (goal : Int)), none, none] B = .nx [some (.ref r), some (.int at_), some (.int rows), some (.lst wl), some (.str "say"), some (.int x), some (.int y), some (.int z), some (.int (goal : Int)), none, none] B from fun B => by simp [k8, in_str], RS.nxt_nx, e_seq, c9, RS.nxt_nx, e_seq, c10, RS.nxt_nx]
      simp [k11, dct_ref, getD2, keyD, lkK, addD, hx]
      try rfl
  · have hd : RW.d ⟨[103, 111], [.n goal]⟩ = .tup [.str "go", .int goal] := by
      rw [e_w_go]
      rfl
    refine ⟨⟨[103, 111], [.n goal]⟩, A10 ++ [?o_go], ?e_go, h10.app _, ⟨[114], by show ([103, 111], [114]) ∈ forms; decide, .cons (.r g2.1 g2.2) (.nil)⟩⟩
    case e_go =>
      rw [pre, hd, e_seq, show ∀ B, k7 [some (.ref r), some (.int at_), some (.int rows), some (.lst wl), some (.str "go"), some (.int x), some (.int y), some (.int z), some (.int (goal : Int)), none, none] B = .nx [some (.ref r), some (.int at_), some (.int rows), some (.lst wl), some (.str "go"), some (.int x), some (.int y), some (.int z), some (.int (goal : Int)), none, none] B from fun B => by simp [k7, in_str], RS.nxt_nx, e_seq, show ∀ B, k8 [some (.ref r), some (.int at_), some (.int rows), some (.lst wl), some (.str "go"), some (.int x), some (.int y), some (.int z), some (.int (goal : Int)), none, none] B = .nx [some (.ref r), some (.int at_), some (.int rows), some (.lst wl), some (.str "go"), some (.int x), some (.int y), some (.int z), some (.int (goal : Int)), none, none] B from fun B => by simp [k8, in_str], RS.nxt_nx, e_seq, c9, RS.nxt_nx, e_seq, c10, RS.nxt_nx]
      simp [k11, dct_ref, getD2, keyD, lkK, addD, hx]
      try rfl
  · have hd : RW.d ⟨[105, 102], [.n y, .n goal]⟩ = .tup [.str "if", .int y, .int goal] := by
      rw [e_w_if]
      rfl
    refine ⟨⟨[105, 102], [.n y, .n goal]⟩, A10 ++ [?o_if], ?e_if, h10.app _, ⟨[98, 114], by show ([105, 102], [98, 114]) ∈ forms; decide, .cons (.b y2.1 y2.2) (.cons (.r g2.1 g2.2) (.nil))⟩⟩
    case e_if =>
      rw [pre, hd, e_seq, show ∀ B, k7 [some (.ref r), some (.int at_), some (.int rows), some (.lst wl), some (.str "if"), some (.int x), some (.int y), some (.int z), some (.int (goal : Int)), none, none] B = .nx [some (.ref r), some (.int at_), some (.int rows), some (.lst wl), some (.str "if"), some (.int x), some (.int y), some (.int z), some (.int (goal : Int)), none, none] B from fun B => by simp [k7, in_str], RS.nxt_nx, e_seq, show ∀ B, k8 [some (.ref r), some (.int at_), some (.int rows), some (.lst wl), some (.str "if"), some (.int x), some (.int y), some (.int z), some (.int (goal : Int)), none, none] B = .nx [some (.ref r), some (.int at_), some (.int rows), some (.lst wl), some (.str "if"), some (.int x), some (.int y), some (.int z), some (.int (goal : Int)), none, none] B from fun B => by simp [k8, in_str], RS.nxt_nx, e_seq, c9, RS.nxt_nx, e_seq, c10, RS.nxt_nx]
      simp [k11, dct_ref, getD2, keyD, lkK, addD, hx]
      try rfl
  · have hd : RW.d ⟨[101, 110, 100], []⟩ = .tup [.str "end"] := by
      rw [e_w_end]
      rfl
    refine ⟨⟨[101, 110, 100], []⟩, A10 ++ [?o_end], ?e_end, h10.app _, ⟨[], by show ([101, 110, 100], []) ∈ forms; decide, .nil⟩⟩
    case e_end =>
      rw [pre, hd, e_seq, show ∀ B, k7 [some (.ref r), some (.int at_), some (.int rows), some (.lst wl), some (.str "end"), some (.int x), some (.int y), some (.int z), some (.int (goal : Int)), none, none] B = .nx [some (.ref r), some (.int at_), some (.int rows), some (.lst wl), some (.str "end"), some (.int x), some (.int y), some (.int z), some (.int (goal : Int)), none, none] B from fun B => by simp [k7, in_str], RS.nxt_nx, e_seq, show ∀ B, k8 [some (.ref r), some (.int at_), some (.int rows), some (.lst wl), some (.str "end"), some (.int x), some (.int y), some (.int z), some (.int (goal : Int)), none, none] B = .nx [some (.ref r), some (.int at_), some (.int rows), some (.lst wl), some (.str "end"), some (.int x), some (.int y), some (.int z), some (.int (goal : Int)), none, none] B from fun B => by simp [k8, in_str], RS.nxt_nx, e_seq, c9, RS.nxt_nx, e_seq, c10, RS.nxt_nx]
      simp [k11, dct_ref, getD2, keyD, lkK, addD, hx]
      try rfl
end K01


set_option Elab.async false
set_option linter.all false
set_option maxRecDepth 100000
set_option maxHeartbeats 4000000
/-! K01U: programs drawn. -/
namespace K01
open PySem Tg L2
open SX (S)
def p1 : MS := (mAsg (mBin addD (mc (.int (1))) (mCall m__law_taken (mCons (mv 0) (mCons (mv 1) mNil)))) (gmN 2))
def p2 : MS := (mAsg (mLc (mRng1 (mCons (mv 2) mNil)) (gmN 4) mYes (mCall m__law_row (mCons (mv 0) (mCons (mv 4) (mCons (mv 2) mNil)))) [4] finF) (gmN 3))
def p3 : MS := (mRet (mCall tupD (mCons (mLc (miAny (mv 3)) (gmN 5) mYes (mIf (mAnd (mTb (mBin eqD (mv 5) (mTup (mCons (mc (.str "end")) mNil)))) (mTb (mBin gtD (mCall m__law_taken (mCons (mv 0) (mCons (mc (.int (4))) mNil))) (mc (.int (0)))))) (mTup (mCons (mc (.str "say")) (mCons (mc (.int (1))) mNil))) (mv 5)) [5] finF) mNil)))
def pT : ME := mCall m__law_row (mCons (mv 0) (mCons (mv 4) (mCons (mv 2) mNil)))
def pU : ME := mIf (mAnd (mTb (mBin eqD (mv 5) (mTup (mCons (mc (.str "end")) mNil)))) (mTb (mBin gtD (mCall m__law_taken (mCons (mv 0) (mCons (mc (.int (4))) mNil))) (mc (.int (0)))))) (mTup (mCons (mc (.str "say")) (mCons (mc (.int (1))) mNil))) (mv 5)
theorem eq_end {rows : Nat} {r : RW} (h : r.Ok rows) {A : AH} : ∃ b, eqD r.d (.tup [.str "end"]) A = .ok (.bl b) A := by
  obtain ⟨f, hf, h2⟩ := h
  refine ⟨feqs (D.str (S r.w) :: r.ps.map PT.d) [.str "end"], eq_tupF ?_⟩
  rw [List.all_cons, okFs h2, Bool.and_true, show Tg.okF (.str (S r.w)) = true from (fm_word _ hf).2.2.2.2.2]
  decide +kernel
theorem prog_made {r : Nat} {ns : List Int} {A : AH} {most : Int} (h : RowAt r ns A) (hm : 0 < most ∧ most ≤ 60) : ∃ (prog : List RW) (A' : AH), m__law_program [.ref r, .int most] A = .ok (.tup (prog.map RW.d)) A' ∧ RowAt r ns A' ∧ (∀ p ∈ prog, p.Ok prog.length) ∧ prog ≠ [] ∧ prog.length ≤ 60 := by
  have e0 : m__law_program [.ref r, .int most] A = finS (b__law_program [some (.ref r), some (.int most), none, none, none, none] A) := rfl
  obtain ⟨w, A1, e1, h1, w1⟩ := takenN most h ⟨by omega, by omega⟩
  have c1 : p1 [some (.ref r), some (.int most), none, none, none, none] A = .nx [some (.ref r), some (.int most), some (.int ((1 + w : Nat) : Int)), none, none, none] A1 := by
    simp [p1, tk, e1]
  have e2 : (mCons (mv 2) mNil) [some (.ref r), some (.int most), some (.int ((1 + w : Nat) : Int)), none, none, none] A1 = .ok [.int ((1 + w : Nat) : Int)] A1 := rfl
  have hw : 1 + w < 16777216 := by omega
  obtain ⟨ys, A2, e3, h2, l2, P2⟩ := lc_gen (g := gmN 4) (tt := mYes) (te := pT) (vs := [4]) (RowAt r ns) (fun d => ∃ p : RW, d = p.d ∧ p.Ok (1 + w)) (rng1 e2 hw) (by rw [List.length_map, List.length_range]; exact hw) h1 (fun d hd B hB => by
    obtain ⟨i, hi, rfl⟩ := List.mem_map.mp hd
    obtain ⟨p, B', e, hB', hp⟩ := row_made (at_ := i) (rows := 1 + w) hB (List.mem_range.mp hi) (by omega)
    exact ⟨_, p.d, B', rfl, rfl, by simp at e; simp [pT, wpD, e], hB', p, rfl, hp⟩)
  rw [List.length_map, List.length_range] at l2
  have c2 : p2 [some (.ref r), some (.int most), some (.int ((1 + w : Nat) : Int)), none, none, none] A1 = .nx [some (.ref r), some (.int most), some (.int ((1 + w : Nat) : Int)), some (.lst ys), none, none] A2 := by
    show (mAsg (mLc (mRng1 (mCons (mv 2) mNil)) (gmN 4) mYes pT [4] finF) (gmN 3)) _ _ = _
    rw [e_asgN, e3]
    rfl
  have e4 : miAny (mv 3) [some (.ref r), some (.int most), some (.int ((1 + w : Nat) : Int)), some (.lst ys), none, none] A2 = .ok (.data ys) A2 := by simp
  obtain ⟨zs, A3, e5, h3, l3, P3⟩ := lc_gen (g := gmN 5) (tt := mYes) (te := pU) (vs := [5]) (RowAt r ns) (fun d => ∃ p : RW, d = p.d ∧ p.Ok (1 + w)) e4 (by omega) h2 (fun d hd B hB => by
    obtain ⟨p, rfl, hp⟩ := P2 d hd
    obtain ⟨b, hE⟩ := eq_end hp (A := B)
    cases b with
    | false => exact ⟨_, p.d, B, rfl, rfl, by simp [pU, wpD, hE], hB, p, rfl, hp⟩
    | true =>
      obtain ⟨v, B', e, hB', v1⟩ := takenN 4 hB ⟨by omega, by omega⟩
      by_cases hv : v = 0
      · exact ⟨_, p.d, B', rfl, rfl, by simp [pU, wpD, hE, tk, e, hv], hB', p, rfl, hp⟩
      · have hv2 : 0 < v := by omega
        have hd : RW.d ⟨[115, 97, 121], [.n 1]⟩ = .tup [.str "say", .int 1] := by
          rw [e_w_say]
          rfl
        exact ⟨_, RW.d ⟨[115, 97, 121], [.n 1]⟩, B', rfl, rfl, by rw [hd]; simp [pU, wpD, hE, tk, e, hv2], hB', ⟨[115, 97, 121], [.n 1]⟩, rfl, ⟨[98], by show ([115, 97, 121], [98]) ∈ forms; decide, .cons (.b (by omega) (by omega)) .nil⟩⟩)
  obtain ⟨prog, rfl, hP⟩ := maps_of P3
  rw [List.length_map] at l3
  have hlen : prog.length = 1 + w := by omega
  have c3 : p3 [some (.ref r), some (.int most), some (.int ((1 + w : Nat) : Int)), some (.lst ys), none, none] A2 = .rt (.tup (prog.map RW.d)) A3 := by
    show (mRet (mCall tupD (mCons (mLc (miAny (mv 3)) (gmN 5) mYes pU [5] finF) mNil))) _ _ = _
    rw [e_ret, e_call, e_cons, e5]
    rfl
  refine ⟨prog, A3, ?_, h3, fun p hp => by rw [hlen]; exact hP p hp, fun q => by rw [q] at hlen; simp at hlen; omega, by omega⟩
  have eb : b__law_program = mSeq p1 (mSeq p2 p3) := rfl
  rw [e0, eb, e_seq, c1, RS.nxt_nx, e_seq, c2, RS.nxt_nx, c3]
  rfl
end K01

set_option Elab.async false
set_option linter.all false
set_option maxRecDepth 100000
set_option maxHeartbeats 4000000
/-! K01R: what need_program refuses; the law's bad rows. -/
namespace K01
open PySem Tg L2
open SX (S)
theorem fl_nx {g : MG} {b : MS} {d : D} {ds : List D} {s s1 s2 : Sl} {A A2 : AH} (h1 : g d s = some s1) (h2 : b s1 A = .nx s2 A2) : forL g b (d :: ds) s A = forL g b ds s2 A2 := by
  conv => lhs; unfold forL
  rw [h1]
  dsimp only
  rw [h2]
theorem fl_x {g : MG} {b : MS} {d : D} {x : XV} {ds : List D} {s s1 s2 : Sl} {A A2 : AH} (h1 : g d s = some s1) (h2 : b s1 A = .exc x s2 A2) : forL g b (d :: ds) s A = .exc x s2 A2 := by
  conv => lhs; unfold forL
  rw [h1]
  dsimp only
  rw [h2]
/-- a loop over numbers that changes nothing so far -/
theorem loop_to {b : MS} {x : Option D} {A : AH} {ys : List D} : ∀ (k k0 : Nat) (o : Option D), (∀ i, k0 ≤ i → i < k0 + k → b [x, some (.int (i : Int))] A = .nx [x, some (.int (i : Int))] A) → ∃ o', forL (gmN 1) b (((List.range' k0 k).map fun i : Nat => D.int (i : Int)) ++ ys) [x, o] A = forL (gmN 1) b ys [x, o'] A
  | 0, k0, o, _ => ⟨o, rfl⟩
  | k + 1, k0, o, h => by
    obtain ⟨o', e⟩ := loop_to (ys := ys) k (k0 + 1) (some (.int (k0 : Int))) fun i h1 h2 => h i (by omega) (by omega)
    refine ⟨o', ?_⟩
    rw [List.range'_succ, List.map_cons, List.cons_append, fl_nx (s1 := [x, some (.int (k0 : Int))]) rfl (h k0 (Nat.le_refl _) (by omega))]
    exact e
theorem range_cut {n k : Nat} (h : k ≤ n) : List.range n = List.range' 0 k ++ List.range' k (n - k) := by
  rw [List.range_eq_range', show n = k + (n - k) by omega, ← List.range'_append]
  simp
/-- a loop over numbers: all well, or the first that raises -/
theorem loop_all {b : MS} {x : Option D} {A : AH} {n : Nat} {o : Option D} (h : ∀ i, i < n → b [x, some (.int (i : Int))] A = .nx [x, some (.int (i : Int))] A) : ∃ o', forL (gmN 1) b ((List.range n).map fun i : Nat => D.int (i : Int)) [x, o] A = .nx [x, o'] A := by
  obtain ⟨o', e⟩ := loop_to (b := b) (x := x) (A := A) (ys := []) n 0 o fun i _ hi => h i (by omega)
  refine ⟨o', ?_⟩
  rw [List.append_nil] at e
  rw [List.range_eq_range']
  exact e
theorem loop_x {b : MS} {x : Option D} {A : AH} {n k : Nat} {o : Option D} {e : XV} {s2 : Sl} (hk : k < n) (h : ∀ i, i < k → b [x, some (.int (i : Int))] A = .nx [x, some (.int (i : Int))] A) (hx : b [x, some (.int (k : Int))] A = .exc e s2 A) : forL (gmN 1) b ((List.range n).map fun i : Nat => D.int (i : Int)) [x, o] A = .exc e s2 A := by
  obtain ⟨o', q⟩ := loop_to (b := b) (x := x) (A := A) (ys := (List.range' k (n - k)).map fun i : Nat => D.int (i : Int)) k 0 o fun i _ hi => h i (by omega)
  rw [range_cut (Nat.le_of_lt hk), List.map_append, q, show n - k = (n - k - 1) + 1 by omega, List.range'_succ, List.map_cons]
  exact fl_x (s1 := [x, some (.int (k : Int))]) rfl hx
def badP (k : Nat) : XV := ⟨"BadProgram", some [("row", .int (k : Int))]⟩
def bN0 : MS := (mIfS (mOr (mNot (mTb (mUn (isiD "tuple") (mv 0)))) (mTb (mBin eqD (mv 0) (mTup mNil)))) (mRaise "BadProgram" "row" (mc (.int (0)))) mNx)
def bNP : MS := (mIfS (mOr (mTb (mBin geD (mv 1) (mc g_MOST_ROWS))) (mNot (mTb (mCall m_is_row (mCons (mBin ixD (mv 0) (mv 1)) (mCons (mCall lenD (mCons (mv 0) mNil)) mNil)))))) (mRaise "BadProgram" "row" (mv 1)) mNx)
theorem np_eq : b_need_program = mSeq bN0 (mFor (mRng1 (mCons (mCall lenD (mCons (mv 0) mNil)) mNil)) (gmN 1) bNP) := rfl
section
variable {ds : List D} {A : AH}
theorem bN0_ok (hC : datCs ds = true) (hd : depL ds ≤ 10) (h0 : ds ≠ []) {o : Option D} : bN0 [some (.tup ds), o] A = .nx [some (.tup ds), o] A := by
  have en : eqD (.tup ds) (.tup []) A = .ok (.bl false) A := eq_tupN hC rfl hd (Nat.zero_le _) (by
    cases ds with
    | nil => exact absurd rfl h0
    | cons d ds => simp)
  simp [bN0, subTy, en]
theorem bNP_ok {i : Nat} {d : D} (hd : ds[i]? = some d) (h60 : i < 60) (hr : m_is_row [d, .int ds.length] A = .ok (.bl true) A) : bNP [some (.tup ds), some (.int (i : Int))] A = .nx [some (.tup ds), some (.int (i : Int))] A := by
  have hq : ixD (.tup ds) (.int (i : Int)) A = .ok d A := ix_tup (atI_ok hd)
  have h60 : ¬ (60 : Int) ≤ i := by omega
  simp only [bNP, e_ifS, e_or, e_tb, e_bin, e_mvS, e_mv0, kB1_0, e_mc, g_MOST_ROWS, kB2_0, o_ge, h60, decide_false, kT_0, kOr_1, e_not, e_call, e_cons, kC1_0, e_nil, kC2_0, hq, len_tup, kCall_0, hr, kN_0, Bool.not_true, kIf_1, e_nx]
theorem bNP_x {i : Nat} {d : D} (hd : ds[i]? = some d) (hr : 60 ≤ i ∨ m_is_row [d, .int ds.length] A = .ok (.bl false) A) : bNP [some (.tup ds), some (.int (i : Int))] A = .exc (badP i) [some (.tup ds), some (.int (i : Int))] A := by
  have hq : ixD (.tup ds) (.int (i : Int)) A = .ok d A := ix_tup (atI_ok hd)
  have e : (mRaise "BadProgram" "row" (mv 1)) [some (.tup ds), some (.int (i : Int))] A = .exc (badP i) [some (.tup ds), some (.int (i : Int))] A := rfl
  by_cases h60 : (60 : Int) ≤ i
  · simp only [bNP, e_ifS, e_or, e_tb, e_bin, e_mvS, e_mv0, kB1_0, e_mc, g_MOST_ROWS, kB2_0, o_ge, h60, decide_true, kT_0, kOr_0, kIf_0, e]
  · have hr := hr.resolve_left (by omega)
    simp only [bNP, e_ifS, e_or, e_tb, e_bin, e_mvS, e_mv0, kB1_0, e_mc, g_MOST_ROWS, kB2_0, o_ge, h60, decide_false, kT_0, kOr_1, e_not, e_call, e_cons, kC1_0, e_nil, kC2_0, hq, len_tup, kCall_0, hr, kN_0, Bool.not_false, kIf_0, e]
theorem np_rng (hl : ds.length < 1000) {o : Option D} : (mRng1 (mCons (mCall lenD (mCons (mv 0) mNil)) mNil)) [some (.tup ds), o] A = .ok (.data ((List.range ds.length).map fun i : Nat => D.int (i : Int))) A := rng1 (j := ds.length) (cons_ok (call_ok (cons_ok rfl rfl) len_tup) rfl) (by omega)
theorem np_ok (hC : datCs ds = true) (hd : depL ds ≤ 10) (h0 : ds ≠ []) (hl : ds.length ≤ 60) (h : ∀ (i : Nat) (d : D), ds[i]? = some d → m_is_row [d, .int ds.length] A = .ok (.bl true) A) : m_need_program [.tup ds] A = .ok .non A := by
  have e0 : m_need_program [.tup ds] A = finS (b_need_program [some (.tup ds), none] A) := rfl
  obtain ⟨o', e⟩ := loop_all (b := bNP) (x := some (.tup ds)) (A := A) (n := ds.length) (o := none) fun i hi => bNP_ok (List.getElem?_eq_getElem hi) (by omega) (h i _ (List.getElem?_eq_getElem hi))
  rw [e0, np_eq, e_seq, bN0_ok hC hd h0, RS.nxt_nx, mFor_data (np_rng (by omega)), e]
  rfl
theorem np_x {k : Nat} {d : D} (hC : datCs ds = true) (hd : depL ds ≤ 10) (hl : ds.length < 1000) (hk : ds[k]? = some d) (h : ∀ (i : Nat) (d : D), i < k → ds[i]? = some d → i < 60 ∧ m_is_row [d, .int ds.length] A = .ok (.bl true) A) (hx : 60 ≤ k ∨ m_is_row [d, .int ds.length] A = .ok (.bl false) A) : m_need_program [.tup ds] A = .exc (badP k) A := by
  have e0 : m_need_program [.tup ds] A = finS (b_need_program [some (.tup ds), none] A) := rfl
  have hkl := (List.getElem?_eq_some_iff.mp hk).1
  have h0 : ds ≠ [] := fun z => by rw [z] at hkl; simp at hkl
  have e := loop_x (b := bNP) (x := some (.tup ds)) (A := A) (n := ds.length) (o := none) hkl (fun i hi => by
    have hil : i < ds.length := by omega
    obtain ⟨a, b⟩ := h i _ hi (List.getElem?_eq_getElem hil)
    exact bNP_ok (List.getElem?_eq_getElem hil) a b) (bNP_x hk hx)
  rw [e0, np_eq, e_seq, bN0_ok hC hd h0, RS.nxt_nx, mFor_data (np_rng hl), e]
  rfl
theorem np_nil : m_need_program [.tup []] A = .exc (badP 0) A := by
  have e0 : m_need_program [.tup []] A = finS (b_need_program [some (.tup []), none] A) := rfl
  have en : eqD (.tup []) (.tup []) A = .ok (.bl true) A := eq_tupC rfl (Nat.zero_le _)
  have e1 : bN0 [some (.tup []), none] A = .exc (badP 0) [some (.tup []), none] A := by
    have e : (mRaise "BadProgram" "row" (mc (.int 0))) [some (.tup []), none] A = .exc (badP 0) [some (.tup []), none] A := rfl
    simp [bN0, subTy, en, e]
  rw [e0, np_eq, e_seq, e1]
  rfl
end
def bd1 : MS := (mAsg (mBin ixD (mLst (mCons (mc (.int (0))) (mCons (mCall m__law_taken (mCons (mv 0) (mCons (mBin powD (mc (.int (10))) (mc (.int (6)))) mNil))) mNil))) (mCall m__law_taken (mCons (mv 0) (mCons (mc (.int (2))) mNil)))) (gmN 2))
def bd2 : MS := (mAsg (mLstN (mCons (mTup (mCons (mc (.str "put")) (mCons (mBin addD (mc (.int (8))) (mv 2)) (mCons (mc (.int (1))) mNil)))) (mCons (mTup (mCons (mc (.str "put")) (mCons (mBin subD (mc (.int (0))) (mc (.int (1)))) (mCons (mc (.int (1))) mNil)))) (mCons (mTup (mCons (mc (.str "put")) (mCons (mc (.int (0))) (mCons (mBin addD (mc (.int (10000))) (mv 2)) mNil)))) (mCons (mTup (mCons (mc (.str "put")) (mCons (mc (.int (0))) (mCons (mBin subD (mBin subD (mc (.int (0))) (mc (.int (10001)))) (mv 2)) mNil)))) (mCons (mTup (mCons (mc (.str "put")) (mCons (mc (.int (0))) mNil))) mNil)))))) (gmN 3))
def bd3 : MS := (mDrop (mMt "list" appD (mv 3) (mCons (mTup mNil) mNil)))
def bd4 : MS := (mAsg (mBin addD (mv 3) (mLst (mCons (mTup (mCons (mc (.str "add")) (mCons (mc (.int (0))) (mCons (mc (.int (1))) mNil)))) (mCons (mTup (mCons (mc (.str "add")) (mCons (mc (.int (0))) (mCons (mc (.int (1))) (mCons (mBin addD (mc (.int (8))) (mv 2)) mNil))))) (mCons (mTup (mCons (mc (.str "add")) (mCons (mc (.int (0))) (mCons (mc (.int (1))) (mCons (mc (.int (2))) (mCons (mc (.int (3))) mNil)))))) (mCons (mTup (mCons (mc (.str "get")) (mCons (mc (.int (0))) (mCons (mc (.int (1))) (mCons (mBin addD (mc (.int (64))) (mv 2)) mNil))))) (mCons (mTup (mCons (mc (.str "end")) (mCons (mc (.int (0))) mNil))) mNil))))))) (gmN 3))
def bd5 : MS := (mAsg (mBin addN (mv 3) (mLst (mCons (mTup (mCons (mc (.str "get")) (mCons (mc (.int (0))) (mCons (mc (.int (1))) (mCons (mBin subD (mc (.int (0))) (mc (.int (64)))) mNil))))) (mCons (mTup (mCons (mc (.str "set")) (mCons (mc (.int (0))) (mCons (mc (.int (64))) (mCons (mc (.int (1))) mNil))))) (mCons (mTup (mCons (mc (.str "set")) (mCons (mc (.int (0))) (mCons (mc (.int (1))) (mCons (mc (.int (8))) mNil))))) (mCons (mTup (mCons (mc (.str "fewer")) (mCons (mc (.int (0))) (mCons (mc (.int (1))) (mCons (mc (.str "hg")) mNil))))) mNil)))))) (gmN 3))
def bd6 : MS := (mDrop (mMt "list" appD (mv 3) (mCons (mTup (mCons (mc (.str "fewer")) (mCons (mc (.int (0))) (mCons (mc (.int (1))) (mCons (mc (.str "gg")) mNil))))) mNil)))
def bd7 : MS := (mAsg (mBin addD (mv 3) (mLst (mCons (mTup (mCons (mc (.str "fewer")) (mCons (mc (.int (0))) (mCons (mc (.int (1))) (mCons (mc (.str "x")) mNil))))) (mCons (mTup (mCons (mc (.str "fewer")) (mCons (mc (.int (0))) (mCons (mc (.int (1))) (mCons (mc (.int (0))) mNil))))) (mCons (mTup (mCons (mc (.str "gate")) (mCons (mc (.int (0))) (mCons (mc (.int (1))) (mCons (mBin addD (mBin addD (mv 1) (mc (.int (1)))) (mv 2)) mNil))))) (mCons (mTup (mCons (mc (.str "gate")) (mCons (mc (.int (0))) (mCons (mc (.int (1))) (mCons (mBin subD (mc (.int (0))) (mc (.int (1)))) mNil))))) mNil)))))) (gmN 3))
def bd8 : MS := (mAsg (mBin addD (mv 3) (mLst (mCons (mTup (mCons (mc (.str "go")) (mCons (mBin addD (mv 1) (mv 2)) mNil))) (mCons (mTup (mCons (mc (.str "go")) (mCons (mBin subD (mc (.int (0))) (mc (.int (1)))) mNil))) (mCons (mTup (mCons (mc (.str "if")) (mCons (mc (.int (8))) (mCons (mc (.int (0))) mNil)))) (mCons (mTup (mCons (mc (.str "if")) (mCons (mc (.int (0))) (mCons (mv 1) mNil)))) (mCons (mTup (mCons (mc (.str "say")) (mCons (mc (.bl true)) mNil))) (mCons (mTup (mCons (mc (.str "Put")) (mCons (mc (.int (0))) (mCons (mc (.int (1))) mNil)))) mNil)))))))) (gmN 3))
def bd9 : MS := (mAsg (mBin addD (mv 3) (mLst (mCons (mTup (mCons (mc (.str "room")) mNil)) (mCons (mTup (mCons (mc (.str "move")) (mCons (mc (.int (0))) (mCons (mTup (mCons (mc (.int (1))) mNil)) mNil)))) (mCons (mTup (mCons (mc (.int (1))) (mCons (mc (.int (2))) mNil))) (mCons (mTup (mCons (mc (.str "set")) (mCons (mc (.int (0))) (mCons (mc (.str "1")) (mCons (mc (.int (1))) mNil))))) (mCons (mTup (mCons (mc (.str "enter")) (mCons (mc (.int (0))) (mCons (mc (.int (0))) mNil)))) (mCons (mc (.int (7))) (mCons (mc (.str "end")) mNil))))))))) (gmN 3))
def bd10 : MS := (mRet (mBin ixD (mv 3) (mCall m__law_taken (mCons (mv 0) (mCons (mc (.int (33))) mNil)))))
def L5 (far many : Nat) : List D := [.tup [.str "put", .int (8 + (far : Int)), .int (1)], .tup [.str "put", .int (0 - 1), .int (1)], .tup [.str "put", .int (0), .int (10000 + (far : Int))], .tup [.str "put", .int (0), .int (0 - 10001 - (far : Int))], .tup [.str "put", .int (0)]]
def L6 (far many : Nat) : List D := L5 far many ++ [.tup []]
def L11 (far many : Nat) : List D := L6 far many ++ [.tup [.str "add", .int (0), .int (1)], .tup [.str "add", .int (0), .int (1), .int (8 + (far : Int))], .tup [.str "add", .int (0), .int (1), .int (2), .int (3)], .tup [.str "get", .int (0), .int (1), .int (64 + (far : Int))], .tup [.str "end", .int (0)]]
def L15 (far many : Nat) : List D := L11 far many ++ [.tup [.str "get", .int (0), .int (1), .int (0 - 64)], .tup [.str "set", .int (0), .int (64), .int (1)], .tup [.str "set", .int (0), .int (1), .int (8)], .tup [.str "fewer", .int (0), .int (1), .str "hg"]]
def L16 (far many : Nat) : List D := L15 far many ++ [.tup [.str "fewer", .int (0), .int (1), .str "gg"]]
def L20 (far many : Nat) : List D := L16 far many ++ [.tup [.str "fewer", .int (0), .int (1), .str "x"], .tup [.str "fewer", .int (0), .int (1), .int (0)], .tup [.str "gate", .int (0), .int (1), .int ((many : Int) + 1 + (far : Int))], .tup [.str "gate", .int (0), .int (1), .int (0 - 1)]]
def L26 (far many : Nat) : List D := L20 far many ++ [.tup [.str "go", .int ((many : Int) + (far : Int))], .tup [.str "go", .int (0 - 1)], .tup [.str "if", .int (8), .int (0)], .tup [.str "if", .int (0), .int ((many : Int))], .tup [.str "say", .bl true], .tup [.str "Put", .int (0), .int (1)]]
def L33 (far many : Nat) : List D := L26 far many ++ [.tup [.str "room"], .tup [.str "move", .int (0), .tup [.int 1]], .tup [.int 1, .int 2], .tup [.str "set", .int (0), .str "1", .int (1)], .tup [.str "enter", .int (0), .int (0)], .int 7, .str "end"]
/-- no row of a program of so many -/
structure BadR (many : Nat) (d : D) : Prop where
  c : datC d = true
  dp : depD d ≤ 2
  no : ∀ A, m_is_row [d, .int (many : Int)] A = .ok (.bl false) A
theorem bad_form {many : Nat} {w f : List Nat} {ds : List D} (hf : forms.lookup w = some f) (hp : ∀ d ∈ ds, Pk d) (hl : ds.length ≤ 100) (hr : rowB f ds many = false) : BadR many (.tup (.str (S w) :: ds)) := by
  obtain ⟨c, d⟩ := pks_C hp
  have w6 := (fm_word _ (form_mem hf)).2.2.2.2.2
  refine ⟨?_, by simp only [depD, depL]; omega, fun A => by rw [row_gen hf hp hl, hr]⟩
  simp only [datC, datCs, Bool.and_eq_true]
  exact ⟨w6, c⟩
theorem e_b_hg : Str.ofString "hg" = S [104, 103] := by decide
theorem e_b_gg : Str.ofString "gg" = S [103, 103] := by decide
theorem e_b_x : Str.ofString "x" = S [120] := by decide
theorem e_b_1 : Str.ofString "1" = S [49] := by decide
theorem e_b_Put : Str.ofString "Put" = S [80, 117, 116] := by decide
theorem bad0 (far many : Nat) : BadR many (.tup [.str "put", .int (8 + (far : Int)), .int (1)]) := by
  rw [e_w_put]
  refine bad_form (w := [112, 117, 116]) (f := [98, 110]) rfl (fun d hd => by
    simp only [List.mem_cons, List.not_mem_nil, or_false] at hd
    rcases hd with rfl | rfl <;> first | exact .int _ | exact .bl _ | exact .one | (rw [e_b_hg]; exact .str _ (by decide +kernel)) | (rw [e_b_gg]; exact .str _ (by decide +kernel)) | (rw [e_b_x]; exact .str _ (by decide +kernel)) | (rw [e_b_1]; exact .str _ (by decide +kernel))) (by simp) ?_
  unfold rowB
  simp [List.range_succ, badAt, partB, inR, isT, lowP, highP]
  try omega
theorem bad1 (far many : Nat) : BadR many (.tup [.str "put", .int (0 - 1), .int (1)]) := by
  rw [e_w_put]
  refine bad_form (w := [112, 117, 116]) (f := [98, 110]) rfl (fun d hd => by
    simp only [List.mem_cons, List.not_mem_nil, or_false] at hd
    rcases hd with rfl | rfl <;> first | exact .int _ | exact .bl _ | exact .one | (rw [e_b_hg]; exact .str _ (by decide +kernel)) | (rw [e_b_gg]; exact .str _ (by decide +kernel)) | (rw [e_b_x]; exact .str _ (by decide +kernel)) | (rw [e_b_1]; exact .str _ (by decide +kernel))) (by simp) ?_
  unfold rowB
  simp [List.range_succ, badAt, partB, inR, isT, lowP, highP]
  try omega
theorem bad2 (far many : Nat) : BadR many (.tup [.str "put", .int (0), .int (10000 + (far : Int))]) := by
  rw [e_w_put]
  refine bad_form (w := [112, 117, 116]) (f := [98, 110]) rfl (fun d hd => by
    simp only [List.mem_cons, List.not_mem_nil, or_false] at hd
    rcases hd with rfl | rfl <;> first | exact .int _ | exact .bl _ | exact .one | (rw [e_b_hg]; exact .str _ (by decide +kernel)) | (rw [e_b_gg]; exact .str _ (by decide +kernel)) | (rw [e_b_x]; exact .str _ (by decide +kernel)) | (rw [e_b_1]; exact .str _ (by decide +kernel))) (by simp) ?_
  unfold rowB
  simp [List.range_succ, badAt, partB, inR, isT, lowP, highP]
  try omega
theorem bad3 (far many : Nat) : BadR many (.tup [.str "put", .int (0), .int (0 - 10001 - (far : Int))]) := by
  rw [e_w_put]
  refine bad_form (w := [112, 117, 116]) (f := [98, 110]) rfl (fun d hd => by
    simp only [List.mem_cons, List.not_mem_nil, or_false] at hd
    rcases hd with rfl | rfl <;> first | exact .int _ | exact .bl _ | exact .one | (rw [e_b_hg]; exact .str _ (by decide +kernel)) | (rw [e_b_gg]; exact .str _ (by decide +kernel)) | (rw [e_b_x]; exact .str _ (by decide +kernel)) | (rw [e_b_1]; exact .str _ (by decide +kernel))) (by simp) ?_
  unfold rowB
  simp [List.range_succ, badAt, partB, inR, isT, lowP, highP]
  try omega
theorem bad4 (far many : Nat) : BadR many (.tup [.str "put", .int (0)]) := by
  rw [e_w_put]
  refine bad_form (w := [112, 117, 116]) (f := [98, 110]) rfl (fun d hd => by
    simp only [List.mem_cons, List.not_mem_nil, or_false] at hd
    rcases hd with rfl <;> first | exact .int _ | exact .bl _ | exact .one | (rw [e_b_hg]; exact .str _ (by decide +kernel)) | (rw [e_b_gg]; exact .str _ (by decide +kernel)) | (rw [e_b_x]; exact .str _ (by decide +kernel)) | (rw [e_b_1]; exact .str _ (by decide +kernel))) (by simp) ?_
  unfold rowB
  simp [List.range_succ, badAt, partB, inR, isT, lowP, highP]
  try omega
theorem bad5 (far many : Nat) : BadR many (.tup []) := by
  refine ⟨rfl, by simp [depD, depL], fun A => ?_⟩
  have e0 : m_is_row [.tup [], .int (many : Int)] A = finS (mSeq q1 (mSeq q2 (mSeq q3 (mRet (mBin eqD qL (mLst mNil))))) [some (.tup []), some (.int (many : Int)), none, none] A) := rfl
  have en : eqD (.tup []) (.tup []) A = .ok (.bl true) A := eq_tupC rfl (Nat.zero_le _)
  have c1 : q1 [some (.tup []), some (.int (many : Int)), none, none] A = .rt (.bl false) A := by
    simp [q1, subTy, en]
  rw [e0, e_seq, c1]
  rfl
theorem bad6 (far many : Nat) : BadR many (.tup [.str "add", .int (0), .int (1)]) := by
  rw [e_w_add]
  refine bad_form (w := [97, 100, 100]) (f := [98, 98, 98]) rfl (fun d hd => by
    simp only [List.mem_cons, List.not_mem_nil, or_false] at hd
    rcases hd with rfl | rfl <;> first | exact .int _ | exact .bl _ | exact .one | (rw [e_b_hg]; exact .str _ (by decide +kernel)) | (rw [e_b_gg]; exact .str _ (by decide +kernel)) | (rw [e_b_x]; exact .str _ (by decide +kernel)) | (rw [e_b_1]; exact .str _ (by decide +kernel))) (by simp) ?_
  unfold rowB
  simp [List.range_succ, badAt, partB, inR, isT, lowP, highP]
  try omega
theorem bad7 (far many : Nat) : BadR many (.tup [.str "add", .int (0), .int (1), .int (8 + (far : Int))]) := by
  rw [e_w_add]
  refine bad_form (w := [97, 100, 100]) (f := [98, 98, 98]) rfl (fun d hd => by
    simp only [List.mem_cons, List.not_mem_nil, or_false] at hd
    rcases hd with rfl | rfl | rfl <;> first | exact .int _ | exact .bl _ | exact .one | (rw [e_b_hg]; exact .str _ (by decide +kernel)) | (rw [e_b_gg]; exact .str _ (by decide +kernel)) | (rw [e_b_x]; exact .str _ (by decide +kernel)) | (rw [e_b_1]; exact .str _ (by decide +kernel))) (by simp) ?_
  unfold rowB
  simp [List.range_succ, badAt, partB, inR, isT, lowP, highP]
  try omega
theorem bad8 (far many : Nat) : BadR many (.tup [.str "add", .int (0), .int (1), .int (2), .int (3)]) := by
  rw [e_w_add]
  refine bad_form (w := [97, 100, 100]) (f := [98, 98, 98]) rfl (fun d hd => by
    simp only [List.mem_cons, List.not_mem_nil, or_false] at hd
    rcases hd with rfl | rfl | rfl | rfl <;> first | exact .int _ | exact .bl _ | exact .one | (rw [e_b_hg]; exact .str _ (by decide +kernel)) | (rw [e_b_gg]; exact .str _ (by decide +kernel)) | (rw [e_b_x]; exact .str _ (by decide +kernel)) | (rw [e_b_1]; exact .str _ (by decide +kernel))) (by simp) ?_
  unfold rowB
  simp [List.range_succ, badAt, partB, inR, isT, lowP, highP]
  try omega
theorem bad9 (far many : Nat) : BadR many (.tup [.str "get", .int (0), .int (1), .int (64 + (far : Int))]) := by
  rw [e_w_get]
  refine bad_form (w := [103, 101, 116]) (f := [98, 98, 111]) rfl (fun d hd => by
    simp only [List.mem_cons, List.not_mem_nil, or_false] at hd
    rcases hd with rfl | rfl | rfl <;> first | exact .int _ | exact .bl _ | exact .one | (rw [e_b_hg]; exact .str _ (by decide +kernel)) | (rw [e_b_gg]; exact .str _ (by decide +kernel)) | (rw [e_b_x]; exact .str _ (by decide +kernel)) | (rw [e_b_1]; exact .str _ (by decide +kernel))) (by simp) ?_
  unfold rowB
  simp [List.range_succ, badAt, partB, inR, isT, lowP, highP]
  try omega
theorem bad10 (far many : Nat) : BadR many (.tup [.str "end", .int (0)]) := by
  rw [e_w_end]
  refine bad_form (w := [101, 110, 100]) (f := []) rfl (fun d hd => by
    simp only [List.mem_cons, List.not_mem_nil, or_false] at hd
    rcases hd with rfl <;> first | exact .int _ | exact .bl _ | exact .one | (rw [e_b_hg]; exact .str _ (by decide +kernel)) | (rw [e_b_gg]; exact .str _ (by decide +kernel)) | (rw [e_b_x]; exact .str _ (by decide +kernel)) | (rw [e_b_1]; exact .str _ (by decide +kernel))) (by simp) ?_
  unfold rowB
  simp [List.range_succ, badAt, partB, inR, isT, lowP, highP]
  try omega
theorem bad11 (far many : Nat) : BadR many (.tup [.str "get", .int (0), .int (1), .int (0 - 64)]) := by
  rw [e_w_get]
  refine bad_form (w := [103, 101, 116]) (f := [98, 98, 111]) rfl (fun d hd => by
    simp only [List.mem_cons, List.not_mem_nil, or_false] at hd
    rcases hd with rfl | rfl | rfl <;> first | exact .int _ | exact .bl _ | exact .one | (rw [e_b_hg]; exact .str _ (by decide +kernel)) | (rw [e_b_gg]; exact .str _ (by decide +kernel)) | (rw [e_b_x]; exact .str _ (by decide +kernel)) | (rw [e_b_1]; exact .str _ (by decide +kernel))) (by simp) ?_
  unfold rowB
  simp [List.range_succ, badAt, partB, inR, isT, lowP, highP]
  try omega
theorem bad12 (far many : Nat) : BadR many (.tup [.str "set", .int (0), .int (64), .int (1)]) := by
  rw [e_w_set]
  refine bad_form (w := [115, 101, 116]) (f := [98, 111, 98]) rfl (fun d hd => by
    simp only [List.mem_cons, List.not_mem_nil, or_false] at hd
    rcases hd with rfl | rfl | rfl <;> first | exact .int _ | exact .bl _ | exact .one | (rw [e_b_hg]; exact .str _ (by decide +kernel)) | (rw [e_b_gg]; exact .str _ (by decide +kernel)) | (rw [e_b_x]; exact .str _ (by decide +kernel)) | (rw [e_b_1]; exact .str _ (by decide +kernel))) (by simp) ?_
  unfold rowB
  simp [List.range_succ, badAt, partB, inR, isT, lowP, highP]
  try omega
theorem bad13 (far many : Nat) : BadR many (.tup [.str "set", .int (0), .int (1), .int (8)]) := by
  rw [e_w_set]
  refine bad_form (w := [115, 101, 116]) (f := [98, 111, 98]) rfl (fun d hd => by
    simp only [List.mem_cons, List.not_mem_nil, or_false] at hd
    rcases hd with rfl | rfl | rfl <;> first | exact .int _ | exact .bl _ | exact .one | (rw [e_b_hg]; exact .str _ (by decide +kernel)) | (rw [e_b_gg]; exact .str _ (by decide +kernel)) | (rw [e_b_x]; exact .str _ (by decide +kernel)) | (rw [e_b_1]; exact .str _ (by decide +kernel))) (by simp) ?_
  unfold rowB
  simp [List.range_succ, badAt, partB, inR, isT, lowP, highP]
  try omega
theorem bad14 (far many : Nat) : BadR many (.tup [.str "fewer", .int (0), .int (1), .str "hg"]) := by
  rw [e_w_fewer]
  refine bad_form (w := [102, 101, 119, 101, 114]) (f := [98, 98, 116]) rfl (fun d hd => by
    simp only [List.mem_cons, List.not_mem_nil, or_false] at hd
    rcases hd with rfl | rfl | rfl <;> first | exact .int _ | exact .bl _ | exact .one | (rw [e_b_hg]; exact .str _ (by decide +kernel)) | (rw [e_b_gg]; exact .str _ (by decide +kernel)) | (rw [e_b_x]; exact .str _ (by decide +kernel)) | (rw [e_b_1]; exact .str _ (by decide +kernel))) (by simp) ?_
  unfold rowB
  simp [List.range_succ, badAt, partB, inR, isT, lowP, highP, e_b_hg, S, rts]
  try omega
theorem bad15 (far many : Nat) : BadR many (.tup [.str "fewer", .int (0), .int (1), .str "gg"]) := by
  rw [e_w_fewer]
  refine bad_form (w := [102, 101, 119, 101, 114]) (f := [98, 98, 116]) rfl (fun d hd => by
    simp only [List.mem_cons, List.not_mem_nil, or_false] at hd
    rcases hd with rfl | rfl | rfl <;> first | exact .int _ | exact .bl _ | exact .one | (rw [e_b_hg]; exact .str _ (by decide +kernel)) | (rw [e_b_gg]; exact .str _ (by decide +kernel)) | (rw [e_b_x]; exact .str _ (by decide +kernel)) | (rw [e_b_1]; exact .str _ (by decide +kernel))) (by simp) ?_
  unfold rowB
  simp [List.range_succ, badAt, partB, inR, isT, lowP, highP, e_b_gg, S, rts]
  try omega
theorem bad16 (far many : Nat) : BadR many (.tup [.str "fewer", .int (0), .int (1), .str "x"]) := by
  rw [e_w_fewer]
  refine bad_form (w := [102, 101, 119, 101, 114]) (f := [98, 98, 116]) rfl (fun d hd => by
    simp only [List.mem_cons, List.not_mem_nil, or_false] at hd
    rcases hd with rfl | rfl | rfl <;> first | exact .int _ | exact .bl _ | exact .one | (rw [e_b_hg]; exact .str _ (by decide +kernel)) | (rw [e_b_gg]; exact .str _ (by decide +kernel)) | (rw [e_b_x]; exact .str _ (by decide +kernel)) | (rw [e_b_1]; exact .str _ (by decide +kernel))) (by simp) ?_
  unfold rowB
  simp [List.range_succ, badAt, partB, inR, isT, lowP, highP, e_b_x, S, rts]
  try omega
theorem bad17 (far many : Nat) : BadR many (.tup [.str "fewer", .int (0), .int (1), .int (0)]) := by
  rw [e_w_fewer]
  refine bad_form (w := [102, 101, 119, 101, 114]) (f := [98, 98, 116]) rfl (fun d hd => by
    simp only [List.mem_cons, List.not_mem_nil, or_false] at hd
    rcases hd with rfl | rfl | rfl <;> first | exact .int _ | exact .bl _ | exact .one | (rw [e_b_hg]; exact .str _ (by decide +kernel)) | (rw [e_b_gg]; exact .str _ (by decide +kernel)) | (rw [e_b_x]; exact .str _ (by decide +kernel)) | (rw [e_b_1]; exact .str _ (by decide +kernel))) (by simp) ?_
  unfold rowB
  simp [List.range_succ, badAt, partB, inR, isT, lowP, highP]
  try omega
theorem bad18 (far many : Nat) : BadR many (.tup [.str "gate", .int (0), .int (1), .int ((many : Int) + 1 + (far : Int))]) := by
  rw [e_w_gate]
  refine bad_form (w := [103, 97, 116, 101]) (f := [98, 98, 103]) rfl (fun d hd => by
    simp only [List.mem_cons, List.not_mem_nil, or_false] at hd
    rcases hd with rfl | rfl | rfl <;> first | exact .int _ | exact .bl _ | exact .one | (rw [e_b_hg]; exact .str _ (by decide +kernel)) | (rw [e_b_gg]; exact .str _ (by decide +kernel)) | (rw [e_b_x]; exact .str _ (by decide +kernel)) | (rw [e_b_1]; exact .str _ (by decide +kernel))) (by simp) ?_
  unfold rowB
  simp [List.range_succ, badAt, partB, inR, isT, lowP, highP]
  try omega
theorem bad19 (far many : Nat) : BadR many (.tup [.str "gate", .int (0), .int (1), .int (0 - 1)]) := by
  rw [e_w_gate]
  refine bad_form (w := [103, 97, 116, 101]) (f := [98, 98, 103]) rfl (fun d hd => by
    simp only [List.mem_cons, List.not_mem_nil, or_false] at hd
    rcases hd with rfl | rfl | rfl <;> first | exact .int _ | exact .bl _ | exact .one | (rw [e_b_hg]; exact .str _ (by decide +kernel)) | (rw [e_b_gg]; exact .str _ (by decide +kernel)) | (rw [e_b_x]; exact .str _ (by decide +kernel)) | (rw [e_b_1]; exact .str _ (by decide +kernel))) (by simp) ?_
  unfold rowB
  simp [List.range_succ, badAt, partB, inR, isT, lowP, highP]
  try omega
theorem bad20 (far many : Nat) : BadR many (.tup [.str "go", .int ((many : Int) + (far : Int))]) := by
  rw [e_w_go]
  refine bad_form (w := [103, 111]) (f := [114]) rfl (fun d hd => by
    simp only [List.mem_cons, List.not_mem_nil, or_false] at hd
    rcases hd with rfl <;> first | exact .int _ | exact .bl _ | exact .one | (rw [e_b_hg]; exact .str _ (by decide +kernel)) | (rw [e_b_gg]; exact .str _ (by decide +kernel)) | (rw [e_b_x]; exact .str _ (by decide +kernel)) | (rw [e_b_1]; exact .str _ (by decide +kernel))) (by simp) ?_
  unfold rowB
  simp [List.range_succ, badAt, partB, inR, isT, lowP, highP]
  try omega
theorem bad21 (far many : Nat) : BadR many (.tup [.str "go", .int (0 - 1)]) := by
  rw [e_w_go]
  refine bad_form (w := [103, 111]) (f := [114]) rfl (fun d hd => by
    simp only [List.mem_cons, List.not_mem_nil, or_false] at hd
    rcases hd with rfl <;> first | exact .int _ | exact .bl _ | exact .one | (rw [e_b_hg]; exact .str _ (by decide +kernel)) | (rw [e_b_gg]; exact .str _ (by decide +kernel)) | (rw [e_b_x]; exact .str _ (by decide +kernel)) | (rw [e_b_1]; exact .str _ (by decide +kernel))) (by simp) ?_
  unfold rowB
  simp [List.range_succ, badAt, partB, inR, isT, lowP, highP]
  try omega
theorem bad22 (far many : Nat) : BadR many (.tup [.str "if", .int (8), .int (0)]) := by
  rw [e_w_if]
  refine bad_form (w := [105, 102]) (f := [98, 114]) rfl (fun d hd => by
    simp only [List.mem_cons, List.not_mem_nil, or_false] at hd
    rcases hd with rfl | rfl <;> first | exact .int _ | exact .bl _ | exact .one | (rw [e_b_hg]; exact .str _ (by decide +kernel)) | (rw [e_b_gg]; exact .str _ (by decide +kernel)) | (rw [e_b_x]; exact .str _ (by decide +kernel)) | (rw [e_b_1]; exact .str _ (by decide +kernel))) (by simp) ?_
  unfold rowB
  simp [List.range_succ, badAt, partB, inR, isT, lowP, highP]
  try omega
theorem bad23 (far many : Nat) : BadR many (.tup [.str "if", .int (0), .int ((many : Int))]) := by
  rw [e_w_if]
  refine bad_form (w := [105, 102]) (f := [98, 114]) rfl (fun d hd => by
    simp only [List.mem_cons, List.not_mem_nil, or_false] at hd
    rcases hd with rfl | rfl <;> first | exact .int _ | exact .bl _ | exact .one | (rw [e_b_hg]; exact .str _ (by decide +kernel)) | (rw [e_b_gg]; exact .str _ (by decide +kernel)) | (rw [e_b_x]; exact .str _ (by decide +kernel)) | (rw [e_b_1]; exact .str _ (by decide +kernel))) (by simp) ?_
  unfold rowB
  simp [List.range_succ, badAt, partB, inR, isT, lowP, highP]
  try omega
theorem bad24 (far many : Nat) : BadR many (.tup [.str "say", .bl true]) := by
  rw [e_w_say]
  refine bad_form (w := [115, 97, 121]) (f := [98]) rfl (fun d hd => by
    simp only [List.mem_cons, List.not_mem_nil, or_false] at hd
    rcases hd with rfl <;> first | exact .int _ | exact .bl _ | exact .one | (rw [e_b_hg]; exact .str _ (by decide +kernel)) | (rw [e_b_gg]; exact .str _ (by decide +kernel)) | (rw [e_b_x]; exact .str _ (by decide +kernel)) | (rw [e_b_1]; exact .str _ (by decide +kernel))) (by simp) ?_
  unfold rowB
  simp [List.range_succ, badAt, partB, inR, isT, lowP, highP]
  try omega
theorem bad25 (far many : Nat) : BadR many (.tup [.str "Put", .int (0), .int (1)]) := by
  rw [e_b_Put]
  refine ⟨by simp [datC, datCs]; decide +kernel, by simp [depD, depL], fun A => ?_⟩
  have e0 : m_is_row [.tup [.str (S [80, 117, 116]), .int 0, .int 1], .int (many : Int)] A = finS (mSeq q1 (mSeq q2 (mSeq q3 (mRet (mBin eqD qL (mLst mNil))))) [some (.tup [.str (S [80, 117, 116]), .int 0, .int 1]), some (.int (many : Int)), none, none] A) := rfl
  have en : eqD (.tup [.str (S [80, 117, 116]), .int 0, .int 1]) (.tup []) A = .ok (.bl false) A := eq_tupN (by simp [datC, datCs]; decide +kernel) rfl (by simp [depL, depD]) (Nat.zero_le _) (by simp)
  have hl : tb_FORMS.lookup (S [80, 117, 116]) = none := by decide +kernel
  have c1 : q1 [some (.tup [.str (S [80, 117, 116]), .int 0, .int 1]), some (.int (many : Int)), none, none] A = .rt (.bl false) A := by
    simp [q1, subTy, en, kninD, hl]
  rw [e0, e_seq, c1]
  rfl
theorem bad26 (far many : Nat) : BadR many (.tup [.str "room"]) := by
  rw [e_w_room]
  refine bad_form (w := [114, 111, 111, 109]) (f := [98]) rfl (fun d hd => absurd hd List.not_mem_nil) (by simp) ?_
  unfold rowB
  simp [List.range_succ, badAt, partB, inR, isT, lowP, highP]
  try omega
theorem bad27 (far many : Nat) : BadR many (.tup [.str "move", .int (0), .tup [.int 1]]) := by
  rw [e_w_move]
  refine bad_form (w := [109, 111, 118, 101]) (f := [98, 98]) rfl (fun d hd => by
    simp only [List.mem_cons, List.not_mem_nil, or_false] at hd
    rcases hd with rfl | rfl <;> first | exact .int _ | exact .bl _ | exact .one | (rw [e_b_hg]; exact .str _ (by decide +kernel)) | (rw [e_b_gg]; exact .str _ (by decide +kernel)) | (rw [e_b_x]; exact .str _ (by decide +kernel)) | (rw [e_b_1]; exact .str _ (by decide +kernel))) (by simp) ?_
  unfold rowB
  simp [List.range_succ, badAt, partB, inR, isT, lowP, highP]
  try omega
theorem bad28 (far many : Nat) : BadR many (.tup [.int 1, .int 2]) := by
  refine ⟨rfl, by simp [depD, depL], fun A => ?_⟩
  have e0 : m_is_row [.tup [.int 1, .int 2], .int (many : Int)] A = finS (mSeq q1 (mSeq q2 (mSeq q3 (mRet (mBin eqD qL (mLst mNil))))) [some (.tup [.int 1, .int 2]), some (.int (many : Int)), none, none] A) := rfl
  have en : eqD (.tup [.int 1, .int 2]) (.tup []) A = .ok (.bl false) A := eq_tupN rfl rfl (by simp [depL, depD]) (Nat.zero_le _) (by simp)
  have c1 : q1 [some (.tup [.int 1, .int 2]), some (.int (many : Int)), none, none] A = .rt (.bl false) A := by
    simp [q1, subTy, en]
  rw [e0, e_seq, c1]
  rfl
theorem bad29 (far many : Nat) : BadR many (.tup [.str "set", .int (0), .str "1", .int (1)]) := by
  rw [e_w_set]
  refine bad_form (w := [115, 101, 116]) (f := [98, 111, 98]) rfl (fun d hd => by
    simp only [List.mem_cons, List.not_mem_nil, or_false] at hd
    rcases hd with rfl | rfl | rfl <;> first | exact .int _ | exact .bl _ | exact .one | (rw [e_b_hg]; exact .str _ (by decide +kernel)) | (rw [e_b_gg]; exact .str _ (by decide +kernel)) | (rw [e_b_x]; exact .str _ (by decide +kernel)) | (rw [e_b_1]; exact .str _ (by decide +kernel))) (by simp) ?_
  unfold rowB
  simp [List.range_succ, badAt, partB, inR, isT, lowP, highP, e_b_1, S, rts]
  try omega
theorem bad30 (far many : Nat) : BadR many (.tup [.str "enter", .int (0), .int (0)]) := by
  rw [e_w_enter]
  refine bad_form (w := [101, 110, 116, 101, 114]) (f := [98]) rfl (fun d hd => by
    simp only [List.mem_cons, List.not_mem_nil, or_false] at hd
    rcases hd with rfl | rfl <;> first | exact .int _ | exact .bl _ | exact .one | (rw [e_b_hg]; exact .str _ (by decide +kernel)) | (rw [e_b_gg]; exact .str _ (by decide +kernel)) | (rw [e_b_x]; exact .str _ (by decide +kernel)) | (rw [e_b_1]; exact .str _ (by decide +kernel))) (by simp) ?_
  unfold rowB
  simp [List.range_succ, badAt, partB, inR, isT, lowP, highP]
  try omega
theorem bad31 (far many : Nat) : BadR many (.int 7) := by
  refine ⟨by simp [datC], by simp [depD], fun A => ?_⟩
  have e0 : m_is_row [.int 7, .int (many : Int)] A = finS (mSeq q1 (mSeq q2 (mSeq q3 (mRet (mBin eqD qL (mLst mNil))))) [some (.int 7), some (.int (many : Int)), none, none] A) := rfl
  have c1 : q1 [some (.int 7), some (.int (many : Int)), none, none] A = .rt (.bl false) A := by
    simp [q1, subTy]
  rw [e0, e_seq, c1]
  rfl
theorem bad32 (far many : Nat) : BadR many (.str "end") := by
  refine ⟨by simp [datC]; decide +kernel, by simp [depD], fun A => ?_⟩
  have e0 : m_is_row [.str "end", .int (many : Int)] A = finS (mSeq q1 (mSeq q2 (mSeq q3 (mRet (mBin eqD qL (mLst mNil))))) [some (.str "end"), some (.int (many : Int)), none, none] A) := rfl
  have c1 : q1 [some (.str "end"), some (.int (many : Int)), none, none] A = .rt (.bl false) A := by
    simp [q1, subTy]
  rw [e0, e_seq, c1]
  rfl
theorem bads (far many : Nat) : ∀ d ∈ L33 far many, BadR many d := by
  intro d hd
  simp only [L33, L26, L20, L16, L15, L11, L6, L5, List.cons_append, List.nil_append, List.mem_cons, List.not_mem_nil, or_false] at hd
  rcases hd with rfl | rfl | rfl | rfl | rfl | rfl | rfl | rfl | rfl | rfl | rfl | rfl | rfl | rfl | rfl | rfl | rfl | rfl | rfl | rfl | rfl | rfl | rfl | rfl | rfl | rfl | rfl | rfl | rfl | rfl | rfl | rfl | rfl
  · exact bad0 far many
  · exact bad1 far many
  · exact bad2 far many
  · exact bad3 far many
  · exact bad4 far many
  · exact bad5 far many
  · exact bad6 far many
  · exact bad7 far many
  · exact bad8 far many
  · exact bad9 far many
  · exact bad10 far many
  · exact bad11 far many
  · exact bad12 far many
  · exact bad13 far many
  · exact bad14 far many
  · exact bad15 far many
  · exact bad16 far many
  · exact bad17 far many
  · exact bad18 far many
  · exact bad19 far many
  · exact bad20 far many
  · exact bad21 far many
  · exact bad22 far many
  · exact bad23 far many
  · exact bad24 far many
  · exact bad25 far many
  · exact bad26 far many
  · exact bad27 far many
  · exact bad28 far many
  · exact bad29 far many
  · exact bad30 far many
  · exact bad31 far many
  · exact bad32 far many
end K01

set_option Elab.async false
set_option linter.all false
set_option maxRecDepth 100000
set_option maxHeartbeats 4000000
/-! K01W: written. -/
namespace K01
open PySem Tg L2
open SX (S)
theorem pk_ok {rows c : Nat} {p : PT} (h : PT.Ok rows c p) : Pk p.d := by
  cases h <;> first
    | exact .int _
    | (rename_i hl; exact .str _ (r_word _ hl).2.2.2.2)
theorem rw_C {rows : Nat} {r : RW} (h : r.Ok rows) : datC r.d = true ∧ depD r.d ≤ 2 := by
  obtain ⟨f, hf, h2⟩ := h
  have w6 := (fm_word _ hf).2.2.2.2.2
  obtain ⟨c, d⟩ := pks_C (ds := r.ps.map PT.d) fun d hd => by
    obtain ⟨p, hp, rfl⟩ := List.mem_map.mp hd
    obtain ⟨i, hi, rfl⟩ := List.mem_iff_getElem.mp hp
    exact pk_ok (h2.get i (by rw [h2.len]; exact hi) hi)
  refine ⟨?_, by simp only [RW.d, depD, depL]; omega⟩
  simp only [RW.d, datC, datCs, Bool.and_eq_true]
  exact ⟨w6, c⟩
theorem prog_C {n : Nat} {prog : List RW} (h : ∀ r ∈ prog, r.Ok n) : datCs (prog.map RW.d) = true ∧ depL (prog.map RW.d) ≤ 2 := ⟨by
  rw [datCs_all, List.all_eq_true]
  intro d hd
  obtain ⟨r, hr, rfl⟩ := List.mem_map.mp hd
  exact (rw_C (h r hr)).1, depL_le fun d hd => by
  obtain ⟨r, hr, rfl⟩ := List.mem_map.mp hd
  exact (rw_C (h r hr)).2⟩
theorem need_program_ok {prog : List RW} (h : ∀ r ∈ prog, r.Ok prog.length) (h0 : prog ≠ []) (h1 : prog.length ≤ 60) {A : AH} : m_need_program [.tup (prog.map RW.d)] A = .ok .non A := by
  obtain ⟨a, b⟩ := prog_C h
  refine np_ok a (by omega) (by simpa using h0) (by rw [List.length_map]; exact h1) fun i d hd => ?_
  rw [List.getElem?_map] at hd
  cases q : prog[i]? with
  | none => rw [q] at hd; cases hd
  | some r =>
    rw [q] at hd
    cases hd
    rw [List.length_map]
    exact row_is (h r (List.mem_of_getElem? q))
theorem e_dash : Str.ofString "-" = S [45] := by decide
theorem e_sp : Str.ofString " " = S [32] := by decide
theorem e_nl : Str.ofString "\n" = S [10] := by decide
theorem parts_free {rows : Nat} {r : RW} (h : r.Ok rows) (hr : rows ≤ 60) : ∀ l ∈ r.parts, l ≠ [] ∧ l.length ≤ 6 ∧ 32 ∉ l ∧ 10 ∉ l := by
  obtain ⟨f, hf, h2⟩ := h
  obtain ⟨w1, w2, w3, w4, w5, w6⟩ := fm_word _ hf
  intro l hl
  rcases List.mem_cons.mp hl with rfl | hl
  · exact ⟨w1, w2, w3, w4⟩
  · obtain ⟨p, hp, rfl⟩ := List.mem_map.mp hl
    obtain ⟨i, hi, rfl⟩ := List.mem_iff_getElem.mp hp
    exact (h2.get i (by rw [h2.len]; exact hi) hi).facts hr
theorem parts_len {rows : Nat} {r : RW} (h : r.Ok rows) : r.parts.length ≤ 4 := by
  obtain ⟨f, hf, h2⟩ := h
  obtain ⟨w1, w2, w3, w4, w5, w6⟩ := fm_word _ hf
  have := h2.len
  simp only [RW.parts, List.length_cons, List.length_map]
  dsimp only at w5
  omega
theorem row_len {rows : Nat} {r : RW} (h : r.Ok rows) (hr : rows ≤ 60) : r.s.length ≤ 28 := by
  have h1 := joinL_len (s := [32]) (k := 7) (ls := r.parts) fun l hl => by
    have := (parts_free h hr l hl).2.1
    simp only [List.length_cons, List.length_nil]
    omega
  have h2 := parts_len h
  unfold RW.s
  omega
theorem tup_lines {prog : List RW} : (prog.map RW.s).map (fun l => D.str (S l)) = prog.map fun r => .str (S r.s) := by
  rw [List.map_map]
  rfl
theorem o_eqIS {i : Int} {z : Str} {A : AH} : eqD (.int i) (.str z) A = .ok (.bl false) A := rfl
theorem str_str {z : Str} {A : AH} : strD [.str z] A = .ok (.str z) A := rfl
theorem word_s {l : List Nat} (h : l ≠ []) {A : AH} : m_word_of [.str (S l)] A = .ok (.str (S l)) A := by
  have e0 : m_word_of [.str (S l)] A = finS (b_word_of [some (.str (S l))] A) := rfl
  have q : (S l == S []) = false := by
    rw [SX.S_beq_eq]
    exact decide_eq_false h
  rw [e0]
  simp [b_word_of, e_emp, q, str_str]
theorem word_p {rows c : Nat} {p : PT} (h : PT.Ok rows c p) (hr : rows ≤ 60) {A : AH} : m_word_of [p.d] A = .ok (.str (S p.s)) A := by
  cases p with
  | n i =>
    obtain ⟨h0, h1⟩ := h.rng hr
    have e0 : m_word_of [(PT.n i).d] A = finS (b_word_of [some (.int i)] A) := rfl
    rw [e0]
    simp [b_word_of, o_eqIS, str_int h0 h1, PT.s]
  | t l =>
    cases l with
    | nil =>
      have e0 : m_word_of [(PT.t []).d] A = finS (b_word_of [some (.str (S []))] A) := rfl
      rw [e0]
      simp [b_word_of, e_emp, PT.s, g_NONE, e_dash]
    | cons c l => exact word_s (by simp)
def x1 : MS := (mDrop (mCall m_need_program (mCons (mv 0) mNil)))
def xI : ME := mLc (miAny (mv 1)) (gmN 2) mYes (mCall m_word_of (mCons (mv 2) mNil)) [2] finF
def xJ : ME := mMt "str" joinD (mc (.str " ")) (mCons xI mNil)
def xO : ME := mLc (miAny (mv 0)) (gmN 1) mYes xJ [1] finF
theorem row_text {rows : Nat} {r : RW} (h : r.Ok rows) (hr : rows ≤ 60) {p : D} {o : Option D} {A : AH} : xJ [some p, some r.d, o] A = .ok (.str (S r.s)) A := by
  have hf := parts_free h hr
  have hpl := parts_len h
  obtain ⟨f, hfm, h2⟩ := h
  have hw := (fm_word _ hfm).1
  dsimp only at hw
  have e1 : All2 (fun d q => ∃ s1, gmN 2 d (wpD [some p, some r.d, o] [2]) = some s1 ∧ mYes s1 A = .ok true A ∧ (mCall m_word_of (mCons (mv 2) mNil)) s1 A = .ok q A) (D.str (S r.w) :: r.ps.map PT.d) (r.parts.map fun l => D.str (S l)) := by
    refine .cons ⟨_, rfl, rfl, by simp [wpD, word_s hw]⟩ ?_
    rw [List.map_map]
    refine All2.maps fun q hq => ?_
    obtain ⟨i, hi, rfl⟩ := List.mem_iff_getElem.mp hq
    have := word_p (A := A) (h2.get i (by rw [h2.len]; exact hi) hi) hr
    exact ⟨_, rfl, rfl, by simp [wpD, this]⟩
  have e2 : miAny (mv 1) [some p, some r.d, o] A = .ok (.data (D.str (S r.w) :: r.ps.map PT.d)) A := rfl
  have e3 : xI [some p, some r.d, o] A = .ok (.lst (r.parts.map fun l => D.str (S l))) A := lc_all2 e2 (by have := e1.len; rw [this, List.length_map]; omega) e1
  have e4 : joinD (.str (S [32])) [.lst (r.parts.map fun l => D.str (S l))] A = .ok (.str (S r.s)) A := join_S (k := 7) (fun l hl => by
    have := (hf l hl).2.1
    simp only [List.length_cons, List.length_nil]
    omega) (by omega)
  simp [xJ, e3, e_sp, e4, tyMD]
theorem written_is {prog : List RW} (h : ∀ r ∈ prog, r.Ok prog.length) (h0 : prog ≠ []) (h1 : prog.length ≤ 60) {A : AH} : m_written [.tup (prog.map RW.d)] A = .ok (.str (S (txt prog))) A := by
  have e0 : m_written [.tup (prog.map RW.d)] A = finS (mSeq x1 (mRet (mMt "str" joinD (mc (.str "\n")) (mCons xO mNil))) [some (.tup (prog.map RW.d)), none, none] A) := rfl
  have c1 : x1 [some (.tup (prog.map RW.d)), none, none] A = .nx [some (.tup (prog.map RW.d)), none, none] A := by
    simp [x1, need_program_ok h h0 h1]
  have e1 : All2 (fun d q => ∃ s1, gmN 1 d (wpD [some (.tup (prog.map RW.d)), none, none] [1]) = some s1 ∧ mYes s1 A = .ok true A ∧ xJ s1 A = .ok q A) (prog.map RW.d) (prog.map fun r => D.str (S r.s)) := All2.maps fun r hm => ⟨_, rfl, rfl, row_text (h r hm) h1⟩
  have e2 : miAny (mv 0) [some (.tup (prog.map RW.d)), none, none] A = .ok (.data (prog.map RW.d)) A := rfl
  have e3 : xO [some (.tup (prog.map RW.d)), none, none] A = .ok (.lst (prog.map fun r => D.str (S r.s))) A := lc_all2 e2 (by rw [List.length_map]; omega) e1
  have e4 : joinD (.str (S [10])) [.lst (prog.map fun r => D.str (S r.s))] A = .ok (.str (S (txt prog))) A := by
    rw [← tup_lines]
    refine join_S (k := 29) (fun l hl => ?_) (by rw [List.length_map]; omega)
    obtain ⟨r, hm, rfl⟩ := List.mem_map.mp hl
    have := row_len (h r hm) h1
    simp only [List.length_cons, List.length_nil]
    omega
  rw [e0, e_seq, c1, RS.nxt_nx]
  simp [e3, e_nl, e4, tyMD]
end K01

set_option Elab.async false
set_option linter.all false
set_option maxRecDepth 100000
set_option maxHeartbeats 4000000
/-! K01V: a bad row drawn. -/
namespace K01
open PySem Tg L2
open SX (S)
theorem set_last {A : AH} {x y : AO} : (A ++ [x]).set A.length y = A ++ [y] := by simp
theorem get_last {A : AH} {x : AO} : (A ++ [x])[A.length]? = some x := List.getElem?_concat_length
theorem add_ref {A : AH} {n : Nat} {ds es : List D} (h : A[n]? = some (.lst ds)) (hl : ds.length + es.length ≤ 16777216) : addD (.ref n) (.lst es) A = .ok (.lst (ds ++ es)) A := by
  simp [addD, lstL, h, hl]
theorem add_lst {A : AH} {ds es : List D} (hl : ds.length + es.length ≤ 16777216) : addD (.lst ds) (.lst es) A = .ok (.lst (ds ++ es)) A := by
  simp [addD, lstL, hl]
theorem addn_lst {A : AH} {ds es : List D} (hl : ds.length + es.length ≤ 16777216) : addN (.lst ds) (.lst es) A = .ok (.ref A.length) (A ++ [.lst (ds ++ es)]) := by
  simp [addN, lstL, hl]
theorem app_last {A : AH} {ds : List D} {d : D} (h : ds.length < 16777216) : appD (.ref A.length) [d] (A ++ [.lst ds]) = .ok .non (A ++ [.lst (ds ++ [d])]) := by
  rw [app_at get_last h, set_last]
section
variable {r : Nat} {ns : List Int} {A : AH} {far many : Nat}
theorem bd1_ok (h : RowAt r ns A) {a b : Option D} : ∃ (far : Nat) (A' : AH), bd1 [some (.ref r), a, none, b] A = .nx [some (.ref r), a, some (.int (far : Int)), b] A' ∧ RowAt r ns A' := by
  obtain ⟨v, A1, e1, h1, l1⟩ := takenN 1000000 h ⟨by omega, by omega⟩
  obtain ⟨w, A2, e2, h2, l2⟩ := takenN 2 h1 ⟨by omega, by omega⟩
  have hp : ∀ B, powD (.int 10) (.int 6) B = .ok (.int 1000000) B := fun B => rfl
  have hw : w = 0 ∨ w = 1 := by omega
  rcases hw with rfl | rfl
  · exact ⟨0, A2, by simp at e2; simp [bd1, tk, hp, e1, e2], h2⟩
  · exact ⟨v, A2, by simp at e2; simp [bd1, tk, hp, e1, e2], h2⟩
theorem bd2_ok {R : D} : bd2 [some R, some (.int (many : Int)), some (.int (far : Int)), none] A = .nx [some R, some (.int (many : Int)), some (.int (far : Int)), some (.ref A.length)] (A ++ [.lst (L5 far many)]) := by
  simp [bd2, L5]
theorem bd3_ok {R : D} : bd3 [some R, some (.int (many : Int)), some (.int (far : Int)), some (.ref A.length)] (A ++ [.lst (L5 far many)]) = .nx [some R, some (.int (many : Int)), some (.int (far : Int)), some (.ref A.length)] (A ++ [.lst (L6 far many)]) :=
  drop_ok (mt_ok rfl (ty_ref get_last) (cons_ok rfl rfl) (app_last (Nat.le_of_ble_eq_true rfl)))
theorem bd4_ok {R : D} : bd4 [some R, some (.int (many : Int)), some (.int (far : Int)), some (.ref A.length)] (A ++ [.lst (L6 far many)]) = .nx [some R, some (.int (many : Int)), some (.int (far : Int)), some (.lst (L11 far many))] (A ++ [.lst (L6 far many)]) :=
  asg_ok (bin_ok rfl (lst_ok rfl) (add_ref get_last (by show _ ≤ 16777216; exact Nat.le_of_ble_eq_true rfl)))
theorem bd5_ok {R : D} : bd5 [some R, some (.int (many : Int)), some (.int (far : Int)), some (.lst (L11 far many))] A = .nx [some R, some (.int (many : Int)), some (.int (far : Int)), some (.ref A.length)] (A ++ [.lst (L15 far many)]) :=
  asg_ok (bin_ok rfl (lst_ok rfl) (addn_lst (Nat.le_of_ble_eq_true rfl)))
theorem bd6_ok {R : D} : bd6 [some R, some (.int (many : Int)), some (.int (far : Int)), some (.ref A.length)] (A ++ [.lst (L15 far many)]) = .nx [some R, some (.int (many : Int)), some (.int (far : Int)), some (.ref A.length)] (A ++ [.lst (L16 far many)]) :=
  drop_ok (mt_ok rfl (ty_ref get_last) (cons_ok rfl rfl) (app_last (Nat.le_of_ble_eq_true rfl)))
theorem bd7_ok {R : D} : bd7 [some R, some (.int (many : Int)), some (.int (far : Int)), some (.ref A.length)] (A ++ [.lst (L16 far many)]) = .nx [some R, some (.int (many : Int)), some (.int (far : Int)), some (.lst (L20 far many))] (A ++ [.lst (L16 far many)]) :=
  asg_ok (bin_ok rfl (lst_ok rfl) (add_ref get_last (Nat.le_of_ble_eq_true rfl)))
theorem bd8_ok {R : D} : bd8 [some R, some (.int (many : Int)), some (.int (far : Int)), some (.lst (L20 far many))] A = .nx [some R, some (.int (many : Int)), some (.int (far : Int)), some (.lst (L26 far many))] A :=
  asg_ok (bin_ok rfl (lst_ok rfl) (add_lst (Nat.le_of_ble_eq_true rfl)))
theorem bd9_ok {R : D} : bd9 [some R, some (.int (many : Int)), some (.int (far : Int)), some (.lst (L26 far many))] A = .nx [some R, some (.int (many : Int)), some (.int (far : Int)), some (.lst (L33 far many))] A :=
  asg_ok (bin_ok rfl (lst_ok rfl) (add_lst (Nat.le_of_ble_eq_true rfl)))
theorem bad_made (h : RowAt r ns A) : ∃ (d : D) (A' : AH), m__law_bad [.ref r, .int (many : Int)] A = .ok d A' ∧ RowAt r ns A' ∧ BadR many d := by
  have e0 : m__law_bad [.ref r, .int (many : Int)] A = finS (mSeq bd1 (mSeq bd2 (mSeq bd3 (mSeq bd4 (mSeq bd5 (mSeq bd6 (mSeq bd7 (mSeq bd8 (mSeq bd9 bd10)))))))) [some (.ref r), some (.int (many : Int)), none, none] A) := rfl
  obtain ⟨far, A1, e1, h1⟩ := bd1_ok (a := some (.int (many : Int))) (b := none) h
  have h2 := (h1.app [.lst (L6 far many)]).app [.lst (L16 far many)]
  obtain ⟨w, A3, e3, h3, l3⟩ := takenN 33 h2 ⟨by omega, by omega⟩
  have hw : w < (L33 far many).length := by
    show w < 33
    omega
  have e10 : bd10 [some (.ref r), some (.int (many : Int)), some (.int (far : Int)), some (.lst (L33 far many))] ((A1 ++ [.lst (L6 far many)]) ++ [.lst (L16 far many)]) = .rt (L33 far many)[w] A3 :=
    ret_ok (bin_ok rfl (call_ok (cons_ok rfl (cons_ok rfl rfl)) e3) (ix_lst (atI_ok (List.getElem?_eq_getElem hw))))
  exact ⟨_, A3, e0.trans (fin_of (seq_nx e1 (seq_nx bd2_ok (seq_nx bd3_ok (seq_nx bd4_ok (seq_nx bd5_ok (seq_nx bd6_ok (seq_nx bd7_ok (seq_nx bd8_ok (seq_nx bd9_ok e10)))))))))), h3, bads far many _ (List.getElem_mem hw)⟩
end
end K01

set_option Elab.async false
set_option linter.all false
set_option maxRecDepth 100000
set_option maxHeartbeats 4000000
/-! K01X: rows by their forms; the plain test, both ways. -/
namespace K01
open PySem Tg L2
open SX (S)
theorem row_cases {rows : Nat} {P : D → Prop}
    (h_put : ∀ x : Int, 0 ≤ x → x < 8 → ∀ y : Int, P (.tup [.str "put", .int x, .int y]))
    (h_move : ∀ x : Int, 0 ≤ x → x < 8 → ∀ y : Int, 0 ≤ y → y < 8 → P (.tup [.str "move", .int x, .int y]))
    (h_add : ∀ x : Int, 0 ≤ x → x < 8 → ∀ y : Int, 0 ≤ y → y < 8 → ∀ z : Int, 0 ≤ z → z < 8 → P (.tup [.str "add", .int x, .int y, .int z]))
    (h_take : ∀ x : Int, 0 ≤ x → x < 8 → ∀ y : Int, 0 ≤ y → y < 8 → ∀ z : Int, 0 ≤ z → z < 8 → P (.tup [.str "take", .int x, .int y, .int z]))
    (h_less : ∀ x : Int, 0 ≤ x → x < 8 → ∀ y : Int, 0 ≤ y → y < 8 → ∀ z : Int, 0 ≤ z → z < 8 → P (.tup [.str "less", .int x, .int y, .int z]))
    (h_same : ∀ x : Int, 0 ≤ x → x < 8 → ∀ y : Int, 0 ≤ y → y < 8 → ∀ z : Int, 0 ≤ z → z < 8 → P (.tup [.str "same", .int x, .int y, .int z]))
    (h_is : ∀ x : Int, 0 ≤ x → x < 8 → ∀ y : Int, 0 ≤ y → y < 8 → P (.tup [.str "is", .int x, .int y]))
    (h_get : ∀ x : Int, 0 ≤ x → x < 8 → ∀ y : Int, 0 ≤ y → y < 8 → ∀ z : Int, P (.tup [.str "get", .int x, .int y, .int z]))
    (h_set : ∀ x : Int, 0 ≤ x → x < 8 → ∀ y : Int, ∀ z : Int, 0 ≤ z → z < 8 → P (.tup [.str "set", .int x, .int y, .int z]))
    (h_narrow : ∀ x : Int, 0 ≤ x → x < 8 → ∀ y : Int, 0 ≤ y → y < 8 → ∀ z : Int, 0 ≤ z → z < 8 → P (.tup [.str "narrow", .int x, .int y, .int z]))
    (h_fewer : ∀ x : Int, 0 ≤ x → x < 8 → ∀ y : Int, 0 ≤ y → y < 8 → ∀ l : List Nat, P (.tup [.str "fewer", .int x, .int y, .str (S l)]))
    (h_gate : ∀ x : Int, 0 ≤ x → x < 8 → ∀ y : Int, 0 ≤ y → y < 8 → ∀ z : Int, P (.tup [.str "gate", .int x, .int y, .int z]))
    (h_enter : ∀ x : Int, 0 ≤ x → x < 8 → P (.tup [.str "enter", .int x]))
    (h_room : ∀ x : Int, 0 ≤ x → x < 8 → P (.tup [.str "room", .int x]))
    (h_shut : ∀ x : Int, 0 ≤ x → x < 8 → P (.tup [.str "shut", .int x]))
    (h_say : ∀ x : Int, 0 ≤ x → x < 8 → P (.tup [.str "say", .int x]))
    (h_go : ∀ x : Int, 0 ≤ x → x < (rows : Int) → P (.tup [.str "go", .int x]))
    (h_if : ∀ x : Int, 0 ≤ x → x < 8 → ∀ y : Int, 0 ≤ y → y < (rows : Int) → P (.tup [.str "if", .int x, .int y]))
    (h_end : P (.tup [.str "end"]))
    {r : RW} (h : r.Ok rows) : P r.d := by
  obtain ⟨w, ps⟩ := r
  obtain ⟨f, hf, h2⟩ := h
  simp only [forms, List.mem_cons, List.not_mem_nil, or_false, Prod.mk.injEq] at hf
  dsimp only at h2
  rcases hf with ⟨rfl, rfl⟩ | ⟨rfl, rfl⟩ | ⟨rfl, rfl⟩ | ⟨rfl, rfl⟩ | ⟨rfl, rfl⟩ | ⟨rfl, rfl⟩ | ⟨rfl, rfl⟩ | ⟨rfl, rfl⟩ | ⟨rfl, rfl⟩ | ⟨rfl, rfl⟩ | ⟨rfl, rfl⟩ | ⟨rfl, rfl⟩ | ⟨rfl, rfl⟩ | ⟨rfl, rfl⟩ | ⟨rfl, rfl⟩ | ⟨rfl, rfl⟩ | ⟨rfl, rfl⟩ | ⟨rfl, rfl⟩ | ⟨rfl, rfl⟩
  · obtain _ | ⟨a0, h2⟩ := h2
    obtain _ | ⟨a1, h2⟩ := h2
    cases h2
    cases a0
    cases a1
    have q := h_put
    rw [e_w_put] at q
    first | exact q | (refine q _ ?_ ?_ _ <;> assumption)
  · obtain _ | ⟨a0, h2⟩ := h2
    obtain _ | ⟨a1, h2⟩ := h2
    cases h2
    cases a0
    cases a1
    have q := h_move
    rw [e_w_move] at q
    first | exact q | (refine q _ ?_ ?_ _ ?_ ?_ <;> assumption)
  · obtain _ | ⟨a0, h2⟩ := h2
    obtain _ | ⟨a1, h2⟩ := h2
    obtain _ | ⟨a2, h2⟩ := h2
    cases h2
    cases a0
    cases a1
    cases a2
    have q := h_add
    rw [e_w_add] at q
    first | exact q | (refine q _ ?_ ?_ _ ?_ ?_ _ ?_ ?_ <;> assumption)
  · obtain _ | ⟨a0, h2⟩ := h2
    obtain _ | ⟨a1, h2⟩ := h2
    obtain _ | ⟨a2, h2⟩ := h2
    cases h2
    cases a0
    cases a1
    cases a2
    have q := h_take
    rw [e_w_take] at q
    first | exact q | (refine q _ ?_ ?_ _ ?_ ?_ _ ?_ ?_ <;> assumption)
  · obtain _ | ⟨a0, h2⟩ := h2
    obtain _ | ⟨a1, h2⟩ := h2
    obtain _ | ⟨a2, h2⟩ := h2
    cases h2
    cases a0
    cases a1
    cases a2
    have q := h_less
    rw [e_w_less] at q
    first | exact q | (refine q _ ?_ ?_ _ ?_ ?_ _ ?_ ?_ <;> assumption)
  · obtain _ | ⟨a0, h2⟩ := h2
    obtain _ | ⟨a1, h2⟩ := h2
    obtain _ | ⟨a2, h2⟩ := h2
    cases h2
    cases a0
    cases a1
    cases a2
    have q := h_same
    rw [e_w_same] at q
    first | exact q | (refine q _ ?_ ?_ _ ?_ ?_ _ ?_ ?_ <;> assumption)
  · obtain _ | ⟨a0, h2⟩ := h2
    obtain _ | ⟨a1, h2⟩ := h2
    cases h2
    cases a0
    cases a1
    have q := h_is
    rw [e_w_is] at q
    first | exact q | (refine q _ ?_ ?_ _ ?_ ?_ <;> assumption)
  · obtain _ | ⟨a0, h2⟩ := h2
    obtain _ | ⟨a1, h2⟩ := h2
    obtain _ | ⟨a2, h2⟩ := h2
    cases h2
    cases a0
    cases a1
    cases a2
    have q := h_get
    rw [e_w_get] at q
    first | exact q | (refine q _ ?_ ?_ _ ?_ ?_ _ <;> assumption)
  · obtain _ | ⟨a0, h2⟩ := h2
    obtain _ | ⟨a1, h2⟩ := h2
    obtain _ | ⟨a2, h2⟩ := h2
    cases h2
    cases a0
    cases a1
    cases a2
    have q := h_set
    rw [e_w_set] at q
    first | exact q | (refine q _ ?_ ?_ _ _ ?_ ?_ <;> assumption)
  · obtain _ | ⟨a0, h2⟩ := h2
    obtain _ | ⟨a1, h2⟩ := h2
    obtain _ | ⟨a2, h2⟩ := h2
    cases h2
    cases a0
    cases a1
    cases a2
    have q := h_narrow
    rw [e_w_narrow] at q
    first | exact q | (refine q _ ?_ ?_ _ ?_ ?_ _ ?_ ?_ <;> assumption)
  · obtain _ | ⟨a0, h2⟩ := h2
    obtain _ | ⟨a1, h2⟩ := h2
    obtain _ | ⟨a2, h2⟩ := h2
    cases h2
    cases a0
    cases a1
    cases a2
    have q := h_fewer
    rw [e_w_fewer] at q
    first | exact q | (refine q _ ?_ ?_ _ ?_ ?_ _ <;> assumption)
  · obtain _ | ⟨a0, h2⟩ := h2
    obtain _ | ⟨a1, h2⟩ := h2
    obtain _ | ⟨a2, h2⟩ := h2
    cases h2
    cases a0
    cases a1
    cases a2
    have q := h_gate
    rw [e_w_gate] at q
    first | exact q | (refine q _ ?_ ?_ _ ?_ ?_ _ <;> assumption)
  · obtain _ | ⟨a0, h2⟩ := h2
    cases h2
    cases a0
    have q := h_enter
    rw [e_w_enter] at q
    first | exact q | (refine q _ ?_ ?_ <;> assumption)
  · obtain _ | ⟨a0, h2⟩ := h2
    cases h2
    cases a0
    have q := h_room
    rw [e_w_room] at q
    first | exact q | (refine q _ ?_ ?_ <;> assumption)
  · obtain _ | ⟨a0, h2⟩ := h2
    cases h2
    cases a0
    have q := h_shut
    rw [e_w_shut] at q
    first | exact q | (refine q _ ?_ ?_ <;> assumption)
  · obtain _ | ⟨a0, h2⟩ := h2
    cases h2
    cases a0
    have q := h_say
    rw [e_w_say] at q
    first | exact q | (refine q _ ?_ ?_ <;> assumption)
  · obtain _ | ⟨a0, h2⟩ := h2
    cases h2
    cases a0
    have q := h_go
    rw [e_w_go] at q
    first | exact q | (refine q _ ?_ ?_ <;> assumption)
  · obtain _ | ⟨a0, h2⟩ := h2
    obtain _ | ⟨a1, h2⟩ := h2
    cases h2
    cases a0
    cases a1
    have q := h_if
    rw [e_w_if] at q
    first | exact q | (refine q _ ?_ ?_ _ ?_ ?_ <;> assumption)
  · cases h2
    have q := h_end
    rw [e_w_end] at q
    first | exact q | (refine q _  <;> assumption)
def kAsg2 (i j : Nat) (s : Sl) (r : R D) : RS := r.thenS s fun d A1 => match (gmTup 2 (gmCons (gmN i) (gmCons (gmN j) gmNil))) d s with
  | some s1 => .nx s1 A1
  | none => .bad
theorem e_asg2 {a : ME} {i j : Nat} {s : Sl} {A : AH} : mAsg a (gmTup 2 (gmCons (gmN i) (gmCons (gmN j) gmNil))) s A = kAsg2 i j s (a s A) := rfl
theorem kAsg2_0 {i j : Nat} {s : Sl} {x y : D} {A : AH} : kAsg2 i j s (.ok (.tup [x, y]) A) = .nx ((s.set i (some x)).set j (some y)) A := rfl
def Pl (d : D) : Prop := ∃ b : Bool, ∀ A, m__law_may_be_plain [d] A = .ok (.bl b) A ∧ m_is_plain_marked [d] A = .ok (.bl b) A
theorem mp_eq {d : D} {A : AH} : m__law_may_be_plain [d] A = finS (b__law_may_be_plain [some d, none, none] A) := rfl
theorem ip_eq {d : D} {A : AH} : m_is_plain_marked [d] A = finS (b_is_plain_marked [some d, none, none] A) := rfl
theorem sx (x : Int) : (x < 6 ∧ ¬ 6 ≤ x) ∨ (¬ x < 6 ∧ 6 ≤ x) := by omega
theorem mx2 {x y : Int} : decide ((if x < y then y else x) < 6) = (decide (x < 6) && decide (y < 6)) := by
  rcases sx x with ⟨h0, k0⟩ | ⟨h0, k0⟩ <;> rcases sx y with ⟨h1, k1⟩ | ⟨h1, k1⟩ <;> simp [h0, h1] <;> (try split) <;> omega
theorem pl_put {x : Int} {y : Int} : Pl (.tup [.str "put", .int x, .int y]) := by
  refine ⟨decide (x < 6), fun A => ⟨?_, ?_⟩⟩
  · rw [mp_eq]
    rcases sx x with ⟨h0, k0⟩ | ⟨h0, k0⟩
    all_goals (simp [b__law_may_be_plain, e_asg2, kAsg2_0, in_str, nin_str, slD, cutD, HT.sIx, maxD, itemsD, seqL, intsD, maxI, h0, k0] <;> (try split) <;> (try split) <;> omega)
  · rw [ip_eq]
    rcases sx x with ⟨h0, k0⟩ | ⟨h0, k0⟩
    all_goals (simp [b_is_plain_marked, g_WORDS, g_BOXES_marked, nin_str, slD, cutD, HT.sIx, maxD, itemsD, seqL, intsD, maxI, keysD, keyD, mergeD, ptK, lkK, getD2, dctD, eq_lstF, feqs, Tg.okF, h0, k0] <;> (try split) <;> (try split) <;> omega)
theorem pl_move {x : Int} {y : Int} : Pl (.tup [.str "move", .int x, .int y]) := by
  refine ⟨decide (x < 6) && decide (y < 6), fun A => ⟨?_, ?_⟩⟩
  · rw [mp_eq]
    rcases sx x with ⟨h0, k0⟩ | ⟨h0, k0⟩ <;>
    rcases sx y with ⟨h1, k1⟩ | ⟨h1, k1⟩
    all_goals (simp [b__law_may_be_plain, e_asg2, kAsg2_0, in_str, nin_str, slD, cutD, HT.sIx, maxD, itemsD, seqL, intsD, maxI, h0, k0, h1, k1] <;> (try split) <;> (try split) <;> omega)
  · rw [ip_eq]
    rcases sx x with ⟨h0, k0⟩ | ⟨h0, k0⟩ <;>
    rcases sx y with ⟨h1, k1⟩ | ⟨h1, k1⟩
    all_goals (simp [b_is_plain_marked, g_WORDS, g_BOXES_marked, nin_str, slD, cutD, HT.sIx, maxD, itemsD, seqL, intsD, maxI, keysD, keyD, mergeD, ptK, lkK, getD2, dctD, eq_lstF, feqs, Tg.okF, h0, k0, h1, k1] <;> (try split) <;> (try split) <;> omega)
theorem pl_add {x : Int} {y : Int} {z : Int} : Pl (.tup [.str "add", .int x, .int y, .int z]) := by
  refine ⟨decide (x < 6) && decide (y < 6) && decide (z < 6), fun A => ⟨?_, ?_⟩⟩
  · rw [mp_eq]
    rcases sx x with ⟨h0, k0⟩ | ⟨h0, k0⟩ <;>
    rcases sx y with ⟨h1, k1⟩ | ⟨h1, k1⟩ <;>
    rcases sx z with ⟨h2, k2⟩ | ⟨h2, k2⟩
    all_goals (simp [b__law_may_be_plain, e_asg2, kAsg2_0, in_str, nin_str, slD, cutD, HT.sIx, maxD, itemsD, seqL, intsD, maxI, h0, k0, h1, k1, h2, k2] <;> (try split) <;> (try split) <;> omega)
  · rw [ip_eq]
    rcases sx x with ⟨h0, k0⟩ | ⟨h0, k0⟩ <;>
    rcases sx y with ⟨h1, k1⟩ | ⟨h1, k1⟩ <;>
    rcases sx z with ⟨h2, k2⟩ | ⟨h2, k2⟩
    all_goals (simp [b_is_plain_marked, g_WORDS, g_BOXES_marked, nin_str, slD, cutD, HT.sIx, maxD, itemsD, seqL, intsD, maxI, keysD, keyD, mergeD, ptK, lkK, getD2, dctD, eq_lstF, feqs, Tg.okF, h0, k0, h1, k1, h2, k2] <;> (try split) <;> (try split) <;> omega)
theorem pl_take {x : Int} {y : Int} {z : Int} : Pl (.tup [.str "take", .int x, .int y, .int z]) := by
  refine ⟨decide (x < 6) && decide (y < 6) && decide (z < 6), fun A => ⟨?_, ?_⟩⟩
  · rw [mp_eq]
    rcases sx x with ⟨h0, k0⟩ | ⟨h0, k0⟩ <;>
    rcases sx y with ⟨h1, k1⟩ | ⟨h1, k1⟩ <;>
    rcases sx z with ⟨h2, k2⟩ | ⟨h2, k2⟩
    all_goals (simp [b__law_may_be_plain, e_asg2, kAsg2_0, in_str, nin_str, slD, cutD, HT.sIx, maxD, itemsD, seqL, intsD, maxI, h0, k0, h1, k1, h2, k2] <;> (try split) <;> (try split) <;> omega)
  · rw [ip_eq]
    rcases sx x with ⟨h0, k0⟩ | ⟨h0, k0⟩ <;>
    rcases sx y with ⟨h1, k1⟩ | ⟨h1, k1⟩ <;>
    rcases sx z with ⟨h2, k2⟩ | ⟨h2, k2⟩
    all_goals (simp [b_is_plain_marked, g_WORDS, g_BOXES_marked, nin_str, slD, cutD, HT.sIx, maxD, itemsD, seqL, intsD, maxI, keysD, keyD, mergeD, ptK, lkK, getD2, dctD, eq_lstF, feqs, Tg.okF, h0, k0, h1, k1, h2, k2] <;> (try split) <;> (try split) <;> omega)
theorem pl_less {x : Int} {y : Int} {z : Int} : Pl (.tup [.str "less", .int x, .int y, .int z]) := by
  refine ⟨decide (x < 6) && decide (y < 6) && decide (z < 6), fun A => ⟨?_, ?_⟩⟩
  · rw [mp_eq]
    rcases sx x with ⟨h0, k0⟩ | ⟨h0, k0⟩ <;>
    rcases sx y with ⟨h1, k1⟩ | ⟨h1, k1⟩ <;>
    rcases sx z with ⟨h2, k2⟩ | ⟨h2, k2⟩
    all_goals (simp [b__law_may_be_plain, e_asg2, kAsg2_0, in_str, nin_str, slD, cutD, HT.sIx, maxD, itemsD, seqL, intsD, maxI, h0, k0, h1, k1, h2, k2] <;> (try split) <;> (try split) <;> omega)
  · rw [ip_eq]
    rcases sx x with ⟨h0, k0⟩ | ⟨h0, k0⟩ <;>
    rcases sx y with ⟨h1, k1⟩ | ⟨h1, k1⟩ <;>
    rcases sx z with ⟨h2, k2⟩ | ⟨h2, k2⟩
    all_goals (simp [b_is_plain_marked, g_WORDS, g_BOXES_marked, nin_str, slD, cutD, HT.sIx, maxD, itemsD, seqL, intsD, maxI, keysD, keyD, mergeD, ptK, lkK, getD2, dctD, eq_lstF, feqs, Tg.okF, h0, k0, h1, k1, h2, k2] <;> (try split) <;> (try split) <;> omega)
theorem pl_same {x : Int} {y : Int} {z : Int} : Pl (.tup [.str "same", .int x, .int y, .int z]) := by
  refine ⟨decide (x < 6) && decide (y < 6) && decide (z < 6), fun A => ⟨?_, ?_⟩⟩
  · rw [mp_eq]
    rcases sx x with ⟨h0, k0⟩ | ⟨h0, k0⟩ <;>
    rcases sx y with ⟨h1, k1⟩ | ⟨h1, k1⟩ <;>
    rcases sx z with ⟨h2, k2⟩ | ⟨h2, k2⟩
    all_goals (simp [b__law_may_be_plain, e_asg2, kAsg2_0, in_str, nin_str, slD, cutD, HT.sIx, maxD, itemsD, seqL, intsD, maxI, h0, k0, h1, k1, h2, k2] <;> (try split) <;> (try split) <;> omega)
  · rw [ip_eq]
    rcases sx x with ⟨h0, k0⟩ | ⟨h0, k0⟩ <;>
    rcases sx y with ⟨h1, k1⟩ | ⟨h1, k1⟩ <;>
    rcases sx z with ⟨h2, k2⟩ | ⟨h2, k2⟩
    all_goals (simp [b_is_plain_marked, g_WORDS, g_BOXES_marked, nin_str, slD, cutD, HT.sIx, maxD, itemsD, seqL, intsD, maxI, keysD, keyD, mergeD, ptK, lkK, getD2, dctD, eq_lstF, feqs, Tg.okF, h0, k0, h1, k1, h2, k2] <;> (try split) <;> (try split) <;> omega)
theorem pl_is {x : Int} {y : Int} : Pl (.tup [.str "is", .int x, .int y]) := by
  refine ⟨false, fun A => ⟨?_, ?_⟩⟩
  · rw [mp_eq]
    simp [b__law_may_be_plain, e_asg2, kAsg2_0, in_str, nin_str, slD, cutD, HT.sIx, maxD, itemsD, seqL, intsD, maxI]
  · rw [ip_eq]
    simp [b_is_plain_marked, g_WORDS, g_BOXES_marked, nin_str, slD, cutD, HT.sIx, maxD, itemsD, seqL, intsD, maxI, keysD, keyD, mergeD, ptK, lkK, getD2, dctD, eq_lstF, feqs, Tg.okF]
theorem pl_get {x : Int} {y : Int} {z : Int} : Pl (.tup [.str "get", .int x, .int y, .int z]) := by
  refine ⟨decide (z = 0) && decide (x < 6) && decide (y < 6), fun A => ⟨?_, ?_⟩⟩
  · rw [mp_eq]
    by_cases h0 : z = 0
    · subst h0
      simp [b__law_may_be_plain, e_asg2, kAsg2_0, in_str, nin_str, slD, cutD, HT.sIx, maxD, itemsD, seqL, intsD, maxI]
      try exact mx2
    · have h1 : (z == 0) = false := by simpa using h0
      simp [b__law_may_be_plain, e_asg2, kAsg2_0, in_str, nin_str, slD, cutD, HT.sIx, maxD, itemsD, seqL, intsD, maxI, h0, h1]
  · rw [ip_eq]
    by_cases h0 : z = 0
    · subst h0
      simp [b_is_plain_marked, g_WORDS, g_BOXES_marked, nin_str, slD, cutD, HT.sIx, maxD, itemsD, seqL, intsD, maxI, keysD, keyD, mergeD, ptK, lkK, getD2, dctD, eq_lstF, feqs, Tg.okF]
      try exact mx2
    · have h1 : (z == 0) = false := by simpa using h0
      simp [b_is_plain_marked, g_WORDS, g_BOXES_marked, nin_str, slD, cutD, HT.sIx, maxD, itemsD, seqL, intsD, maxI, keysD, keyD, mergeD, ptK, lkK, getD2, dctD, eq_lstF, feqs, Tg.okF, h0, h1]
theorem pl_set {x : Int} {y : Int} {z : Int} : Pl (.tup [.str "set", .int x, .int y, .int z]) := by
  refine ⟨decide (y = 0) && decide (x < 6) && decide (z < 6), fun A => ⟨?_, ?_⟩⟩
  · rw [mp_eq]
    by_cases h0 : y = 0
    · subst h0
      simp [b__law_may_be_plain, e_asg2, kAsg2_0, in_str, nin_str, slD, cutD, HT.sIx, maxD, itemsD, seqL, intsD, maxI]
      try exact mx2
    · have h1 : (y == 0) = false := by simpa using h0
      simp [b__law_may_be_plain, e_asg2, kAsg2_0, in_str, nin_str, slD, cutD, HT.sIx, maxD, itemsD, seqL, intsD, maxI, h0, h1]
  · rw [ip_eq]
    by_cases h0 : y = 0
    · subst h0
      simp [b_is_plain_marked, g_WORDS, g_BOXES_marked, nin_str, slD, cutD, HT.sIx, maxD, itemsD, seqL, intsD, maxI, keysD, keyD, mergeD, ptK, lkK, getD2, dctD, eq_lstF, feqs, Tg.okF]
      try exact mx2
    · have h1 : (y == 0) = false := by simpa using h0
      simp [b_is_plain_marked, g_WORDS, g_BOXES_marked, nin_str, slD, cutD, HT.sIx, maxD, itemsD, seqL, intsD, maxI, keysD, keyD, mergeD, ptK, lkK, getD2, dctD, eq_lstF, feqs, Tg.okF, h0, h1]
theorem pl_narrow {x : Int} {y : Int} {z : Int} : Pl (.tup [.str "narrow", .int x, .int y, .int z]) := by
  refine ⟨false, fun A => ⟨?_, ?_⟩⟩
  · rw [mp_eq]
    simp [b__law_may_be_plain, e_asg2, kAsg2_0, in_str, nin_str, slD, cutD, HT.sIx, maxD, itemsD, seqL, intsD, maxI]
  · rw [ip_eq]
    simp [b_is_plain_marked, g_WORDS, g_BOXES_marked, nin_str, slD, cutD, HT.sIx, maxD, itemsD, seqL, intsD, maxI, keysD, keyD, mergeD, ptK, lkK, getD2, dctD, eq_lstF, feqs, Tg.okF]
theorem pl_fewer {x : Int} {y : Int} {l : List Nat} : Pl (.tup [.str "fewer", .int x, .int y, .str (S l)]) := by
  refine ⟨false, fun A => ⟨?_, ?_⟩⟩
  · rw [mp_eq]
    simp [b__law_may_be_plain, e_asg2, kAsg2_0, in_str, nin_str, slD, cutD, HT.sIx, maxD, itemsD, seqL, intsD, maxI]
  · rw [ip_eq]
    simp [b_is_plain_marked, g_WORDS, g_BOXES_marked, nin_str, slD, cutD, HT.sIx, maxD, itemsD, seqL, intsD, maxI, keysD, keyD, mergeD, ptK, lkK, getD2, dctD, eq_lstF, feqs, Tg.okF]
theorem pl_gate {x : Int} {y : Int} {z : Int} : Pl (.tup [.str "gate", .int x, .int y, .int z]) := by
  refine ⟨false, fun A => ⟨?_, ?_⟩⟩
  · rw [mp_eq]
    simp [b__law_may_be_plain, e_asg2, kAsg2_0, in_str, nin_str, slD, cutD, HT.sIx, maxD, itemsD, seqL, intsD, maxI]
  · rw [ip_eq]
    simp [b_is_plain_marked, g_WORDS, g_BOXES_marked, nin_str, slD, cutD, HT.sIx, maxD, itemsD, seqL, intsD, maxI, keysD, keyD, mergeD, ptK, lkK, getD2, dctD, eq_lstF, feqs, Tg.okF]
theorem pl_enter {x : Int} : Pl (.tup [.str "enter", .int x]) := by
  refine ⟨false, fun A => ⟨?_, ?_⟩⟩
  · rw [mp_eq]
    simp [b__law_may_be_plain, e_asg2, kAsg2_0, in_str, nin_str, slD, cutD, HT.sIx, maxD, itemsD, seqL, intsD, maxI]
  · rw [ip_eq]
    simp [b_is_plain_marked, g_WORDS, g_BOXES_marked, nin_str, slD, cutD, HT.sIx, maxD, itemsD, seqL, intsD, maxI, keysD, keyD, mergeD, ptK, lkK, getD2, dctD, eq_lstF, feqs, Tg.okF]
theorem pl_room {x : Int} : Pl (.tup [.str "room", .int x]) := by
  refine ⟨false, fun A => ⟨?_, ?_⟩⟩
  · rw [mp_eq]
    simp [b__law_may_be_plain, e_asg2, kAsg2_0, in_str, nin_str, slD, cutD, HT.sIx, maxD, itemsD, seqL, intsD, maxI]
  · rw [ip_eq]
    simp [b_is_plain_marked, g_WORDS, g_BOXES_marked, nin_str, slD, cutD, HT.sIx, maxD, itemsD, seqL, intsD, maxI, keysD, keyD, mergeD, ptK, lkK, getD2, dctD, eq_lstF, feqs, Tg.okF]
theorem pl_shut {x : Int} : Pl (.tup [.str "shut", .int x]) := by
  refine ⟨false, fun A => ⟨?_, ?_⟩⟩
  · rw [mp_eq]
    simp [b__law_may_be_plain, e_asg2, kAsg2_0, in_str, nin_str, slD, cutD, HT.sIx, maxD, itemsD, seqL, intsD, maxI]
  · rw [ip_eq]
    simp [b_is_plain_marked, g_WORDS, g_BOXES_marked, nin_str, slD, cutD, HT.sIx, maxD, itemsD, seqL, intsD, maxI, keysD, keyD, mergeD, ptK, lkK, getD2, dctD, eq_lstF, feqs, Tg.okF]
theorem pl_say {x : Int} : Pl (.tup [.str "say", .int x]) := by
  refine ⟨decide (x < 6), fun A => ⟨?_, ?_⟩⟩
  · rw [mp_eq]
    rcases sx x with ⟨h0, k0⟩ | ⟨h0, k0⟩
    all_goals (simp [b__law_may_be_plain, e_asg2, kAsg2_0, in_str, nin_str, slD, cutD, HT.sIx, maxD, itemsD, seqL, intsD, maxI, h0, k0] <;> (try split) <;> (try split) <;> omega)
  · rw [ip_eq]
    rcases sx x with ⟨h0, k0⟩ | ⟨h0, k0⟩
    all_goals (simp [b_is_plain_marked, g_WORDS, g_BOXES_marked, nin_str, slD, cutD, HT.sIx, maxD, itemsD, seqL, intsD, maxI, keysD, keyD, mergeD, ptK, lkK, getD2, dctD, eq_lstF, feqs, Tg.okF, h0, k0] <;> (try split) <;> (try split) <;> omega)
theorem pl_go {x : Int} : Pl (.tup [.str "go", .int x]) := by
  refine ⟨true, fun A => ⟨?_, ?_⟩⟩
  · rw [mp_eq]
    simp [b__law_may_be_plain, e_asg2, kAsg2_0, in_str, nin_str, slD, cutD, HT.sIx, maxD, itemsD, seqL, intsD, maxI]
  · rw [ip_eq]
    simp [b_is_plain_marked, g_WORDS, g_BOXES_marked, nin_str, slD, cutD, HT.sIx, maxD, itemsD, seqL, intsD, maxI, keysD, keyD, mergeD, ptK, lkK, getD2, dctD, eq_lstF, feqs, Tg.okF]
theorem pl_if {x : Int} {y : Int} : Pl (.tup [.str "if", .int x, .int y]) := by
  refine ⟨decide (x < 6), fun A => ⟨?_, ?_⟩⟩
  · rw [mp_eq]
    rcases sx x with ⟨h0, k0⟩ | ⟨h0, k0⟩
    all_goals (simp [b__law_may_be_plain, e_asg2, kAsg2_0, in_str, nin_str, slD, cutD, HT.sIx, maxD, itemsD, seqL, intsD, maxI, h0, k0] <;> (try split) <;> (try split) <;> omega)
  · rw [ip_eq]
    rcases sx x with ⟨h0, k0⟩ | ⟨h0, k0⟩
    all_goals (simp [b_is_plain_marked, g_WORDS, g_BOXES_marked, nin_str, slD, cutD, HT.sIx, maxD, itemsD, seqL, intsD, maxI, keysD, keyD, mergeD, ptK, lkK, getD2, dctD, eq_lstF, feqs, Tg.okF, h0, k0] <;> (try split) <;> (try split) <;> omega)
theorem pl_end  : Pl (.tup [.str "end"]) := by
  refine ⟨true, fun A => ⟨?_, ?_⟩⟩
  · rw [mp_eq]
    simp [b__law_may_be_plain, e_asg2, kAsg2_0, in_str, nin_str, slD, cutD, HT.sIx, maxD, itemsD, seqL, intsD, maxI]
  · rw [ip_eq]
    simp [b_is_plain_marked, g_WORDS, g_BOXES_marked, nin_str, slD, cutD, HT.sIx, maxD, itemsD, seqL, intsD, maxI, keysD, keyD, mergeD, ptK, lkK, getD2, dctD, eq_lstF, feqs, Tg.okF]
end K01

set_option Elab.async false
set_option linter.all false
set_option maxRecDepth 100000
set_option maxHeartbeats 4000000
/-! K01Y: need_plain, need_numbers, need_state, keyed. -/
namespace K01
open PySem Tg L2
open SX (S)
theorem plain_both {rows : Nat} {r : RW} (h : r.Ok rows) : Pl r.d :=
  row_cases (P := Pl) (fun x y _ _ => pl_put) (fun x _ _ y _ _ => pl_move) (fun x _ _ y _ _ z _ _ => pl_add) (fun x _ _ y _ _ z _ _ => pl_take) (fun x _ _ y _ _ z _ _ => pl_less) (fun x _ _ y _ _ z _ _ => pl_same) (fun x _ _ y _ _ => pl_is) (fun x _ _ y _ _ z => pl_get) (fun x _ _ y z _ _ => pl_set) (fun x _ _ y _ _ z _ _ => pl_narrow) (fun x _ _ y _ _ l => pl_fewer) (fun x _ _ y _ _ z => pl_gate) (fun x _ _ => pl_enter) (fun x _ _ => pl_room) (fun x _ _ => pl_shut) (fun x _ _ => pl_say) (fun x _ _ => pl_go) (fun x _ _ y _ _ => pl_if) pl_end h
open Classical in
noncomputable def plB (d : D) : Bool := if h : Pl d then choose h else false
theorem plB_ok {d : D} (h : Pl d) (A : AH) : m__law_may_be_plain [d] A = .ok (.bl (plB d)) A ∧ m_is_plain_marked [d] A = .ok (.bl (plB d)) A := by
  unfold plB
  rw [dif_pos h]
  exact Classical.choose_spec h A
noncomputable def npl (prog : List RW) (k : Nat) : Bool := decide (29 < k) || !(plB ((prog.map RW.d).getD k .non))
noncomputable def firstP (prog : List RW) : Option Nat := (List.range prog.length).find? (npl prog)
def bNL : MS := (mIfS (mOr (mTb (mBin geD (mv 1) (mc g_MOST_PLAIN))) (mNot (mTb (mCall m_is_plain_marked (mCons (mBin ixD (mv 0) (mv 1)) mNil))))) (mRaise "BadProgram" "row" (mv 1)) mNx)
theorem npl_eq : b_need_plain = mSeq (mDrop (mCall m_need_program (mCons (mv 0) mNil))) (mFor (mRng1 (mCons (mCall lenD (mCons (mv 0) mNil)) mNil)) (gmN 1) bNL) := rfl
section
variable {prog : List RW} {A : AH} {i : Nat}
theorem ds_at (hi : i < prog.length) : (prog.map RW.d)[i]? = some (prog[i]).d := by
  rw [List.getElem?_map, List.getElem?_eq_getElem hi]
  rfl
theorem ds_getD (hi : i < prog.length) : (prog.map RW.d).getD i .non = (prog[i]).d := by
  rw [List.getD_eq_getElem?_getD, ds_at hi]
  rfl
theorem bNL_step (h : ∀ r ∈ prog, r.Ok prog.length) (hi : i < prog.length) : bNL [some (.tup (prog.map RW.d)), some (.int (i : Int))] A = if npl prog i = true then .exc (badP i) [some (.tup (prog.map RW.d)), some (.int (i : Int))] A else .nx [some (.tup (prog.map RW.d)), some (.int (i : Int))] A := by
  have hq : ixD (.tup (prog.map RW.d)) (.int (i : Int)) A = .ok (prog[i]).d A := ix_tup (atI_ok (ds_at hi))
  have hp := (plB_ok (plain_both (h _ (List.getElem_mem hi))) A).2
  have e : (mRaise "BadProgram" "row" (mv 1)) [some (.tup (prog.map RW.d)), some (.int (i : Int))] A = .exc (badP i) [some (.tup (prog.map RW.d)), some (.int (i : Int))] A := rfl
  unfold npl
  rw [ds_getD hi]
  by_cases h30 : (30 : Int) ≤ i
  · have h29 : 29 < i := by omega
    simp only [bNL, e_ifS, e_or, e_tb, e_bin, e_mvS, e_mv0, kB1_0, e_mc, g_MOST_PLAIN, kB2_0, o_ge, h30, decide_true, kT_0, kOr_0, kIf_0, e, h29, Bool.true_or, if_true]
  · have h29 : ¬ 29 < i := by omega
    cases q : plB (prog[i]).d with
    | true => simp only [bNL, e_ifS, e_or, e_tb, e_bin, e_mvS, e_mv0, kB1_0, e_mc, g_MOST_PLAIN, kB2_0, o_ge, h30, decide_false, kT_0, kOr_1, e_not, e_call, e_cons, kC1_0, e_nil, kC2_0, hq, kCall_0, hp, q, kN_0, Bool.not_true, kIf_1, e_nx, h29, Bool.false_or, if_false, Bool.false_eq_true]
    | false => simp only [bNL, e_ifS, e_or, e_tb, e_bin, e_mvS, e_mv0, kB1_0, e_mc, g_MOST_PLAIN, kB2_0, o_ge, h30, decide_false, kT_0, kOr_1, e_not, e_call, e_cons, kC1_0, e_nil, kC2_0, hq, kCall_0, hp, q, kN_0, Bool.not_false, kIf_0, e, h29, Bool.false_or, if_true]
theorem need_plain_is (h : ∀ r ∈ prog, r.Ok prog.length) (h0 : prog ≠ []) (h1 : prog.length ≤ 60) : m_need_plain [.tup (prog.map RW.d)] A = match firstP prog with
    | none => .ok .non A
    | some k => .exc (badP k) A := by
  have e0 : m_need_plain [.tup (prog.map RW.d)] A = finS (b_need_plain [some (.tup (prog.map RW.d)), none] A) := rfl
  have eN : (mDrop (mCall m_need_program (mCons (mv 0) mNil))) [some (.tup (prog.map RW.d)), none] A = .nx [some (.tup (prog.map RW.d)), none] A := drop_ok (call_ok (cons_ok rfl rfl) (need_program_ok h h0 h1))
  have rg := np_rng (ds := prog.map RW.d) (A := A) (o := none) (by rw [List.length_map]; omega)
  rw [List.length_map] at rg
  rw [e0, npl_eq, e_seq, eN, RS.nxt_nx, mFor_data rg]
  cases q : firstP prog with
  | none =>
    have hn : ∀ i, i < prog.length → npl prog i = false := fun i hi => by
      have := List.find?_eq_none.mp q i (List.mem_range.mpr hi)
      simpa using this
    obtain ⟨o', e⟩ := loop_all (b := bNL) (x := some (.tup (prog.map RW.d))) (A := A) (n := prog.length) (o := none) fun i hi => by
      rw [bNL_step h hi, hn i hi]
      rfl
    rw [e]
    rfl
  | some k =>
    obtain ⟨hk, hl, hb⟩ := List.find?_range_eq_some.mp q
    have hkl := List.mem_range.mp hl
    have e := loop_x (b := bNL) (x := some (.tup (prog.map RW.d))) (A := A) (n := prog.length) (o := none) hkl (fun i hi => by
      have := hb i hi
      rw [bNL_step h (by omega), if_neg (by simpa using this)]) (by rw [bNL_step h hkl, if_pos hk])
    rw [e]
    rfl
end
theorem need_numbers_is {A : AH} : m_need_numbers [.lst []] A = .exc ⟨"BadWord", some [("place", .int 0)]⟩ A := by
  have e0 : m_need_numbers [.lst []] A = finS (b_need_numbers [some (.lst []), none] A) := rfl
  have rg : mRng1 (mCons (mCall maxD (mCons (mc g_CELLS) (mCons (mCall lenD (mCons (mv 0) mNil)) mNil))) mNil) [some (.lst []), none] A = .ok (.data ((List.range 64).map fun i : Nat => D.int (i : Int))) A := rng1 (j := 64) (cons_ok (call_ok (cons_ok rfl (cons_ok rfl rfl)) rfl) rfl) (by omega)
  unfold b_need_numbers at e0
  rw [mFor_data rg] at e0
  rw [e0, show (List.range 64) = 0 :: List.range' 1 63 from rfl, List.map_cons]
  refine fin_x (s2 := [some (.lst []), some (.int ((0 : Nat) : Int))]) (fl_x (s1 := [some (.lst []), some (.int ((0 : Nat) : Int))]) rfl ?_)
  exact iS_t (or_t (tb_ok (bin_ok rfl (call_ok (cons_ok rfl rfl) rfl) rfl))) rfl
theorem need_state_is {A : AH} {n m : Int} (h : ¬ (0 ≤ m ∧ m < 13)) : m_need_state [.int n, .int m, .lst [], .lst []] A = .exc ⟨"BadRooms", none⟩ A := by
  have e0 : m_need_state [.int n, .int m, .lst [], .lst []] A = finS (b_need_state [some (.int n), some (.int m), some (.lst []), some (.lst []), none] A) := rfl
  have w : m_is_within [.int m, .int 0, .int 13] A = .ok (.bl false) A := by
    rw [within_gen (.int m)]
    congr 2
    show (decide (0 ≤ m) && decide (m < 13)) = false
    by_cases h0 : 0 ≤ m
    · have : ¬ m < 13 := fun z => h ⟨h0, z⟩
      simp [this]
    · simp [h0]
  rw [e0]
  refine fin_x (seq_x (s2 := [some (.int n), some (.int m), some (.lst []), some (.lst []), none]) (iS_t (not_ok (b := false) (tb_ok (call_ok (cons_ok rfl (cons_ok rfl (cons_ok rfl rfl))) w))) rfl))
end K01

set_option Elab.async false
set_option linter.all false
set_option maxRecDepth 100000
set_option maxHeartbeats 4000000
/-! K01G: keyed returns. -/
namespace K01
open PySem Tg L2
open SX (S)
def y0 : MS := (mDrop (mCall m_need_plain (mCons (mv 0) mNil)))
def y1 : MS := (mAsg (mLstN mNil) (gmN 1))
def y2 : MS := (mAsg (mLstN mNil) (gmN 2))
def y4 : MS := (mAsg (mLstN mNil) (gmN 4))
def y6 : MS := (mRet (mTup (mCons (mCall tupD (mCons (mv 4) mNil)) (mCons (mCall tupD (mCons (mv 2) mNil)) mNil))))
def y3b : MS := (mSeq (mDrop (mMt "list" appD (mv 1) (mCons (mCall lenD (mCons (mv 2) mNil)) mNil)))
  (mDrop (mMt "list" extD (mv 2) (mCons (mBin mulD (mLst (mCons (mv 3) mNil)) (mIf (mTb (mBin inD (mBin ixD (mBin ixD (mv 0) (mv 3)) (mc (.int (0)))) (mTup (mCons (mc (.str "get")) (mCons (mc (.str "set")) mNil))))) (mc (.int (2))) (mc (.int (1))))) mNil))))
def y5b : MS := (mIfS (mTb (mBin eqD (mBin ixD (mv 5) (mc (.int (0)))) (mc (.str "get")))) (mDrop (mMt "list" extD (mv 4) (mCons (mLst (mCons (mTup (mCons (mc (.str "add")) (mCons (mc g_PLACE) (mCons (mc g_WHOLE) (mCons (mBin ixD (mv 5) (mc (.int (2)))) mNil))))) (mCons (mTup (mCons (mc (.str "get")) (mCons (mBin ixD (mv 5) (mc (.int (1)))) (mCons (mc g_PLACE) (mCons (mc (.int (0))) mNil))))) mNil))) mNil))) (mIfS (mTb (mBin eqD (mBin ixD (mv 5) (mc (.int (0)))) (mc (.str "set")))) (mDrop (mMt "list" extD (mv 4) (mCons (mLst (mCons (mTup (mCons (mc (.str "add")) (mCons (mc g_PLACE) (mCons (mc g_WHOLE) (mCons (mBin ixD (mv 5) (mc (.int (1)))) mNil))))) (mCons (mTup (mCons (mc (.str "set")) (mCons (mc g_PLACE) (mCons (mc (.int (0))) (mCons (mBin ixD (mv 5) (mc (.int (3)))) mNil))))) mNil))) mNil))) (mIfS (mTb (mBin inD (mBin ixD (mv 5) (mc (.int (0)))) (mTup (mCons (mc (.str "go")) (mCons (mc (.str "if")) mNil))))) (mDrop (mMt "list" appD (mv 4) (mCons (mBin addD (mSl (mv 5) mNoPart (mPart (mUn negD (mc (.int (1)))))) (mTup (mCons (mBin ixD (mv 1) (mBin ixD (mv 5) (mUn negD (mc (.int (1)))))) mNil))) mNil))) (mDrop (mMt "list" appD (mv 4) (mCons (mv 5) mNil))))))
def y3 : MS := mFor (mRng1 (mCons (mCall lenD (mCons (mv 0) mNil)) mNil)) (gmN 3) y3b
def y5 : MS := mFor (miAny (mv 0)) (gmN 5) y5b
theorem keyed_eq : b_keyed = mSeq y0 (mSeq y1 (mSeq y2 (mSeq y3 (mSeq y4 (mSeq y5 y6))))) := rfl
theorem gA0 {A : AH} {x y : AO} : (A ++ [x, y])[A.length]? = some x := by simp
theorem gA1 {A : AH} {x y : AO} : (A ++ [x, y])[A.length + 1]? = some y := by simp
theorem sA0 {A : AH} {x y z : AO} : (A ++ [x, y]).set A.length z = A ++ [z, y] := by simp
theorem sA1 {A : AH} {x y z : AO} : (A ++ [x, y]).set (A.length + 1) z = A ++ [x, z] := by simp
theorem gB0 {A : AH} {x y u : AO} : (A ++ [x, y, u])[A.length]? = some x := by simp
theorem gB2 {A : AH} {x y u : AO} : (A ++ [x, y, u])[A.length + 2]? = some u := by simp
theorem sB2 {A : AH} {x y u z : AO} : (A ++ [x, y, u]).set (A.length + 2) z = A ++ [x, y, z] := by simp
theorem ext_at {n : Nat} {ds es : List D} {A : AH} (hA : A[n]? = some (.lst ds)) (h : ds.length + es.length ≤ 16777216) : extD (.ref n) [.lst es] A = .ok .non (A.set n (.lst (ds ++ es))) := by
  simp [extD, lstL, hA, h]
section
variable {prog : List RW} {A : AH} {j : Nat}
theorem y3_step (hj : j < prog.length) (h1 : prog.length ≤ 60) {bs os : List D} (hb : bs.length = j) (ho : os.length ≤ 2 * j) (hi : ∀ d ∈ bs, ∃ i, d = D.int i) {o4 o5 : Option D} :
    ∃ i es, es.length ≤ 2 ∧ y3b [some (.tup (prog.map RW.d)), some (.ref A.length), some (.ref (A.length + 1)), some (.int (j : Int)), o4, o5] (A ++ [.lst bs, .lst os]) = .nx [some (.tup (prog.map RW.d)), some (.ref A.length), some (.ref (A.length + 1)), some (.int (j : Int)), o4, o5] (A ++ [.lst (bs ++ [D.int i]), .lst (os ++ es)]) := by
  have e1 : ((mDrop (mMt "list" appD (mv 1) (mCons (mCall lenD (mCons (mv 2) mNil)) mNil)))) [some (.tup (prog.map RW.d)), some (.ref A.length), some (.ref (A.length + 1)), some (.int (j : Int)), o4, o5] (A ++ [.lst bs, .lst os]) = .nx [some (.tup (prog.map RW.d)), some (.ref A.length), some (.ref (A.length + 1)), some (.int (j : Int)), o4, o5] (A ++ [.lst (bs ++ [D.int os.length]), .lst os]) := by
    exact drop_ok (d := .non) (mt_ok rfl (ty_ref gA0) (cons_ok (call_ok (cons_ok rfl rfl) (len_lst gA1)) rfl) ((app_at gA0 (by omega)).trans (by rw [sA0])))
  have hq : ∀ B, ixD (.tup (prog.map RW.d)) (.int (j : Int)) B = .ok (prog[j]).d B := fun B => ix_tup (atI_ok (ds_at hj))
  have hw : ∀ B, ixD (prog[j]).d (.int 0) B = .ok (.str (S (prog[j]).w)) B := fun B => ix_tup (atI_ok (i := 0) (xs := .str (S (prog[j]).w) :: (prog[j]).ps.map PT.d) rfl)
  obtain ⟨b, hin⟩ : ∃ b, ∀ B, inD (.str (S (prog[j]).w)) (.tup [.str "get", .str "set"]) B = .ok (.bl b) B := ⟨_, fun B => in_str rfl⟩
  obtain ⟨k, hk, e2⟩ : ∃ k : Nat, k ≤ 2 ∧ ∀ B, ((mIf (mTb (mBin inD (mBin ixD (mBin ixD (mv 0) (mv 3)) (mc (.int (0)))) (mTup (mCons (mc (.str "get")) (mCons (mc (.str "set")) mNil))))) (mc (.int (2))) (mc (.int (1))))) [some (.tup (prog.map RW.d)), some (.ref A.length), some (.ref (A.length + 1)), some (.int (j : Int)), o4, o5] B = .ok (.int (k : Int)) B := by
    cases b with
    | true => exact ⟨2, Nat.le_refl 2, fun B => if_t (tb_ok (bin_ok (bin_ok (bin_ok rfl rfl (hq B)) rfl (hw B)) rfl (hin B))) rfl⟩
    | false => exact ⟨1, by omega, fun B => if_f (tb_ok (bin_ok (bin_ok (bin_ok rfl rfl (hq B)) rfl (hw B)) rfl (hin B))) rfl⟩
  refine ⟨os.length, List.replicate k (.int (j : Int)), by rw [List.length_replicate]; exact hk, seq_nx e1 (drop_ok (d := .non) (mt_ok rfl (ty_ref gA1) (cons_ok (bin_ok (lst_ok (cons_ok rfl rfl)) (e2 _) (mulL (by omega))) rfl) ((ext_at gA1 (by rw [List.length_replicate]; omega)).trans (by rw [sA1]))))⟩
/-- a row of the second loop: what it adds -/
def K5 (n : Nat) (d : D) : Prop := ∀ (s0 s3 : Option D) (nb nr : Nat) (os : D) (B : AH) (bs rs : List D), B[nb]? = some (.lst bs) → bs.length = n → B[nr]? = some (.lst rs) → rs.length ≤ 1000 → nb ≠ nr → ∃ es : List D, es.length ≤ 2 ∧ y5b [s0, some (.ref nb), some os, s3, some (.ref nr), some d] B = .nx [s0, some (.ref nb), some os, s3, some (.ref nr), some d] (B.set nr (.lst (rs ++ es)))
theorem at_rng {n : Nat} {x : Int} {bs : List D} (h0 : 0 ≤ x) (h1 : x < (n : Int)) (hl : bs.length = n) : ∃ d, atI bs x = some d := by
  obtain ⟨k, rfl⟩ := Int.eq_ofNat_of_zero_le h0
  have hk : k < bs.length := by omega
  exact ⟨bs[k], atI_ok (List.getElem?_eq_getElem hk)⟩
theorem k5_put {n : Nat} {x : Int} {y : Int} : K5 n (.tup [.str "put", .int x, .int y]) := by
  intro s0 s3 nb nr os B bs rs h1 h2 h3 h4 h5
  refine ⟨[.tup [.str "put", .int x, .int y]], by simp, ?_⟩
  have e : appD (.ref nr) [.tup [.str "put", .int x, .int y]] B = _ := app_at h3 (by omega)
  simp [y5b, in_str, g_PLACE, g_WHOLE, seq_ref, h3, e, slD, cutD, HT.sIx, addD, atI, ixN]
theorem k5_move {n : Nat} {x : Int} {y : Int} : K5 n (.tup [.str "move", .int x, .int y]) := by
  intro s0 s3 nb nr os B bs rs h1 h2 h3 h4 h5
  refine ⟨[.tup [.str "move", .int x, .int y]], by simp, ?_⟩
  have e : appD (.ref nr) [.tup [.str "move", .int x, .int y]] B = _ := app_at h3 (by omega)
  simp [y5b, in_str, g_PLACE, g_WHOLE, seq_ref, h3, e, slD, cutD, HT.sIx, addD, atI, ixN]
theorem k5_add {n : Nat} {x : Int} {y : Int} {z : Int} : K5 n (.tup [.str "add", .int x, .int y, .int z]) := by
  intro s0 s3 nb nr os B bs rs h1 h2 h3 h4 h5
  refine ⟨[.tup [.str "add", .int x, .int y, .int z]], by simp, ?_⟩
  have e : appD (.ref nr) [.tup [.str "add", .int x, .int y, .int z]] B = _ := app_at h3 (by omega)
  simp [y5b, in_str, g_PLACE, g_WHOLE, seq_ref, h3, e, slD, cutD, HT.sIx, addD, atI, ixN]
theorem k5_take {n : Nat} {x : Int} {y : Int} {z : Int} : K5 n (.tup [.str "take", .int x, .int y, .int z]) := by
  intro s0 s3 nb nr os B bs rs h1 h2 h3 h4 h5
  refine ⟨[.tup [.str "take", .int x, .int y, .int z]], by simp, ?_⟩
  have e : appD (.ref nr) [.tup [.str "take", .int x, .int y, .int z]] B = _ := app_at h3 (by omega)
  simp [y5b, in_str, g_PLACE, g_WHOLE, seq_ref, h3, e, slD, cutD, HT.sIx, addD, atI, ixN]
theorem k5_less {n : Nat} {x : Int} {y : Int} {z : Int} : K5 n (.tup [.str "less", .int x, .int y, .int z]) := by
  intro s0 s3 nb nr os B bs rs h1 h2 h3 h4 h5
  refine ⟨[.tup [.str "less", .int x, .int y, .int z]], by simp, ?_⟩
  have e : appD (.ref nr) [.tup [.str "less", .int x, .int y, .int z]] B = _ := app_at h3 (by omega)
  simp [y5b, in_str, g_PLACE, g_WHOLE, seq_ref, h3, e, slD, cutD, HT.sIx, addD, atI, ixN]
theorem k5_same {n : Nat} {x : Int} {y : Int} {z : Int} : K5 n (.tup [.str "same", .int x, .int y, .int z]) := by
  intro s0 s3 nb nr os B bs rs h1 h2 h3 h4 h5
  refine ⟨[.tup [.str "same", .int x, .int y, .int z]], by simp, ?_⟩
  have e : appD (.ref nr) [.tup [.str "same", .int x, .int y, .int z]] B = _ := app_at h3 (by omega)
  simp [y5b, in_str, g_PLACE, g_WHOLE, seq_ref, h3, e, slD, cutD, HT.sIx, addD, atI, ixN]
theorem k5_is {n : Nat} {x : Int} {y : Int} : K5 n (.tup [.str "is", .int x, .int y]) := by
  intro s0 s3 nb nr os B bs rs h1 h2 h3 h4 h5
  refine ⟨[.tup [.str "is", .int x, .int y]], by simp, ?_⟩
  have e : appD (.ref nr) [.tup [.str "is", .int x, .int y]] B = _ := app_at h3 (by omega)
  simp [y5b, in_str, g_PLACE, g_WHOLE, seq_ref, h3, e, slD, cutD, HT.sIx, addD, atI, ixN]
theorem k5_get {n : Nat} {x : Int} {y : Int} {z : Int} : K5 n (.tup [.str "get", .int x, .int y, .int z]) := by
  intro s0 s3 nb nr os B bs rs h1 h2 h3 h4 h5
  refine ⟨[.tup [.str "add", .int 6, .int 7, .int y], .tup [.str "get", .int x, .int 6, .int 0]], by simp, ?_⟩
  have e : extD (.ref nr) [.lst [.tup [.str "add", .int 6, .int 7, .int y], .tup [.str "get", .int x, .int 6, .int 0]]] B = _ := ext_at h3 (by simp; omega)
  simp [y5b, in_str, g_PLACE, g_WHOLE, seq_ref, h3, e, slD, cutD, HT.sIx, addD, atI, ixN]
theorem k5_set {n : Nat} {x : Int} {y : Int} {z : Int} : K5 n (.tup [.str "set", .int x, .int y, .int z]) := by
  intro s0 s3 nb nr os B bs rs h1 h2 h3 h4 h5
  refine ⟨[.tup [.str "add", .int 6, .int 7, .int x], .tup [.str "set", .int 6, .int 0, .int z]], by simp, ?_⟩
  have e : extD (.ref nr) [.lst [.tup [.str "add", .int 6, .int 7, .int x], .tup [.str "set", .int 6, .int 0, .int z]]] B = _ := ext_at h3 (by simp; omega)
  simp [y5b, in_str, g_PLACE, g_WHOLE, seq_ref, h3, e, slD, cutD, HT.sIx, addD, atI, ixN]
theorem k5_narrow {n : Nat} {x : Int} {y : Int} {z : Int} : K5 n (.tup [.str "narrow", .int x, .int y, .int z]) := by
  intro s0 s3 nb nr os B bs rs h1 h2 h3 h4 h5
  refine ⟨[.tup [.str "narrow", .int x, .int y, .int z]], by simp, ?_⟩
  have e : appD (.ref nr) [.tup [.str "narrow", .int x, .int y, .int z]] B = _ := app_at h3 (by omega)
  simp [y5b, in_str, g_PLACE, g_WHOLE, seq_ref, h3, e, slD, cutD, HT.sIx, addD, atI, ixN]
theorem k5_fewer {n : Nat} {x : Int} {y : Int} {l : List Nat} : K5 n (.tup [.str "fewer", .int x, .int y, .str (S l)]) := by
  intro s0 s3 nb nr os B bs rs h1 h2 h3 h4 h5
  refine ⟨[.tup [.str "fewer", .int x, .int y, .str (S l)]], by simp, ?_⟩
  have e : appD (.ref nr) [.tup [.str "fewer", .int x, .int y, .str (S l)]] B = _ := app_at h3 (by omega)
  simp [y5b, in_str, g_PLACE, g_WHOLE, seq_ref, h3, e, slD, cutD, HT.sIx, addD, atI, ixN]
theorem k5_gate {n : Nat} {x : Int} {y : Int} {z : Int} : K5 n (.tup [.str "gate", .int x, .int y, .int z]) := by
  intro s0 s3 nb nr os B bs rs h1 h2 h3 h4 h5
  refine ⟨[.tup [.str "gate", .int x, .int y, .int z]], by simp, ?_⟩
  have e : appD (.ref nr) [.tup [.str "gate", .int x, .int y, .int z]] B = _ := app_at h3 (by omega)
  simp [y5b, in_str, g_PLACE, g_WHOLE, seq_ref, h3, e, slD, cutD, HT.sIx, addD, atI, ixN]
theorem k5_enter {n : Nat} {x : Int} : K5 n (.tup [.str "enter", .int x]) := by
  intro s0 s3 nb nr os B bs rs h1 h2 h3 h4 h5
  refine ⟨[.tup [.str "enter", .int x]], by simp, ?_⟩
  have e : appD (.ref nr) [.tup [.str "enter", .int x]] B = _ := app_at h3 (by omega)
  simp [y5b, in_str, g_PLACE, g_WHOLE, seq_ref, h3, e, slD, cutD, HT.sIx, addD, atI, ixN]
theorem k5_room {n : Nat} {x : Int} : K5 n (.tup [.str "room", .int x]) := by
  intro s0 s3 nb nr os B bs rs h1 h2 h3 h4 h5
  refine ⟨[.tup [.str "room", .int x]], by simp, ?_⟩
  have e : appD (.ref nr) [.tup [.str "room", .int x]] B = _ := app_at h3 (by omega)
  simp [y5b, in_str, g_PLACE, g_WHOLE, seq_ref, h3, e, slD, cutD, HT.sIx, addD, atI, ixN]
theorem k5_shut {n : Nat} {x : Int} : K5 n (.tup [.str "shut", .int x]) := by
  intro s0 s3 nb nr os B bs rs h1 h2 h3 h4 h5
  refine ⟨[.tup [.str "shut", .int x]], by simp, ?_⟩
  have e : appD (.ref nr) [.tup [.str "shut", .int x]] B = _ := app_at h3 (by omega)
  simp [y5b, in_str, g_PLACE, g_WHOLE, seq_ref, h3, e, slD, cutD, HT.sIx, addD, atI, ixN]
theorem k5_say {n : Nat} {x : Int} : K5 n (.tup [.str "say", .int x]) := by
  intro s0 s3 nb nr os B bs rs h1 h2 h3 h4 h5
  refine ⟨[.tup [.str "say", .int x]], by simp, ?_⟩
  have e : appD (.ref nr) [.tup [.str "say", .int x]] B = _ := app_at h3 (by omega)
  simp [y5b, in_str, g_PLACE, g_WHOLE, seq_ref, h3, e, slD, cutD, HT.sIx, addD, atI, ixN]
theorem k5_go {n : Nat} {x : Int} (g0 : 0 ≤ x) (g1 : x < (n : Int)) : K5 n (.tup [.str "go", .int x]) := by
  intro s0 s3 nb nr os B bs rs h1 h2 h3 h4 h5
  obtain ⟨d, hd⟩ := at_rng g0 g1 h2
  have hq : ixD (.ref nb) (.int x) B = .ok d B := ix_ref h1 hd
  refine ⟨[.tup [.str "go", d]], by simp, ?_⟩
  have e : appD (.ref nr) [.tup [.str "go", d]] B = _ := app_at h3 (by omega)
  simp [y5b, in_str, g_PLACE, g_WHOLE, seq_ref, h3, e, slD, cutD, HT.sIx, addD, hq, atI, ixN]
theorem k5_if {n : Nat} {x : Int} {y : Int} (g0 : 0 ≤ y) (g1 : y < (n : Int)) : K5 n (.tup [.str "if", .int x, .int y]) := by
  intro s0 s3 nb nr os B bs rs h1 h2 h3 h4 h5
  obtain ⟨d, hd⟩ := at_rng g0 g1 h2
  have hq : ixD (.ref nb) (.int y) B = .ok d B := ix_ref h1 hd
  refine ⟨[.tup [.str "if", .int x, d]], by simp, ?_⟩
  have e : appD (.ref nr) [.tup [.str "if", .int x, d]] B = _ := app_at h3 (by omega)
  simp [y5b, in_str, g_PLACE, g_WHOLE, seq_ref, h3, e, slD, cutD, HT.sIx, addD, hq, atI, ixN]
theorem k5_end {n : Nat}  : K5 n (.tup [.str "end"]) := by
  intro s0 s3 nb nr os B bs rs h1 h2 h3 h4 h5
  refine ⟨[.tup [.str "end"]], by simp, ?_⟩
  have e : appD (.ref nr) [.tup [.str "end"]] B = _ := app_at h3 (by omega)
  simp [y5b, in_str, g_PLACE, g_WHOLE, seq_ref, h3, e, slD, cutD, HT.sIx, addD, atI, ixN]
theorem k5_row {n : Nat} {r : RW} (h : r.Ok n) : K5 n r.d :=
  row_cases (P := K5 n) (fun x y _ _ => k5_put) (fun x _ _ y _ _ => k5_move) (fun x _ _ y _ _ z _ _ => k5_add) (fun x _ _ y _ _ z _ _ => k5_take) (fun x _ _ y _ _ z _ _ => k5_less) (fun x _ _ y _ _ z _ _ => k5_same) (fun x _ _ y _ _ => k5_is) (fun x _ _ y _ _ z => k5_get) (fun x _ _ y z _ _ => k5_set) (fun x _ _ y _ _ z _ _ => k5_narrow) (fun x _ _ y _ _ l => k5_fewer) (fun x _ _ y _ _ z => k5_gate) (fun x _ _ => k5_enter) (fun x _ _ => k5_room) (fun x _ _ => k5_shut) (fun x _ _ => k5_say) (fun x g0 g1 => k5_go g0 g1) (fun x _ _ y g0 g1 => k5_if g0 g1) k5_end h
theorem keyed_ok (h : ∀ r ∈ prog, r.Ok prog.length) (h1 : prog.length ≤ 60) (hn : m_need_plain [.tup (prog.map RW.d)] A = .ok .non A) : ∃ d l, m_keyed [.tup (prog.map RW.d)] A = .ok d (A ++ l) := by
  have e0 : m_keyed [.tup (prog.map RW.d)] A = finS (b_keyed [some (.tup (prog.map RW.d)), none, none, none, none, none] A) := rfl
  have c0 : y0 [some (.tup (prog.map RW.d)), none, none, none, none, none] A = .nx [some (.tup (prog.map RW.d)), none, none, none, none, none] A := drop_ok (call_ok (cons_ok rfl rfl) hn)
  have c1 : y1 [some (.tup (prog.map RW.d)), none, none, none, none, none] A = .nx [some (.tup (prog.map RW.d)), some (.ref A.length), none, none, none, none] (A ++ [.lst []]) := by
    simp [y1]
  have c2 : y2 [some (.tup (prog.map RW.d)), some (.ref A.length), none, none, none, none] (A ++ [.lst []]) = .nx [some (.tup (prog.map RW.d)), some (.ref A.length), some (.ref (A.length + 1)), none, none, none] (A ++ [.lst [], .lst []]) := by
    simp [y2]
  obtain ⟨s3, A3, c3, bs, os, o3, rfl, rfl, hb, ho, hi⟩ := forL_at (g := gmN 3) (b := y3b) (ds := (List.range prog.length).map fun i : Nat => D.int (i : Int)) (s := [some (.tup (prog.map RW.d)), some (.ref A.length), some (.ref (A.length + 1)), none, none, none]) (A := A ++ [.lst [], .lst []])
    (fun j s' A' => ∃ (bs os : List D) (o3 : Option D), s' = [some (.tup (prog.map RW.d)), some (.ref A.length), some (.ref (A.length + 1)), o3, none, none] ∧ A' = A ++ [.lst bs, .lst os] ∧ bs.length = j ∧ os.length ≤ 2 * j ∧ ∀ d ∈ bs, ∃ i, d = D.int i) 0
    ⟨[], [], none, rfl, rfl, rfl, Nat.le_refl _, fun _ h => nomatch h⟩ (fun j d s B hd hB => by
      obtain ⟨bs, os, o3, rfl, rfl, hb, ho, hi⟩ := hB
      rw [Nat.zero_add] at hb ho
      rw [List.getElem?_map] at hd
      have hj : j < prog.length := by
        have := (List.getElem?_eq_some_iff.mp (show ((List.range prog.length).map fun i : Nat => D.int (i : Int))[j]? = some d by rw [List.getElem?_map]; exact hd)).1
        simpa using this
      rw [List.getElem?_range hj] at hd
      cases hd
      obtain ⟨i, es, he, e⟩ := y3_step (A := A) (o4 := none) (o5 := none) hj h1 hb ho hi
      refine ⟨_, _, _, rfl, e, _, _, _, rfl, rfl, by rw [List.length_append, hb, List.length_singleton, Nat.zero_add], by rw [List.length_append]; omega, fun d hd => ?_⟩
      rcases List.mem_append.mp hd with hd | hd
      · exact hi d hd
      · exact ⟨i, List.mem_singleton.mp hd⟩)
  rw [List.length_map, List.length_range, Nat.zero_add] at hb ho
  have r3 : y3 [some (.tup (prog.map RW.d)), some (.ref A.length), some (.ref (A.length + 1)), none, none, none] (A ++ [.lst [], .lst []]) = .nx [some (.tup (prog.map RW.d)), some (.ref A.length), some (.ref (A.length + 1)), o3, none, none] (A ++ [.lst bs, .lst os]) := by
    unfold y3
    rw [mFor_data (ds := (List.range prog.length).map fun i : Nat => D.int (i : Int)) (A1 := A ++ [.lst [], .lst []]) (by
      have := rng1 (ma := mCons (mCall lenD (mCons (mv 0) mNil)) mNil) (s := [some (.tup (prog.map RW.d)), some (.ref A.length), some (.ref (A.length + 1)), none, none, none]) (A := A ++ [.lst [], .lst []]) (j := prog.length) (cons_ok (call_ok (cons_ok rfl rfl) (by rw [len_tup, List.length_map])) rfl) (by omega)
      exact this)]
    exact c3
  have c4 : y4 [some (.tup (prog.map RW.d)), some (.ref A.length), some (.ref (A.length + 1)), o3, none, none] (A ++ [.lst bs, .lst os]) = .nx [some (.tup (prog.map RW.d)), some (.ref A.length), some (.ref (A.length + 1)), o3, some (.ref (A.length + 2)), none] (A ++ [.lst bs, .lst os, .lst []]) := by
    simp [y4]
  obtain ⟨s5, A5, c5, rs, o5, rfl, rfl, hr⟩ := forL_at (g := gmN 5) (b := y5b) (ds := prog.map RW.d) (s := [some (.tup (prog.map RW.d)), some (.ref A.length), some (.ref (A.length + 1)), o3, some (.ref (A.length + 2)), none]) (A := A ++ [.lst bs, .lst os, .lst []])
    (fun j s' A' => ∃ (rs : List D) (o5 : Option D), s' = [some (.tup (prog.map RW.d)), some (.ref A.length), some (.ref (A.length + 1)), o3, some (.ref (A.length + 2)), o5] ∧ A' = A ++ [.lst bs, .lst os, .lst rs] ∧ rs.length ≤ 2 * j) 0
    ⟨[], none, rfl, rfl, Nat.le_refl _⟩ (fun j d s B hd hB => by
      obtain ⟨rs, o5, rfl, rfl, hr⟩ := hB
      rw [Nat.zero_add] at hr
      have hj := (List.getElem?_eq_some_iff.mp hd).1
      rw [List.length_map] at hj
      rw [ds_at hj] at hd
      cases hd
      obtain ⟨es, he, e⟩ := k5_row (h _ (List.getElem_mem hj)) (some (.tup (prog.map RW.d))) o3 A.length (A.length + 2) (.ref (A.length + 1)) (A ++ [.lst bs, .lst os, .lst rs]) bs rs gB0 hb gB2 (by omega) (by omega)
      rw [sB2] at e
      exact ⟨_, _, _, rfl, e, _, _, rfl, rfl, by rw [List.length_append]; omega⟩)
  rw [List.length_map, Nat.zero_add] at hr
  have r5 : y5 [some (.tup (prog.map RW.d)), some (.ref A.length), some (.ref (A.length + 1)), o3, some (.ref (A.length + 2)), none] (A ++ [.lst bs, .lst os, .lst []]) = .nx [some (.tup (prog.map RW.d)), some (.ref A.length), some (.ref (A.length + 1)), o3, some (.ref (A.length + 2)), o5] (A ++ [.lst bs, .lst os, .lst rs]) := by
    unfold y5
    rw [mFor_data (ds := prog.map RW.d) (A1 := A ++ [.lst bs, .lst os, .lst []]) rfl]
    exact c5
  have t1 : tupD [.ref (A.length + 2)] (A ++ [.lst bs, .lst os, .lst rs]) = .ok (.tup rs) (A ++ [.lst bs, .lst os, .lst rs]) := by
    simp [tupD, seqL]
  have t2 : tupD [.ref (A.length + 1)] (A ++ [.lst bs, .lst os, .lst rs]) = .ok (.tup os) (A ++ [.lst bs, .lst os, .lst rs]) := by
    simp [tupD, seqL]
  have c6 : y6 [some (.tup (prog.map RW.d)), some (.ref A.length), some (.ref (A.length + 1)), o3, some (.ref (A.length + 2)), o5] (A ++ [.lst bs, .lst os, .lst rs]) = .rt (.tup [.tup rs, .tup os]) (A ++ [.lst bs, .lst os, .lst rs]) :=
    ret_ok (tup_ok (cons_ok (call_ok (cons_ok rfl rfl) t1) (cons_ok (call_ok (cons_ok rfl rfl) t2) rfl)))
  exact ⟨_, _, e0.trans (keyed_eq ▸ fin_of (seq_nx c0 (seq_nx c1 (seq_nx c2 (seq_nx r3 (seq_nx c4 (seq_nx r5 c6)))))))⟩
end
end K01

set_option Elab.async false
set_option linter.all false
set_option maxRecDepth 100000
set_option maxHeartbeats 4000000
/-! K01H: the six words. -/
namespace K01
open PySem Tg L2
open SX (S)
theorem run_w {b : ME} {bs : List ME} {s : Sl} {A A1 A2 : AH} {d : D} {ys : List D} (h : wordR (b s A) = .ok d A1) (h2 : runWs bs s A1 = .ok ys A2) : runWs (b :: bs) s A = .ok (d :: ys) A2 := by
  show (wordR (b s A)).bind _ = _
  rw [h]
  show (runWs bs s A1).bind _ = _
  rw [h2]
  rfl
def rowsD (k : Nat) : D := .tup [.str "program", .int (k : Int)]
def roomsD : D := .tup [.str "rooms", .int 0]
def wordD0 : D := .tup [.str "word", .int 0]
theorem w_bad {k : Nat} {A : AH} : wordR (.exc (badP k) A) = .ok (rowsD k) A := rfl
theorem w_rooms {A : AH} : wordR (.exc ⟨"BadRooms", none⟩ A) = .ok roomsD A := rfl
theorem w_word {A : AH} : wordR (.exc ⟨"BadWord", some [("place", .int 0)]⟩ A) = .ok wordD0 A := rfl
theorem w_ok {d : D} {A : AH} : wordR (.ok d A) = .ok .non A := rfl
section
variable {ds : List D} {A : AH} {k : Nat} {a b c d e : D}
theorem run_np (h : ∀ A, m_need_program [.tup ds] A = .exc (badP k) A) : m_run [.tup ds, a, b, c, d] A = .exc (badP k) A := by
  have e0 : m_run [.tup ds, a, b, c, d] A = finS (b_run [some (.tup ds), some a, some b, some c, some d, none] A) := rfl
  exact e0.trans (fin_x (seq_x (drop_x (call_x (cons_ok rfl rfl) (h A)))))
theorem swept_np (h : ∀ A, m_need_program [.tup ds] A = .exc (badP k) A) : m_run_swept [.tup ds, a, b, c, d, e] A = .exc (badP k) A := by
  have e0 : m_run_swept [.tup ds, a, b, c, d, e] A = finS (b_run_swept [some (.tup ds), some a, some b, some c, some d, some e, none] A) := rfl
  exact e0.trans (fin_x (seq_x (drop_x (call_x (cons_ok rfl rfl) (h A)))))
theorem init_np (h : ∀ A, m_need_program [.tup ds] A = .exc (badP k) A) : m_Machine___init__ [a, .tup ds, b, c, d] A = .exc (badP k) A := by
  have e0 : m_Machine___init__ [a, .tup ds, b, c, d] A = finS (b_Machine___init__ [some a, some (.tup ds), some b, some c, some d] A) := rfl
  exact e0.trans (fin_x (seq_x (drop_x (call_x (cons_ok rfl rfl) (h A)))))
theorem written_np (h : ∀ A, m_need_program [.tup ds] A = .exc (badP k) A) : m_written [.tup ds] A = .exc (badP k) A := by
  have e0 : m_written [.tup ds] A = finS (b_written [some (.tup ds), none, none] A) := rfl
  exact e0.trans (fin_x (seq_x (drop_x (call_x (cons_ok rfl rfl) (h A)))))
theorem plain_np (h : ∀ A, m_need_program [.tup ds] A = .exc (badP k) A) : m_need_plain [.tup ds] A = .exc (badP k) A := by
  have e0 : m_need_plain [.tup ds] A = finS (b_need_plain [some (.tup ds), none] A) := rfl
  exact e0.trans (fin_x (seq_x (drop_x (call_x (cons_ok rfl rfl) (h A)))))
theorem places_np (h : ∀ A, m_need_plain [.tup ds] A = .exc (badP k) A) : m_run_places [.tup ds, a, b] A = .exc (badP k) A := by
  have e0 : m_run_places [.tup ds, a, b] A = finS (b_run_places [some (.tup ds), some a, some b, none] A) := rfl
  exact e0.trans (fin_x (seq_x (drop_x (call_x (cons_ok rfl rfl) (h A)))))
theorem keyed_np (h : ∀ A, m_need_plain [.tup ds] A = .exc (badP k) A) : m_keyed [.tup ds] A = .exc (badP k) A := by
  have e0 : m_keyed [.tup ds] A = finS (b_keyed [some (.tup ds), none, none, none, none, none] A) := rfl
  exact e0.trans (fin_x (seq_x (drop_x (call_x (cons_ok rfl rfl) (h A)))))
theorem make_x {c : Str} {g : List D → AH → R D} {ma : MA} {s : Sl} {A A1 A2 : AH} {ds : List D} {x : XV} (h : ma s A = .ok ds A1) (hg : g (.ref A1.length :: ds) (A1 ++ [.ins c []]) = .exc x A2) : mMake c g ma s A = .exc x A2 := by
  rw [e_make, h, kMk1_0, hg]
  rfl
def a5 : MA := (mCons (mv 0) (mCons (mc (.int (99))) (mCons (mLst mNil) (mCons (mLst mNil) (mCons (mBin subD (mc (.int (0))) (mc (.int (1)))) mNil)))))
def a6 : MA := (mCons (mv 0) (mCons (mc (.int (13))) (mCons (mLst mNil) (mCons (mLst mNil) (mCons (mc (.int (9999))) (mCons (mLst mNil) mNil))))))
def a4 : MA := (mCons (mv 0) (mCons (mBin subD (mc (.int (0))) (mc (.int (1)))) (mCons (mLst mNil) (mCons (mLst mNil) mNil))))
def a3 : MA := (mCons (mv 0) (mCons (mLst mNil) (mCons (mBin subD (mc (.int (0))) (mc (.int (1)))) mNil)))
theorem lnil {s : Sl} {A : AH} : mLst mNil s A = .ok (.lst []) A := lst_ok rfl
theorem a5_ok : a5 [some (.tup ds), none] A = .ok [.tup ds, .int 99, .lst [], .lst [], .int (-1)] A := cons_ok rfl (cons_ok rfl (cons_ok lnil (cons_ok lnil (cons_ok rfl rfl))))
theorem a6_ok : a6 [some (.tup ds), none] A = .ok [.tup ds, .int 13, .lst [], .lst [], .int 9999, .lst []] A := cons_ok rfl (cons_ok rfl (cons_ok lnil (cons_ok lnil (cons_ok rfl (cons_ok lnil rfl)))))
theorem a4_ok : a4 [some (.tup ds), none] A = .ok [.tup ds, .int (-1), .lst [], .lst []] A := cons_ok rfl (cons_ok rfl (cons_ok lnil (cons_ok lnil rfl)))
theorem a3_ok : a3 [some (.tup ds), none] A = .ok [.tup ds, .lst [], .int (-1)] A := cons_ok rfl (cons_ok lnil (cons_ok rfl rfl))
/-- a program that is refused at a row -/
theorem words_bad (h : ∀ A, m_need_program [.tup ds] A = .exc (badP k) A) : runWs bs__law_works [some (.tup ds), none] A = .ok (List.replicate 6 (rowsD k)) (A ++ [.ins "Machine" []]) := by
  have hp : ∀ A, m_need_plain [.tup ds] A = .exc (badP k) A := fun A => plain_np h
  have c0 : ∀ B, lb0__law_works [some (.tup ds), none] B = .exc (badP k) B := fun B => call_x a5_ok (run_np h)
  have c1 : ∀ B, lb1__law_works [some (.tup ds), none] B = .exc (badP k) B := fun B => call_x a6_ok (swept_np h)
  have c2 : ∀ B, lb2__law_works [some (.tup ds), none] B = .exc (badP k) (B ++ [.ins "Machine" []]) := fun B => make_x a4_ok (init_np h)
  have c3 : ∀ B, lb3__law_works [some (.tup ds), none] B = .exc (badP k) B := fun B => call_x (cons_ok rfl rfl) (written_np h)
  have c4 : ∀ B, lb4__law_works [some (.tup ds), none] B = .exc (badP k) B := fun B => call_x a3_ok (places_np hp)
  have c5 : ∀ B, lb5__law_works [some (.tup ds), none] B = .exc (badP k) B := fun B => call_x (cons_ok rfl rfl) (keyed_np hp)
  exact run_w (by rw [c0]; exact w_bad) (run_w (by rw [c1]; exact w_bad) (run_w (by rw [c2]; exact w_bad) (run_w (by rw [c3]; exact w_bad) (run_w (by rw [c4]; exact w_bad) (run_w (by rw [c5]; exact w_bad) rfl)))))
end
section
variable {prog : List RW} {A : AH} {k : Nat}
def dueA : Option Nat → D
  | none => wordD0
  | some k => rowsD k
def dueB : Option Nat → D
  | none => .non
  | some k => rowsD k
noncomputable def dueG (prog : List RW) : List D := [roomsD, roomsD, roomsD, .non, dueA (firstP prog), dueB (firstP prog)]
theorem words_good (h : ∀ r ∈ prog, r.Ok prog.length) (h0 : prog ≠ []) (h1 : prog.length ≤ 60) : ∃ l, runWs bs__law_works [some (.tup (prog.map RW.d)), none] A = .ok (dueG prog) (A ++ l) := by
  have hn : ∀ B, m_need_program [.tup (prog.map RW.d)] B = .ok .non B := fun B => need_program_ok h h0 h1
  have hl : ∀ B, lenD [.tup (prog.map RW.d)] B = .ok (.int prog.length) B := fun B => by rw [len_tup, List.length_map]
  have c0 : ∀ B, lb0__law_works [some (.tup (prog.map RW.d)), none] B = .exc ⟨"BadRooms", none⟩ B := fun B => call_x a5_ok (by
    have e0 : m_run [.tup (prog.map RW.d), .int 99, .lst [], .lst [], .int (-1)] B = finS (b_run [some (.tup (prog.map RW.d)), some (.int 99), some (.lst []), some (.lst []), some (.int (-1)), none] B) := rfl
    exact e0.trans (fin_x (seq_nx (drop_ok (call_ok (cons_ok rfl rfl) (hn B))) (seq_x (drop_x (call_x (cons_ok (call_ok (cons_ok rfl rfl) (hl B)) (cons_ok rfl (cons_ok rfl (cons_ok rfl rfl)))) (need_state_is (by omega))))))))
  have c1 : ∀ B, lb1__law_works [some (.tup (prog.map RW.d)), none] B = .exc ⟨"BadRooms", none⟩ B := fun B => call_x a6_ok (by
    have e0 : m_run_swept [.tup (prog.map RW.d), .int 13, .lst [], .lst [], .int 9999, .lst []] B = finS (b_run_swept [some (.tup (prog.map RW.d)), some (.int 13), some (.lst []), some (.lst []), some (.int 9999), some (.lst []), none] B) := rfl
    exact e0.trans (fin_x (seq_nx (drop_ok (call_ok (cons_ok rfl rfl) (hn B))) (seq_x (drop_x (call_x (cons_ok (call_ok (cons_ok rfl rfl) (hl B)) (cons_ok rfl (cons_ok rfl (cons_ok rfl rfl)))) (need_state_is (by omega))))))))
  have c2 : ∀ B, lb2__law_works [some (.tup (prog.map RW.d)), none] B = .exc ⟨"BadRooms", none⟩ (B ++ [.ins "Machine" []]) := fun B => make_x a4_ok (by
    have e0 : ∀ x C, m_Machine___init__ [x, .tup (prog.map RW.d), .int (-1), .lst [], .lst []] C = finS (b_Machine___init__ [some x, some (.tup (prog.map RW.d)), some (.int (-1)), some (.lst []), some (.lst [])] C) := fun _ _ => rfl
    exact (e0 _ _).trans (fin_x (seq_nx (drop_ok (call_ok (cons_ok rfl rfl) (hn _))) (seq_x (drop_x (call_x (cons_ok (call_ok (cons_ok rfl rfl) (hl _)) (cons_ok rfl (cons_ok rfl (cons_ok rfl rfl)))) (need_state_is (by omega))))))))
  have c3 : ∀ B, lb3__law_works [some (.tup (prog.map RW.d)), none] B = .ok (.str (S (txt prog))) B := fun B => call_ok (cons_ok rfl rfl) (written_is h h0 h1)
  have np := fun B => need_plain_is (A := B) h h0 h1
  unfold dueG
  cases q : firstP prog with
  | some k =>
    have hp : ∀ B, m_need_plain [.tup (prog.map RW.d)] B = .exc (badP k) B := fun B => by
      have := np B
      rw [q] at this
      exact this
    have c4 : ∀ B, lb4__law_works [some (.tup (prog.map RW.d)), none] B = .exc (badP k) B := fun B => call_x a3_ok (places_np hp)
    have c5 : ∀ B, lb5__law_works [some (.tup (prog.map RW.d)), none] B = .exc (badP k) B := fun B => call_x (cons_ok rfl rfl) (keyed_np hp)
    exact ⟨_, run_w (by rw [c0]; exact w_rooms) (run_w (by rw [c1]; exact w_rooms) (run_w (by rw [c2]; exact w_rooms) (run_w (by rw [c3]; exact w_ok) (run_w (by rw [c4]; exact w_bad) (run_w (by rw [c5]; exact w_bad) rfl)))))⟩
  | none =>
    have hp : ∀ B, m_need_plain [.tup (prog.map RW.d)] B = .ok .non B := fun B => by
      have := np B
      rw [q] at this
      exact this
    have c4 : ∀ B, lb4__law_works [some (.tup (prog.map RW.d)), none] B = .exc ⟨"BadWord", some [("place", .int 0)]⟩ B := fun B => call_x a3_ok (by
      have e0 : m_run_places [.tup (prog.map RW.d), .lst [], .int (-1)] B = finS (b_run_places [some (.tup (prog.map RW.d)), some (.lst []), some (.int (-1)), none] B) := rfl
      exact e0.trans (fin_x (seq_nx (drop_ok (call_ok (cons_ok rfl rfl) (hp B))) (seq_x (drop_x (call_x (cons_ok rfl rfl) need_numbers_is))))))
    obtain ⟨d, l, e5⟩ := keyed_ok (A := A ++ [.ins "Machine" []]) h h1 (hp _)
    have c5 : lb5__law_works [some (.tup (prog.map RW.d)), none] (A ++ [.ins "Machine" []]) = .ok d ((A ++ [.ins "Machine" []]) ++ l) := call_ok (cons_ok rfl rfl) e5
    exact ⟨[.ins "Machine" []] ++ l, run_w (by rw [c0]; exact w_rooms) (run_w (by rw [c1]; exact w_rooms) (run_w (by rw [c2]; exact w_rooms) (run_w (by rw [c3]; exact w_ok) (run_w (by rw [c4]; exact w_word) (run_w (by rw [c5]; exact w_ok) (by rw [← List.append_assoc]; rfl))))))⟩
end
end K01

set_option Elab.async false
set_option linter.all false
set_option maxRecDepth 100000
set_option maxHeartbeats 4000000
/-! K01Z: the law. -/
namespace K01
open PySem Tg L2
open SX (S)
def gA : MS := (mAsg (mLstN (mCons (mv 0) (mCons (mc (.int (0))) (mCons (mc (.int (0))) (mCons (mc (.int (0))) mNil))))) (gmN 1))
def ge1 : MS := (mAsg (mCall m__law_program (mCons (mv 1) (mCons (mBin ixD (mLst (mCons (mc (.int (9))) (mCons (mc (.int (60))) mNil))) (mCall m__law_taken (mCons (mv 1) (mCons (mc (.int (2))) mNil)))) mNil))) (gmN 3))
def ge2 : MS := (mAsg (mCall lenD (mCons (mv 3) mNil)) (gmN 4))
def ge3 : MS := (mAsg (mBin ixD (mBin addD (mLc (mRng1 (mCons (mv 4) mNil)) (gmN 11) (mOr (mTb (mBin gtD (mv 11) (mc (.int (29))))) (mNot (mTb (mCall m__law_may_be_plain (mCons (mBin ixD (mv 3) (mv 11)) mNil))))) (mv 11) [11] finF) (mLst (mCons (mc .non) mNil))) (mc (.int (0)))) (gmN 5))
def ge4 : MS := (mAsg (mBin addN (mBin addD (mBin mulD (mLst (mCons (mTup (mCons (mc (.str "rooms")) (mCons (mc (.int (0))) mNil))) mNil)) (mc (.int (3)))) (mLst (mCons (mc .non) mNil))) (mLst (mCons (mIf (mTb (mBin isD (mv 5) (mc .non))) (mTup (mCons (mc (.str "word")) (mCons (mc (.int (0))) mNil))) (mTup (mCons (mc (.str "program")) (mCons (mv 5) mNil)))) mNil))) (gmN 6))
def ge5 : MS := (mDrop (mMt "list" appD (mv 6) (mCons (mIf (mTb (mBin isD (mv 5) (mc .non))) (mc .non) (mTup (mCons (mc (.str "program")) (mCons (mv 5) mNil)))) mNil)))
def ge6 : MS := (mIfS (mTb (mBin neD (mWks 12 1 2 pre__law_works bs__law_works (mCons (mv 3) mNil)) (mv 6))) (mRet (mc (.bl false))) mNx)
def ge7 : MS := (mAsg (mCall m__law_taken (mCons (mv 1) (mCons (mv 4) mNil))) (gmN 7))
def ge8 : MS := (mAsg (mBin addD (mBin addD (mSl (mv 3) mNoPart (mPart (mv 7))) (mTup (mCons (mCall m__law_bad (mCons (mv 1) (mCons (mv 4) mNil))) mNil))) (mSl (mv 3) (mPart (mBin addD (mv 7) (mc (.int (1))))) mNoPart)) (gmN 8))
def ge9 : MS := (mIfS (mTb (mBin eqD (mCall m__law_taken (mCons (mv 1) (mCons (mc (.int (2))) mNil))) (mc (.int (1))))) (mSeq (mAsg (mBin addD (mv 7) (mCall m__law_taken (mCons (mv 1) (mCons (mBin subD (mv 4) (mv 7)) mNil)))) (gmN 9))
  (mAsg (mBin addD (mBin addD (mSl (mv 8) mNoPart (mPart (mv 9))) (mTup (mCons (mCall m__law_bad (mCons (mv 1) (mCons (mv 4) mNil))) mNil))) (mSl (mv 8) (mPart (mBin addD (mv 9) (mc (.int (1))))) mNoPart)) (gmN 8))) mNx)
def ge10 : MS := (mAsg (mBin ixD (mLst (mCons (mv 8) (mCons (mSl (mBin mulD (mv 3) (mc (.int (61)))) mNoPart (mPart (mBin addD (mc (.int (61))) (mCall m__law_taken (mCons (mv 1) (mCons (mc (.int (2))) mNil)))))) (mCons (mTup mNil) mNil)))) (mBin ixD (mLst (mCons (mc (.int (0))) (mCons (mc (.int (0))) (mCons (mc (.int (0))) (mCons (mc (.int (0))) (mCons (mc (.int (1))) (mCons (mc (.int (2))) mNil))))))) (mCall m__law_taken (mCons (mv 1) (mCons (mc (.int (6))) mNil))))) (gmN 10))
def ge11 : MS := (mAsg (mIf (mTb (mBin eqD (mv 10) (mv 8))) (mv 7) (mBin ixD (mLst (mCons (mc (.int (60))) (mCons (mc (.int (0))) mNil))) (mCall intD (mCons (mBin eqD (mv 10) (mTup mNil)) mNil)))) (gmN 6))
def ge12 : MS := (mIfS (mTb (mBin neD (mWks 12 1 2 pre__law_works bs__law_works (mCons (mv 10) mNil)) (mBin mulD (mLst (mCons (mTup (mCons (mc (.str "program")) (mCons (mv 6) mNil))) mNil)) (mc (.int (6)))))) (mRet (mc (.bl false))) mNx)
def gE : MS := mSeq ge1 (mSeq ge2 (mSeq ge3 (mSeq ge4 (mSeq ge5 (mSeq ge6 (mSeq ge7 (mSeq ge8 (mSeq ge9 (mSeq ge10 (mSeq ge11 ge12))))))))))
def gG : MS := mFor (mRng1 (mCons (mc (.int (4))) mNil)) (gmN 2) gE
section
variable {ns : List Int} {A : AH} {prog : List RW} {o2 o3 o4 o5 o6 o7 o8 o9 o10 o11 o12 x6 x9 : Option D} {at_ due : Nat} {odd hard : List D}
theorem ge1_ok (h : RowAt 0 ns A) : ∃ (prog : List RW) (A' : AH), ge1 [some (.scr ns), some (.ref 0), o2, o3, o4, o5, o6, o7, o8, o9, o10, o11, o12] A = .nx [some (.scr ns), some (.ref 0), o2, some (.tup (prog.map RW.d)), o4, o5, o6, o7, o8, o9, o10, o11, o12] A' ∧ RowAt 0 ns A' ∧ (∀ p ∈ prog, p.Ok prog.length) ∧ prog ≠ [] ∧ prog.length ≤ 60 := by
  obtain ⟨w, A1, e1, h1, w1⟩ := takenN 2 h ⟨by omega, by omega⟩
  have hw : w = 0 ∨ w = 1 := by omega
  have hm : ∃ most : Int, 0 < most ∧ most ≤ 60 ∧ ∀ B, ixD (.lst [.int 9, .int 60]) (.int (w : Int)) B = .ok (.int most) B := by
    rcases hw with rfl | rfl
    · exact ⟨9, by omega, by omega, fun B => rfl⟩
    · exact ⟨60, by omega, by omega, fun B => rfl⟩
  obtain ⟨most, m0, m1, hm⟩ := hm
  obtain ⟨prog, A2, e2, h2, p1, p2, p3⟩ := prog_made h1 ⟨m0, m1⟩
  exact ⟨prog, A2, asg_ok (call_ok (cons_ok rfl (cons_ok (bin_ok (lst_ok rfl) (call_ok (cons_ok rfl (cons_ok rfl rfl)) e1) (hm _)) rfl)) e2), h2, p1, p2, p3⟩
theorem ge2_ok : ge2 [some (.scr ns), some (.ref 0), o2, some (.tup (prog.map RW.d)), o4, o5, o6, o7, o8, o9, o10, o11, o12] A = .nx [some (.scr ns), some (.ref 0), o2, some (.tup (prog.map RW.d)), some (.int (prog.length : Int)), o5, o6, o7, o8, o9, o10, o11, o12] A := asg_ok (call_ok (cons_ok rfl rfl) (by rw [len_tup, List.length_map]))
def fT : MT := (mOr (mTb (mBin gtD (mv 11) (mc (.int (29))))) (mNot (mTb (mCall m__law_may_be_plain (mCons (mBin ixD (mv 3) (mv 11)) mNil)))))
def fL : ME := mLc (mRng1 (mCons (mv 4) mNil)) (gmN 11) fT (mv 11) [11] finF
noncomputable def firstD (prog : List RW) : D := match firstP prog with
  | none => .non
  | some k => .int (k : Int)
theorem first_at : atI ((((List.range prog.length).filter (npl prog)).map fun i : Nat => D.int (i : Int)) ++ [.non]) 0 = some (firstD prog) := by
  refine atI_ok (i := 0) ?_
  unfold firstD firstP
  rw [← List.head?_filter]
  cases (List.range prog.length).filter (npl prog) with
  | nil => rfl
  | cons i l => rfl
theorem ge3_ok (h : ∀ r ∈ prog, r.Ok prog.length) (h1 : prog.length ≤ 60) : ge3 [some (.scr ns), some (.ref 0), o2, some (.tup (prog.map RW.d)), some (.int (prog.length : Int)), o5, o6, o7, o8, o9, o10, o11, o12] A = .nx [some (.scr ns), some (.ref 0), o2, some (.tup (prog.map RW.d)), some (.int (prog.length : Int)), some (firstD prog), o6, o7, o8, o9, o10, o11, o12] A := by
  have rg : mRng1 (mCons (mv 4) mNil) [some (.scr ns), some (.ref 0), o2, some (.tup (prog.map RW.d)), some (.int (prog.length : Int)), o5, o6, o7, o8, o9, o10, o11, o12] A = .ok (.data ((List.range prog.length).map fun i : Nat => D.int (i : Int))) A := rng1 (j := prog.length) (cons_ok rfl rfl) (by omega)
  have e1 : fL [some (.scr ns), some (.ref 0), o2, some (.tup (prog.map RW.d)), some (.int (prog.length : Int)), o5, o6, o7, o8, o9, o10, o11, o12] A = .ok (.lst (((List.range prog.length).filter (npl prog)).map fun i : Nat => D.int (i : Int))) A := by
    have := lc_pure (g := gmN 11) (tt := fT) (te := mv 11) (vs := [11]) (fun d => match d with
      | .int i => npl prog i.toNat
      | _ => false) (fun d => d) rg (by rw [List.length_map, List.length_range]; omega) (fun d hd => by
      obtain ⟨i, hi', rfl⟩ := List.mem_map.mp hd
      have hi := List.mem_range.mp hi'
      have hq : ixD (.tup (prog.map RW.d)) (.int (i : Int)) A = .ok (prog[i]).d A := ix_tup (atI_ok (ds_at hi))
      have hp := (plB_ok (plain_both (h _ (List.getElem_mem hi))) A).1
      refine ⟨_, rfl, ?_, fun _ => rfl⟩
      show _ = R.ok (npl prog i) A
      unfold npl
      rw [ds_getD hi]
      by_cases h30 : (29 : Int) < i
      · have h29 : 29 < i := by omega
        exact (or_t (tb_ok (bin_ok rfl rfl (by rw [o_gt, decide_eq_true h30])))).trans (by rw [decide_eq_true h29]; rfl)
      · have h29 : ¬ 29 < i := by omega
        exact (or_f (tb_ok (bin_ok rfl rfl (by rw [o_gt, decide_eq_false h30]))) (not_ok (tb_ok (call_ok (cons_ok (bin_ok rfl rfl hq) rfl) hp)))).trans (by rw [decide_eq_false h29, Bool.false_or]))
    rw [List.map_id'' (fun _ => rfl), List.filter_map] at this
    exact this
  exact asg_ok (bin_ok (bin_ok e1 (lst_ok rfl) (add_lst (by
    have : ((List.range prog.length).filter (npl prog)).length ≤ (List.range prog.length).length := List.length_filter_le _ _
    rw [List.length_range] at this
    rw [List.length_map, List.length_singleton]
    omega))) rfl (ix_lst first_at))
noncomputable def due5 (prog : List RW) : List D := [roomsD, roomsD, roomsD, .non, dueA (firstP prog)]
theorem ge4_ok : ge4 [some (.scr ns), some (.ref 0), o2, some (.tup (prog.map RW.d)), some (.int (prog.length : Int)), some (firstD prog), o6, o7, o8, o9, o10, o11, o12] A = .nx [some (.scr ns), some (.ref 0), o2, some (.tup (prog.map RW.d)), some (.int (prog.length : Int)), some (firstD prog), some (.ref A.length), o7, o8, o9, o10, o11, o12] (A ++ [.lst (due5 prog)]) := by
  have e2 : ∀ B, (mIf (mTb (mBin isD (mv 5) (mc .non))) (mTup (mCons (mc (.str "word")) (mCons (mc (.int (0))) mNil))) (mTup (mCons (mc (.str "program")) (mCons (mv 5) mNil)))) [some (.scr ns), some (.ref 0), o2, some (.tup (prog.map RW.d)), some (.int (prog.length : Int)), some (firstD prog), o6, o7, o8, o9, o10, o11, o12] B = .ok (dueA (firstP prog)) B := fun B => by
    unfold firstD
    cases firstP prog with
    | none => exact if_t (tb_ok (bin_ok rfl rfl rfl)) rfl
    | some k => exact if_f (tb_ok (bin_ok rfl rfl rfl)) rfl
  exact asg_ok (bin_ok (bin_ok (bin_ok (lst_ok (cons_ok (tup_ok rfl) rfl)) rfl (mulL (k := 3) (by omega))) (lst_ok rfl) (add_lst (Nat.le_of_ble_eq_true rfl))) (lst_ok (cons_ok (e2 _) rfl)) (addn_lst (Nat.le_of_ble_eq_true rfl)))
theorem ge5_ok : ge5 [some (.scr ns), some (.ref 0), o2, some (.tup (prog.map RW.d)), some (.int (prog.length : Int)), some (firstD prog), some (.ref A.length), o7, o8, o9, o10, o11, o12] (A ++ [.lst (due5 prog)]) = .nx [some (.scr ns), some (.ref 0), o2, some (.tup (prog.map RW.d)), some (.int (prog.length : Int)), some (firstD prog), some (.ref A.length), o7, o8, o9, o10, o11, o12] (A ++ [.lst (dueG prog)]) := by
  have e2 : ∀ B, (mIf (mTb (mBin isD (mv 5) (mc .non))) (mc .non) (mTup (mCons (mc (.str "program")) (mCons (mv 5) mNil)))) [some (.scr ns), some (.ref 0), o2, some (.tup (prog.map RW.d)), some (.int (prog.length : Int)), some (firstD prog), some (.ref A.length), o7, o8, o9, o10, o11, o12] B = .ok (dueB (firstP prog)) B := fun B => by
    unfold firstD
    cases firstP prog with
    | none => exact if_t (tb_ok (bin_ok rfl rfl rfl)) rfl
    | some k => exact if_f (tb_ok (bin_ok rfl rfl rfl)) rfl
  exact drop_ok (mt_ok rfl (ty_ref get_last) (cons_ok (e2 _) rfl) (app_last (Nat.le_of_ble_eq_true rfl)))
theorem ne_refR {n : Nat} {ds ys : List D} {A : AH} (hA : A[n]? = some (.lst ds)) (h : (datL ys && datL ds) = true) (h2 : (decide (depL ys ≤ 10) && decide (depL ds ≤ 10)) = true) : neD (.lst ys) (.ref n) A = .ok (.bl (!(eqB (.lst ys) (.lst ds)))) A := by
  simp only [Bool.and_eq_true, decide_eq_true_eq] at h h2
  have e0 : scEq (.lst ys) (.ref n) = none := rfl
  have e1 : pyOf 12 A (.ref n) = some (pyD (.lst ds)) := by
    show (match A[n]? with
      | some (.lst ds) => (pysOf (pyOf 11 A) ds).map PyData.list
      | _ => none) = _
    rw [hA]
    show (pysOf (pyOf 11 A) ds).map PyData.list = _
    rw [pysOf_dat ds 11 h.2 (by omega)]
    rfl
  have e2 : pyOf 12 A (.lst ys) = some (pyD (.lst ys)) := pyOf_dat (.lst ys) 12 (by simpa [datD] using h.1) (by simp only [depD]; omega)
  unfold neD
  rw [e0, e1, e2]
  simp only [shaped_dat (d := .lst ys) (by simpa [datD] using h.1) (by simp only [depD]; omega), shaped_dat (d := .lst ds) (by simpa [datD] using h.2) (by simp only [depD]; omega), Bool.and_self, if_true]
  rfl
theorem rowsD_dat {k : Nat} : datD (rowsD k) = true ∧ depD (rowsD k) = 1 := by
  have e : PyData.strOk (Str.ofString "program") = true := by decide +kernel
  exact ⟨by simp [rowsD, datD, datL, e], by simp [rowsD, depD, depL]⟩
theorem dueG_dat : datL (dueG prog) = true ∧ depL (dueG prog) ≤ 10 := by
  have e : PyData.strOk (Str.ofString "rooms") = true := by decide +kernel
  have e2 : PyData.strOk (Str.ofString "word") = true := by decide +kernel
  unfold dueG
  cases firstP prog with
  | none => exact ⟨by simp [dueA, dueB, roomsD, wordD0, datD, datL, e, e2], by simp [dueA, dueB, roomsD, wordD0, depD, depL]⟩
  | some k =>
    obtain ⟨a, b⟩ := rowsD_dat (k := k)
    exact ⟨by simp [dueA, dueB, roomsD, datD, datL, e, a], by simp [dueA, dueB, roomsD, depD, depL, b]⟩
theorem wks_of {ma : MA} {s : Sl} {A A3 : AH} {d : D} {ys : List D} (hs : 12 < s.length) (h : ma s A = .ok [d] A) (h2 : runWs bs__law_works [some d, none] A = .ok ys A3) : mWks 12 1 2 pre__law_works bs__law_works ma s A = .ok (.lst ys) A3 := by
  unfold mWks
  rw [if_pos hs, h]
  show (runWs bs__law_works [some d, none] A).bind _ = _
  rw [h2]
  rfl
theorem ge6_ok (hr : RowAt 0 ns A) (h : ∀ r ∈ prog, r.Ok prog.length) (h0 : prog ≠ []) (h1 : prog.length ≤ 60) : ∃ A', ge6 [some (.scr ns), some (.ref 0), o2, some (.tup (prog.map RW.d)), some (.int (prog.length : Int)), some (firstD prog), some (.ref A.length), o7, o8, o9, o10, o11, o12] (A ++ [.lst (dueG prog)]) = .nx [some (.scr ns), some (.ref 0), o2, some (.tup (prog.map RW.d)), some (.int (prog.length : Int)), some (firstD prog), some (.ref A.length), o7, o8, o9, o10, o11, o12] A' ∧ RowAt 0 ns A' := by
  obtain ⟨l, e⟩ := words_good (A := A ++ [.lst (dueG prog)]) h h0 h1
  obtain ⟨a, b⟩ := dueG_dat (prog := prog)
  have hA : ((A ++ [AO.lst (dueG prog)]) ++ l)[A.length]? = some (.lst (dueG prog)) := by
    rw [List.getElem?_append_left (by simp), get_last]
  have e1 : neD (.lst (dueG prog)) (.ref A.length) ((A ++ [.lst (dueG prog)]) ++ l) = .ok (.bl false) ((A ++ [.lst (dueG prog)]) ++ l) := by
    rw [ne_refR hA (by rw [a]; rfl) (by rw [decide_eq_true b]; rfl), eqB_refl (by simpa [datD] using a)]
    rfl
  exact ⟨_, ifS_f (bin_ok (wks_of (by simp) (cons_ok rfl rfl) e) rfl e1) rfl, (hr.app _).app _⟩
/-- a program of the same length with a bad row -/
structure OddP (prog : List RW) (at_ : Nat) (odd : List D) : Prop where
  lt : at_ < prog.length
  len : odd.length = prog.length
  c : ∀ d ∈ odd, datC d = true ∧ depD d ≤ 2
  bad : ∃ d, odd[at_]? = some d ∧ BadR prog.length d
  pre : ∀ (i : Nat) (d : D), i < at_ → odd[i]? = some d → ∀ A, m_is_row [d, .int (prog.length : Int)] A = .ok (.bl true) A
theorem cut_to {ds : List D} {k : Nat} (h : k ≤ ds.length) : cutD ds none (some (k : Int)) = ds.take k := by
  unfold cutD
  rw [HT.sIx_none, HT.sIx_nat, List.drop_zero, Nat.min_eq_left h, Nat.sub_zero]
theorem cut_from {ds : List D} {k : Nat} (h : k ≤ ds.length) : cutD ds (some (k : Int)) none = ds.drop k := by
  unfold cutD
  rw [HT.sIx_none, HT.sIx_nat, Nat.min_eq_left h]
  exact List.take_of_length_le (by rw [List.length_drop]; omega)
theorem add_tup {A : AH} {ds es : List D} (hl : ds.length + es.length ≤ 16777216) : addD (.tup ds) (.tup es) A = .ok (.tup (ds ++ es)) A := by
  simp [addD, hl]
theorem set_cut {ds : List D} {k : Nat} {d : D} (h : k < ds.length) : (ds.take k ++ [d]) ++ ds.drop (k + 1) = ds.set k d := by
  rw [List.set_eq_take_append_cons_drop, if_pos h, List.append_assoc]
  rfl
theorem put_ok {pe je be : ME} {s : Sl} {A A2 : AH} {ds : List D} {k : Nat} {d : D} (hl : ds.length ≤ 60) (hk : k < ds.length) (hp : ∀ B, pe s B = .ok (.tup ds) B) (hj : ∀ B, je s B = .ok (.int (k : Int)) B) (hb : be s A = .ok d A2) :
    mBin addD (mBin addD (mSl pe mNoPart (mPart je)) (mTup (mCons be mNil))) (mSl pe (mPart (mBin addD je (mc (.int (1))))) mNoPart) s A = .ok (.tup (ds.set k d)) A2 := by
  have c1 : mSl pe mNoPart (mPart je) s A = .ok (.tup (ds.take k)) A := by
    have : slD (.tup ds) none (some (k : Int)) A = .ok (.tup (ds.take k)) A := by
      show R.ok (D.tup (cutD ds none (some (k : Int)))) A = _
      rw [cut_to (by omega)]
    simp [hp, hj, this]
  have c2 : mSl pe (mPart (mBin addD je (mc (.int (1))))) mNoPart s A2 = .ok (.tup (ds.drop (k + 1))) A2 := by
    have : slD (.tup ds) (some ((k : Int) + 1)) none A2 = .ok (.tup (ds.drop (k + 1))) A2 := by
      show R.ok (D.tup (cutD ds (some ((k + 1 : Nat) : Int)) none)) A2 = _
      rw [cut_from (by omega)]
    simp [hp, hj, this]
  refine (bin_ok (bin_ok c1 (tup_ok (cons_ok hb rfl)) (add_tup (by rw [List.length_take, List.length_singleton]; omega))) c2 (add_tup (by rw [List.length_append, List.length_take, List.length_drop, List.length_singleton]; omega))).trans ?_
  rw [set_cut hk]
theorem ge7_ok (h : RowAt 0 ns A) (h0 : prog ≠ []) (h1 : prog.length ≤ 60) : ∃ (at_ : Nat) (A' : AH), ge7 [some (.scr ns), some (.ref 0), o2, some (.tup (prog.map RW.d)), some (.int (prog.length : Int)), some (firstD prog), x6, o7, o8, o9, o10, o11, o12] A = .nx [some (.scr ns), some (.ref 0), o2, some (.tup (prog.map RW.d)), some (.int (prog.length : Int)), some (firstD prog), x6, some (.int (at_ : Int)), o8, o9, o10, o11, o12] A' ∧ RowAt 0 ns A' ∧ at_ < prog.length := by
  have hp : 0 < prog.length := List.length_pos_iff.mpr h0
  obtain ⟨v, A1, e1, h1', l1⟩ := takenN (prog.length : Int) h ⟨by omega, by omega⟩
  exact ⟨v, A1, asg_ok (call_ok (cons_ok rfl (cons_ok rfl rfl)) e1), h1', by omega⟩
theorem ge8_ok (hr : RowAt 0 ns A) (h : ∀ r ∈ prog, r.Ok prog.length) (h1 : prog.length ≤ 60) (ha : at_ < prog.length) : ∃ odd A', ge8 [some (.scr ns), some (.ref 0), o2, some (.tup (prog.map RW.d)), some (.int (prog.length : Int)), some (firstD prog), x6, some (.int (at_ : Int)), o8, o9, o10, o11, o12] A = .nx [some (.scr ns), some (.ref 0), o2, some (.tup (prog.map RW.d)), some (.int (prog.length : Int)), some (firstD prog), x6, some (.int (at_ : Int)), some (.tup odd), o9, o10, o11, o12] A' ∧ RowAt 0 ns A' ∧ OddP prog at_ odd := by
  obtain ⟨d, A2, e, h2, hb⟩ := bad_made (many := prog.length) hr
  refine ⟨(prog.map RW.d).set at_ d, A2, asg_ok (put_ok (by rw [List.length_map]; exact h1) (by rw [List.length_map]; exact ha) (fun _ => rfl) (fun _ => rfl) (call_ok (cons_ok rfl (cons_ok rfl rfl)) e)), h2, ha, by simp, fun e he => ?_, ⟨d, by rw [List.getElem?_set_self (by rw [List.length_map]; exact ha)], hb⟩, fun i e hi he B => ?_⟩
  · rcases List.mem_or_eq_of_mem_set he with he | rfl
    · obtain ⟨r, hr, rfl⟩ := List.mem_map.mp he
      exact rw_C (h r hr)
    · exact ⟨hb.c, hb.dp⟩
  · rw [List.getElem?_set_ne (by omega), ds_at (by omega)] at he
    cases he
    exact row_is (h _ (List.getElem_mem _))
theorem odd_put {later : Nat} {d : D} (h : OddP prog at_ odd) (h1 : at_ ≤ later) (h2 : later < prog.length) (hb : BadR prog.length d) : OddP prog at_ (odd.set later d) := by
  refine ⟨h.lt, by rw [List.length_set]; exact h.len, fun e he => ?_, ?_, fun i e hi he => h.pre i e hi ?_⟩
  · rcases List.mem_or_eq_of_mem_set he with he | rfl
    · exact h.c e he
    · exact ⟨hb.c, hb.dp⟩
  · by_cases q : later = at_
    · subst q
      exact ⟨d, List.getElem?_set_self (by rw [h.len]; exact h2), hb⟩
    · rw [List.getElem?_set_ne q]
      exact h.bad
  · rwa [List.getElem?_set_ne (by omega)] at he
def gl1 : MS := (mAsg (mBin addD (mv 7) (mCall m__law_taken (mCons (mv 1) (mCons (mBin subD (mv 4) (mv 7)) mNil)))) (gmN 9))
def gl2 : MS := (mAsg (mBin addD (mBin addD (mSl (mv 8) mNoPart (mPart (mv 9))) (mTup (mCons (mCall m__law_bad (mCons (mv 1) (mCons (mv 4) mNil))) mNil))) (mSl (mv 8) (mPart (mBin addD (mv 9) (mc (.int (1))))) mNoPart)) (gmN 8))
theorem ge9_ok (hr : RowAt 0 ns A) (h1 : prog.length ≤ 60) (ho : OddP prog at_ odd) : ∃ odd2 x9 A', ge9 [some (.scr ns), some (.ref 0), o2, some (.tup (prog.map RW.d)), some (.int (prog.length : Int)), some (firstD prog), x6, some (.int (at_ : Int)), some (.tup odd), o9, o10, o11, o12] A = .nx [some (.scr ns), some (.ref 0), o2, some (.tup (prog.map RW.d)), some (.int (prog.length : Int)), some (firstD prog), x6, some (.int (at_ : Int)), some (.tup odd2), x9, o10, o11, o12] A' ∧ RowAt 0 ns A' ∧ OddP prog at_ odd2 := by
  obtain ⟨w, A1, e1, hr1, l1⟩ := takenN 2 hr ⟨by omega, by omega⟩
  have hlt := ho.lt
  by_cases hw : w = 1
  · subst hw
    have t : (mTb (mBin eqD (mCall m__law_taken (mCons (mv 1) (mCons (mc (.int (2))) mNil))) (mc (.int (1))))) [some (.scr ns), some (.ref 0), o2, some (.tup (prog.map RW.d)), some (.int (prog.length : Int)), some (firstD prog), x6, some (.int (at_ : Int)), some (.tup odd), o9, o10, o11, o12] A = .ok true A1 := tb_ok (bin_ok (call_ok (cons_ok rfl (cons_ok rfl rfl)) e1) rfl rfl)
    obtain ⟨v, A2, e2, hr2, l2⟩ := takenN ((prog.length : Int) - at_) hr1 ⟨by omega, by omega⟩
    obtain ⟨d, A3, e3, hr3, hb⟩ := bad_made (many := prog.length) hr2
    have c1 : gl1 [some (.scr ns), some (.ref 0), o2, some (.tup (prog.map RW.d)), some (.int (prog.length : Int)), some (firstD prog), x6, some (.int (at_ : Int)), some (.tup odd), o9, o10, o11, o12] A1 = .nx [some (.scr ns), some (.ref 0), o2, some (.tup (prog.map RW.d)), some (.int (prog.length : Int)), some (firstD prog), x6, some (.int (at_ : Int)), some (.tup odd), some (.int ((at_ : Int) + v)), o10, o11, o12] A2 := asg_ok (bin_ok rfl (call_ok (cons_ok rfl (cons_ok (bin_ok rfl rfl rfl) rfl)) e2) rfl)
    have c2 : gl2 [some (.scr ns), some (.ref 0), o2, some (.tup (prog.map RW.d)), some (.int (prog.length : Int)), some (firstD prog), x6, some (.int (at_ : Int)), some (.tup odd), some (.int ((at_ : Int) + v)), o10, o11, o12] A2 = .nx [some (.scr ns), some (.ref 0), o2, some (.tup (prog.map RW.d)), some (.int (prog.length : Int)), some (firstD prog), x6, some (.int (at_ : Int)), some (.tup (odd.set (at_ + v) d)), some (.int ((at_ : Int) + v)), o10, o11, o12] A3 := asg_ok (put_ok (k := at_ + v) (by rw [ho.len]; exact h1) (by rw [ho.len]; omega) (fun _ => rfl) (fun _ => rfl) (call_ok (cons_ok rfl (cons_ok rfl rfl)) e3))
    exact ⟨odd.set (at_ + v) d, _, A3, iS_t t (seq_nx c1 c2), hr3, odd_put ho (by omega) (by omega) hb⟩
  · have t : (mTb (mBin eqD (mCall m__law_taken (mCons (mv 1) (mCons (mc (.int (2))) mNil))) (mc (.int (1))))) [some (.scr ns), some (.ref 0), o2, some (.tup (prog.map RW.d)), some (.int (prog.length : Int)), some (firstD prog), x6, some (.int (at_ : Int)), some (.tup odd), o9, o10, o11, o12] A = .ok false A1 := tb_ok (bin_ok (call_ok (cons_ok rfl (cons_ok rfl rfl)) e1) rfl (by
      show R.ok (D.bl ((w : Int) == 1)) A1 = _
      have : ((w : Int) == 1) = false := by
        rw [beq_eq_false_iff_ne]
        omega
      rw [this]))
    exact ⟨odd, _, A1, iS_f t rfl, hr1, ho⟩
/-- the program that is refused: the odd one, the long one, none -/
inductive HardP (prog : List RW) (at_ : Nat) (odd : List D) : List D → Nat → Prop
  | odd : HardP prog at_ odd odd at_
  | long {ds : List D} : 61 ≤ ds.length → ds.length ≤ 62 → (∀ d ∈ ds, ∃ r ∈ prog, d = r.d) → HardP prog at_ odd ds 60
  | nil : HardP prog at_ odd [] 0
theorem PT.Ok.mono {n k c : Nat} {p : PT} (h : PT.Ok n c p) (hk : n ≤ k) : PT.Ok k c p := by
  cases h with
  | b a b => exact .b a b
  | n a b => exact .n a b
  | o a b => exact .o a b
  | g a b => exact .g a (by omega)
  | r a b => exact .r a (by omega)
  | t a => exact .t a
theorem All2.mono {α β : Type} {P Q : α → β → Prop} (hq : ∀ a b, P a b → Q a b) {xs : List α} {ys : List β} (h : All2 P xs ys) : All2 Q xs ys := by
  induction h with
  | nil => exact .nil
  | cons a _ ih => exact .cons (hq _ _ a) ih
theorem RW.Ok.mono {n k : Nat} {r : RW} (h : r.Ok n) (hk : n ≤ k) : r.Ok k := by
  obtain ⟨f, hf, h2⟩ := h
  exact ⟨f, hf, All2.mono (fun _ _ q => PT.Ok.mono q hk) h2⟩
theorem odd_C (h : ∀ d ∈ odd, datC d = true ∧ depD d ≤ 2) : datCs odd = true ∧ depL odd ≤ 2 := ⟨by
  rw [datCs_all, List.all_eq_true]
  exact fun d hd => (h d hd).1, depL_le fun d hd => (h d hd).2⟩
theorem long_C {ds : List D} (h : ∀ r ∈ prog, r.Ok prog.length) (hd : ∀ d ∈ ds, ∃ r ∈ prog, d = r.d) : ∀ d ∈ ds, datC d = true ∧ depD d ≤ 2 := fun d q => by
  obtain ⟨r, hr, rfl⟩ := hd d q
  exact rw_C (h r hr)
theorem hard_np (h : ∀ r ∈ prog, r.Ok prog.length) (h1 : prog.length ≤ 60) (ho : OddP prog at_ odd) (hh : HardP prog at_ odd hard due) (A : AH) : m_need_program [.tup hard] A = .exc (badP due) A := by
  have hlt := ho.lt
  cases hh with
  | odd =>
    obtain ⟨a, b⟩ := odd_C ho.c
    obtain ⟨d, hd, hb⟩ := ho.bad
    exact np_x a (by omega) (by rw [ho.len]; omega) hd (fun i d hi hd => ⟨by omega, by rw [ho.len]; exact ho.pre i d hi hd A⟩) (.inr (by rw [ho.len]; exact hb.no A))
  | long l1 l2 hd =>
    obtain ⟨a, b⟩ := odd_C (long_C h hd)
    exact np_x a (by omega) (by omega) (List.getElem?_eq_getElem (by omega)) (fun i d hi hq => ⟨hi, by
      obtain ⟨r, hr, rfl⟩ := hd d (List.mem_of_getElem? hq)
      exact row_is (RW.Ok.mono (h r hr) (by omega))⟩) (.inl (Nat.le_refl _))
  | nil => exact np_nil
theorem bin_at {f : D → D → AH → R D} {a b : ME} {s : Sl} {A A1 A2 : AH} {u v : D} (ha : a s A = .ok u A1) (hb : b s A1 = .ok v A2) : mBin f a b s A = f u v A2 := by
  rw [e_bin, ha, kB1_0, hb, kB2_0]
theorem rep_len {ds : List D} : ∀ k : Nat, (repD k ds).length = k * ds.length
  | 0 => by simp [repD]
  | k + 1 => by
    have : repD (k + 1) ds = ds ++ repD k ds := rfl
    rw [this, List.length_append, rep_len k, Nat.succ_mul, Nat.add_comm]
theorem ge10_ok (hr : RowAt 0 ns A) (h0 : prog ≠ []) (h1 : prog.length ≤ 60) : ∃ hard due A', ge10 [some (.scr ns), some (.ref 0), o2, some (.tup (prog.map RW.d)), some (.int (prog.length : Int)), some (firstD prog), x6, some (.int (at_ : Int)), some (.tup odd), x9, o10, o11, o12] A = .nx [some (.scr ns), some (.ref 0), o2, some (.tup (prog.map RW.d)), some (.int (prog.length : Int)), some (firstD prog), x6, some (.int (at_ : Int)), some (.tup odd), x9, some (.tup hard), o11, o12] A' ∧ RowAt 0 ns A' ∧ HardP prog at_ odd hard due := by
  obtain ⟨t, A1, e1, hr1, l1⟩ := takenN 2 hr ⟨by omega, by omega⟩
  obtain ⟨w, A2, e2, hr2, l2⟩ := takenN 6 hr1 ⟨by omega, by omega⟩
  have hp : 0 < prog.length := List.length_pos_iff.mpr h0
  have m1 : ∀ B, mulD (.tup (prog.map RW.d)) (.int 61) B = .ok (.tup (repD 61 (prog.map RW.d))) B := fun B => by
    have : prog.map RW.d ≠ [] := by simpa using h0
    simp [mulD, this]
    omega
  have lr : (repD 61 (prog.map RW.d)).length = 61 * prog.length := by rw [rep_len, List.length_map]
  have m2 : slD (.tup (repD 61 (prog.map RW.d))) none (some ((61 : Int) + t)) A1 = .ok (.tup ((repD 61 (prog.map RW.d)).take (61 + t))) A1 := by
    show R.ok (D.tup (cutD (repD 61 (prog.map RW.d)) none (some ((61 + t : Nat) : Int)))) A1 = _
    unfold cutD
    rw [HT.sIx_none, HT.sIx_nat, List.drop_zero, Nat.sub_zero, List.take_eq_take_min (i := 61 + t)]
  have hL : HardP prog at_ odd ((repD 61 (prog.map RW.d)).take (61 + t)) 60 := by
    refine .long ?_ ?_ fun d hd => ?_
    · rw [List.length_take, lr]
      omega
    · rw [List.length_take, lr]
      omega
    · have hd := List.mem_of_mem_take hd
      unfold repD at hd
      obtain ⟨l, hl, hd⟩ := List.mem_flatten.mp hd
      rw [(List.mem_replicate.mp hl).2] at hd
      obtain ⟨r, hr, rfl⟩ := List.mem_map.mp hd
      exact ⟨r, hr, rfl⟩
  have cl : ((mLst (mCons (mv 8) (mCons (mSl (mBin mulD (mv 3) (mc (.int (61)))) mNoPart (mPart (mBin addD (mc (.int (61))) (mCall m__law_taken (mCons (mv 1) (mCons (mc (.int (2))) mNil)))))) (mCons (mTup mNil) mNil))))) [some (.scr ns), some (.ref 0), o2, some (.tup (prog.map RW.d)), some (.int (prog.length : Int)), some (firstD prog), x6, some (.int (at_ : Int)), some (.tup odd), x9, o10, o11, o12] A = .ok (.lst [.tup odd, .tup ((repD 61 (prog.map RW.d)).take (61 + t)), .tup []]) A1 := by
    refine lst_ok (cons_ok rfl (cons_ok ?_ (cons_ok (tup_ok rfl) rfl)))
    simp [m1, tk, e1, m2]
  have hw : w = 0 ∨ w = 1 ∨ w = 2 ∨ w = 3 ∨ w = 4 ∨ w = 5 := by omega
  have cw : ((mBin ixD (mLst (mCons (mc (.int (0))) (mCons (mc (.int (0))) (mCons (mc (.int (0))) (mCons (mc (.int (0))) (mCons (mc (.int (1))) (mCons (mc (.int (2))) mNil))))))) (mCall m__law_taken (mCons (mv 1) (mCons (mc (.int (6))) mNil))))) [some (.scr ns), some (.ref 0), o2, some (.tup (prog.map RW.d)), some (.int (prog.length : Int)), some (firstD prog), x6, some (.int (at_ : Int)), some (.tup odd), x9, o10, o11, o12] A1 = ixD (.lst [.int 0, .int 0, .int 0, .int 0, .int 1, .int 2]) (.int (w : Int)) A2 := bin_at (lst_ok rfl) (call_ok (cons_ok rfl (cons_ok rfl rfl)) e2)
  rcases hw with rfl | rfl | rfl | rfl | rfl | rfl
  · exact ⟨_, _, A2, asg_ok (bin_ok cl (cw.trans rfl) rfl), hr2, .odd⟩
  · exact ⟨_, _, A2, asg_ok (bin_ok cl (cw.trans rfl) rfl), hr2, .odd⟩
  · exact ⟨_, _, A2, asg_ok (bin_ok cl (cw.trans rfl) rfl), hr2, .odd⟩
  · exact ⟨_, _, A2, asg_ok (bin_ok cl (cw.trans rfl) rfl), hr2, .odd⟩
  · exact ⟨_, _, A2, asg_ok (bin_ok cl (cw.trans rfl) rfl), hr2, hL⟩
  · exact ⟨_, _, A2, asg_ok (bin_ok cl (cw.trans rfl) rfl), hr2, .nil⟩
theorem ge11_ok (h : ∀ r ∈ prog, r.Ok prog.length) (h1 : prog.length ≤ 60) (ho : OddP prog at_ odd) (hh : HardP prog at_ odd hard due) : ge11 [some (.scr ns), some (.ref 0), o2, some (.tup (prog.map RW.d)), some (.int (prog.length : Int)), some (firstD prog), x6, some (.int (at_ : Int)), some (.tup odd), x9, some (.tup hard), o11, o12] A = .nx [some (.scr ns), some (.ref 0), o2, some (.tup (prog.map RW.d)), some (.int (prog.length : Int)), some (firstD prog), some (.int (due : Int)), some (.int (at_ : Int)), some (.tup odd), x9, some (.tup hard), o11, o12] A := by
  have hlt := ho.lt
  obtain ⟨a, b⟩ := odd_C ho.c
  cases hh with
  | odd => exact asg_ok (if_t (tb_ok (bin_ok rfl rfl (eq_tupC a (by omega)))) rfl)
  | long l1 l2 hd =>
    obtain ⟨a2, b2⟩ := odd_C (long_C h hd)
    have q1 : eqD (.tup hard) (.tup odd) A = .ok (.bl false) A := eq_tupN a2 a (by omega) (by omega) (by rw [ho.len]; omega)
    have q2 : eqD (.tup hard) (.tup []) A = .ok (.bl false) A := eq_tupN a2 rfl (by omega) (Nat.zero_le _) (by simp only [List.length_nil]; omega)
    exact asg_ok (if_f (tb_ok (bin_ok rfl rfl q1)) (bin_ok (lst_ok rfl) (call_ok (cons_ok (bin_ok rfl (tup_ok rfl) q2) rfl) int_b) rfl))
  | nil =>
    have q1 : eqD (.tup []) (.tup odd) A = .ok (.bl false) A := eq_tupN rfl a (Nat.zero_le _) (by omega) (by rw [ho.len]; simp only [List.length_nil]; omega)
    have q2 : eqD (.tup []) (.tup []) A = .ok (.bl true) A := eq_tupC rfl (Nat.zero_le _)
    exact asg_ok (if_f (tb_ok (bin_ok rfl rfl q1)) (bin_ok (lst_ok rfl) (call_ok (cons_ok (bin_ok rfl (tup_ok rfl) q2) rfl) int_b) rfl))
theorem ge12_ok (hr : RowAt 0 ns A) (h : ∀ B, m_need_program [.tup hard] B = .exc (badP due) B) : ∃ A', ge12 [some (.scr ns), some (.ref 0), o2, some (.tup (prog.map RW.d)), some (.int (prog.length : Int)), some (firstD prog), some (.int (due : Int)), some (.int (at_ : Int)), some (.tup odd), x9, some (.tup hard), o11, o12] A = .nx [some (.scr ns), some (.ref 0), o2, some (.tup (prog.map RW.d)), some (.int (prog.length : Int)), some (firstD prog), some (.int (due : Int)), some (.int (at_ : Int)), some (.tup odd), x9, some (.tup hard), o11, o12] A' ∧ RowAt 0 ns A' := by
  have e := words_bad (A := A) h
  obtain ⟨a, b⟩ := rowsD_dat (k := due)
  have a2 : datD (.lst (List.replicate 6 (rowsD due))) = true := by simp [datD, datL, List.replicate, a]
  have b2 : depD (.lst (List.replicate 6 (rowsD due))) = 2 := by simp [depD, depL, List.replicate, b]
  have e1 : neD (.lst (List.replicate 6 (rowsD due))) (.lst (List.replicate 6 (rowsD due))) (A ++ [.ins "Machine" []]) = .ok (.bl false) (A ++ [.ins "Machine" []]) := by
    rw [ne_dat (by rw [a2]; rfl) (by rw [b2]; rfl), eqB_refl a2]
    rfl
  exact ⟨_, ifS_f (bin_ok (wks_of (by simp) (cons_ok rfl rfl) e) (bin_ok (lst_ok (cons_ok (tup_ok rfl) rfl)) rfl (mulL (k := 6) (by omega))) e1) rfl, hr.app _⟩
end
theorem turn_ok {ns : List Int} {A : AH} {o2 o3 o4 o5 o6 o7 o8 o9 o10 o11 o12 : Option D} (hr : RowAt 0 ns A) : ∃ p3 p4 p5 p6 p7 p8 p9 p10 p11 p12 A', gE [some (.scr ns), some (.ref 0), o2, o3, o4, o5, o6, o7, o8, o9, o10, o11, o12] A = .nx [some (.scr ns), some (.ref 0), o2, p3, p4, p5, p6, p7, p8, p9, p10, p11, p12] A' ∧ RowAt 0 ns A' := by
  obtain ⟨prog, A1, e1, r1, h, h0, h1⟩ := ge1_ok (o2 := o2) (o3 := o3) (o4 := o4) (o5 := o5) (o6 := o6) (o7 := o7) (o8 := o8) (o9 := o9) (o10 := o10) (o11 := o11) (o12 := o12) hr
  obtain ⟨A6, e6, r6⟩ := ge6_ok (o2 := o2) (o7 := o7) (o8 := o8) (o9 := o9) (o10 := o10) (o11 := o11) (o12 := o12) r1 h h0 h1
  obtain ⟨at_, A7, e7, r7, hat⟩ := ge7_ok (o2 := o2) (x6 := some (.ref A1.length)) (o7 := o7) (o8 := o8) (o9 := o9) (o10 := o10) (o11 := o11) (o12 := o12) r6 h0 h1
  obtain ⟨odd1, A8, e8, r8, ho1⟩ := ge8_ok (o2 := o2) (x6 := some (.ref A1.length)) (o8 := o8) (o9 := o9) (o10 := o10) (o11 := o11) (o12 := o12) r7 h h1 hat
  obtain ⟨odd, x9, A9, e9, r9, ho⟩ := ge9_ok (o2 := o2) (x6 := some (.ref A1.length)) (o9 := o9) (o10 := o10) (o11 := o11) (o12 := o12) r8 h1 ho1
  obtain ⟨hard, due, A10, e10, r10, hh⟩ := ge10_ok (o2 := o2) (x6 := some (.ref A1.length)) (x9 := x9) (at_ := at_) (odd := odd) (o10 := o10) (o11 := o11) (o12 := o12) r9 h0 h1
  have e11 := ge11_ok (ns := ns) (o2 := o2) (x6 := some (.ref A1.length)) (x9 := x9) (o11 := o11) (o12 := o12) (A := A10) h h1 ho hh
  obtain ⟨A12, e12, r12⟩ := ge12_ok (o2 := o2) (x9 := x9) (prog := prog) (at_ := at_) (odd := odd) (o11 := o11) (o12 := o12) r10 (hard_np h h1 ho hh)
  exact ⟨_, _, _, _, _, _, _, _, _, _, A12, seq_nx e1 (seq_nx ge2_ok (seq_nx (ge3_ok h h1) (seq_nx ge4_ok (seq_nx ge5_ok (seq_nx e6 (seq_nx e7 (seq_nx e8 (seq_nx e9 (seq_nx e10 (seq_nx e11 e12)))))))))), r12⟩
theorem law_holds : ∀ ns : List Int, ns.length ≤ 63 → ∃ A, m_law [.scr ns] [] = .ok (.bl true) A := fun ns _ => by
  have e0 : m_law [.scr ns] [] = finS (mSeq gA (mSeq gG (mRet (mc (.bl true)))) [some (.scr ns), none, none, none, none, none, none, none, none, none, none, none, none] []) := rfl
  have c1 : gA [some (.scr ns), none, none, none, none, none, none, none, none, none, none, none, none] [] = .nx [some (.scr ns), some (.ref 0), none, none, none, none, none, none, none, none, none, none, none] [rowO ns 0 0 0] := by
    simp [gA, rowO]
  have h0 : RowAt 0 ns [rowO ns 0 0 0] := ⟨0, 0, 0, rfl, Int.le_refl _⟩
  obtain ⟨s', A', e, hI, p2, p3, p4, p5, p6, p7, p8, p9, p10, p11, p12, rfl⟩ := forL_inv (g := gmN 2) (b := gE) (ds := (List.range 4).map fun i : Nat => D.int (i : Int)) (s := [some (.scr ns), some (.ref 0), none, none, none, none, none, none, none, none, none, none, none]) (A := [rowO ns 0 0 0])
    (fun s' A' => RowAt 0 ns A' ∧ ∃ p2 p3 p4 p5 p6 p7 p8 p9 p10 p11 p12 : Option D, s' = [some (.scr ns), some (.ref 0), p2, p3, p4, p5, p6, p7, p8, p9, p10, p11, p12])
    ⟨h0, _, _, _, _, _, _, _, _, _, _, _, rfl⟩ (fun d _ s B hB => by
      obtain ⟨hB1, p2, p3, p4, p5, p6, p7, p8, p9, p10, p11, p12, rfl⟩ := hB
      obtain ⟨q3, q4, q5, q6, q7, q8, q9, q10, q11, q12, A', e, z⟩ := turn_ok (o2 := some d) (o3 := p3) (o4 := p4) (o5 := p5) (o6 := p6) (o7 := p7) (o8 := p8) (o9 := p9) (o10 := p10) (o11 := p11) (o12 := p12) hB1
      exact ⟨_, _, A', rfl, e, z, _, _, _, _, _, _, _, _, _, _, _, rfl⟩)
  have e3 : gG [some (.scr ns), some (.ref 0), none, none, none, none, none, none, none, none, none, none, none] [rowO ns 0 0 0] = .nx [some (.scr ns), some (.ref 0), p2, p3, p4, p5, p6, p7, p8, p9, p10, p11, p12] A' := by
    unfold gG
    rw [mFor_data (ds := (List.range 4).map fun i : Nat => D.int (i : Int)) (A1 := [rowO ns 0 0 0]) (rng1 (j := 4) rfl (by decide))]
    exact e
  exact ⟨A', e0.trans (fin_of (seq_nx c1 (seq_nx e3 rfl)))⟩
end K01

set_option Elab.async false
set_option linter.all false
set_option maxRecDepth 100000
set_option maxHeartbeats 4000000
namespace K01
open PySem L2 Tg
theorem finE {l : PySem.W.OpenLaw} {w : World} {K : PySem.W.Frag} {mg : Str → Option Value} {fa : Addr} (hfa : mg "law" = some (.ref fa))
    (t__law_taken : TF K mg "_law_taken" "_law_taken" s__law_taken p__law_taken)
    (t__law_number : TF K mg "_law_number" "_law_number" s__law_number p__law_number)
    (t__law_rights : TF K mg "_law_rights" "_law_rights" s__law_rights p__law_rights)
    (t__law_row : TF K mg "_law_row" "_law_row" s__law_row p__law_row)
    (t__law_program : TF K mg "_law_program" "_law_program" s__law_program p__law_program)
    (t__law_may_be_plain : TF K mg "_law_may_be_plain" "_law_may_be_plain" s__law_may_be_plain p__law_may_be_plain)
    (t_BadProgram___init__ : TX K mg "BadProgram" "TagError" "row" "BadProgram.__init__" s_BadProgram___init__ p_BadProgram___init__)
    (t_are_rights : TF K mg "are_rights" "are_rights" s_are_rights p_are_rights)
    (t_is_number : TF K mg "is_number" "is_number" s_is_number p_is_number)
    (t_is_within : TF K mg "is_within" "is_within" s_is_within p_is_within)
    (t_is_part : TF K mg "is_part" "is_part" s_is_part p_is_part)
    (t_is_row : TF K mg "is_row" "is_row" s_is_row p_is_row)
    (t_need_program : TF K mg "need_program" "need_program" s_need_program p_need_program)
    (t_need_state : TF K mg "need_state" "need_state" s_need_state p_need_state)
    (t_run : TF K mg "run" "run" s_run p_run)
    (t_run_swept : TF K mg "run_swept" "run_swept" s_run_swept p_run_swept)
    (t_Machine___init__ : TI K mg "Machine" "Machine.__init__" s_Machine___init__ p_Machine___init__)
    (t_word_of : TF K mg "word_of" "word_of" s_word_of p_word_of)
    (t_written : TF K mg "written" "written" s_written p_written)
    (t_is_plain_marked : TFA K mg "is_plain_marked" "is_plain" "is_plain" s_is_plain_marked p_is_plain_marked)
    (t_need_plain : TF K mg "need_plain" "need_plain" s_need_plain p_need_plain)
    (t_BadWord___init__ : TX K mg "BadWord" "TagError" "place" "BadWord.__init__" s_BadWord___init__ p_BadWord___init__)
    (t_need_numbers : TF K mg "need_numbers" "need_numbers" s_need_numbers p_need_numbers)
    (t_run_places : TF K mg "run_places" "run_places" s_run_places p_run_places)
    (t_keyed : TF K mg "keyed" "keyed" s_keyed p_keyed)
    (t__law_bad : TF K mg "_law_bad" "_law_bad" s__law_bad p__law_bad)
    (t_law : TL K mg "law" s_law "_law_script")
    (g_BOXES_marked : GDat K mg "BOXES_marked" g_BOXES_marked)
    (g_BOXES_words : GDat K mg "BOXES_words" g_BOXES_words)
    (g_CELLS : GDat K mg "CELLS" g_CELLS)
    (g_FORMS : GTab K w mg "FORMS" tb_FORMS)
    (g_HALF : GDat K mg "HALF" g_HALF)
    (g_MOST_PLAIN : GDat K mg "MOST_PLAIN" g_MOST_PLAIN)
    (g_MOST_ROOMS : GDat K mg "MOST_ROOMS" g_MOST_ROOMS)
    (g_MOST_ROWS : GDat K mg "MOST_ROWS" g_MOST_ROWS)
    (g_NONE : GDat K mg "NONE" g_NONE)
    (g_OFFSET : GDat K mg "OFFSET" g_OFFSET)
    (g_PLACE : GDat K mg "PLACE" g_PLACE)
    (g_RIGHTS : GDat K mg "RIGHTS" g_RIGHTS)
    (g_WHOLE : GDat K mg "WHOLE" g_WHOLE)
    (g_WORDS : GDat K mg "WORDS" g_WORDS)
    (x_BadRooms : X0 K mg "BadRooms")
    (t__law_word : TF K mg "_law_word" "_law_word" s__law_word p__law_word)
    (wc : WordC K mg)
    (t__law_works : TF K mg "_law_works" "_law_works" s__law_works p__law_works)
    (lt_law : LamT K mg "law")
    (lt__law_works : LamT K mg "_law_works")
    (z_ValueError : mg "ValueError" = none)
    (z_bool : mg "bool" = none)
    (z_int : mg "int" = none)
    (z_isinstance : mg "isinstance" = none)
    (z_len : mg "len" = none)
    (z_max : mg "max" = none)
    (z_range : mg "range" = none)
    (z_str : mg "str" = none)
    (z_tuple : mg "tuple" = none)
    {cs : List (Addr × Addr)} (hcs : ∀ x ∈ lamDefs, ∀ P, tabA K mg x = some P → ∃ c, codeA K mg x = some c ∧ (c, P) ∈ cs)
    : ∃ fd : FuncData, (∀ (s : Shared) (v : Value), BindsTo s fd ⟨[v], []⟩ [("_law_script", v)]) ∧ ∀ base : Heap, K.In base → base.Ns mainGlobals mg → (∀ z ∈ cs, LamX.TabB base mg z.1 z.2) → FnOk l.prog w K mg base (L2.CX l.prog w) 11 fa fd ["_law_script"] (spLawT K cs) :=
  lawEnd hfa t_law sc_law hcs (fun base LB => y_law ⟨t__law_taken, t__law_number, t__law_rights, t__law_row, t__law_program, t__law_may_be_plain, t_BadProgram___init__, t_are_rights, t_is_number, t_is_within, t_is_part, t_is_row, t_need_program, t_need_state, t_run, t_run_swept, t_Machine___init__, t_word_of, t_written, t_is_plain_marked, t_need_plain, t_BadWord___init__, t_need_numbers, t_run_places, t_keyed, t__law_bad, t_law, g_BOXES_marked, g_BOXES_words, g_CELLS, g_FORMS, g_HALF, g_MOST_PLAIN, g_MOST_ROOMS, g_MOST_ROWS, g_NONE, g_OFFSET, g_PLACE, g_RIGHTS, g_WHOLE, g_WORDS, x_BadRooms, t__law_word, wc, t__law_works, lt_law, lt__law_works, z_ValueError, z_bool, z_int, z_isinstance, z_len, z_max, z_range, z_str, z_tuple⟩ LB) law_holds
theorem facts {w : World} {K : PySem.W.Frag} {h : Heap} {mg : Str → Option Value} {f : Addr} (X : K.In h) (G : h.Ns mainGlobals mg) (hfa : mg "law" = some (.ref f)) (c : SaysX hFc hFn hTs w K) (tt : TabIn hXs K h) :
    ∃ fd : FuncData, (∀ (s : Shared) (v : Value), BindsTo s fd ⟨[v], []⟩ [("_law_script", v)]) ∧ ∀ base : Heap, K.In base → base.Ns mainGlobals mg → (∀ z ∈ csOf hXs K, LamX.TabB base mg z.1 z.2) → FnOk PySem.Challenge.rw_tagmachine_k01_programs_refused.prog w K mg base (L2.CX PySem.Challenge.rw_tagmachine_k01_programs_refused.prog w) 11 f fd ["_law_script"] (spLawT K (csOf hXs K)) :=
  finE (l := PySem.Challenge.rw_tagmachine_k01_programs_refused) hfa
    (tfH X G (c.fact 0 rfl) (c.df 0 rfl) (c.fact 1 rfl) (fun _ _ _ _ _ _ us hl => match us, hl with | [_, _], _ => rfl))
    (tfH X G (c.fact 2 rfl) (c.df 1 rfl) (c.fact 3 rfl) (fun _ _ _ _ _ _ us hl => match us, hl with | [_], _ => rfl))
    (tfH X G (c.fact 4 rfl) (c.df 2 rfl) (c.fact 5 rfl) (fun _ _ _ _ _ _ us hl => match us, hl with | [_], _ => rfl))
    (tfH X G (c.fact 6 rfl) (c.df 3 rfl) (c.fact 7 rfl) (fun _ _ _ _ _ _ us hl => match us, hl with | [_, _, _], _ => rfl))
    (tfH X G (c.fact 8 rfl) (c.df 4 rfl) (c.fact 9 rfl) (fun _ _ _ _ _ _ us hl => match us, hl with | [_, _], _ => rfl))
    (tfH X G (c.fact 10 rfl) (c.df 5 rfl) (c.fact 11 rfl) (fun _ _ _ _ _ _ us hl => match us, hl with | [_], _ => rfl))
    (txVH X G (c.fact 12 rfl) (c.fact 13 rfl) (c.fact 14 rfl) (c.df 6 rfl) (c.fact 15 rfl) (fun _ _ _ _ _ _ us hl => match us, hl with | [_, _], _ => rfl) (xbH X G (c.fact 16 rfl) (c.fact 17 rfl) (c.fact 18 rfl) (by decide +kernel)))
    (tfH X G (c.fact 19 rfl) (c.df 7 rfl) (c.fact 20 rfl) (fun _ _ _ _ _ _ us hl => match us, hl with | [_], _ => rfl))
    (tfH X G (c.fact 21 rfl) (c.df 8 rfl) (c.fact 22 rfl) (fun _ _ _ _ _ _ us hl => match us, hl with | [_], _ => rfl))
    (tfH X G (c.fact 23 rfl) (c.df 9 rfl) (c.fact 24 rfl) (fun _ _ _ _ _ _ us hl => match us, hl with | [_, _, _], _ => rfl))
    (tfH X G (c.fact 25 rfl) (c.df 10 rfl) (c.fact 26 rfl) (fun _ _ _ _ _ _ us hl => match us, hl with | [_, _, _], _ => rfl))
    (tfH X G (c.fact 27 rfl) (c.df 11 rfl) (c.fact 28 rfl) (fun _ _ _ _ _ _ us hl => match us, hl with | [_, _], _ => rfl))
    (tfH X G (c.fact 29 rfl) (c.df 12 rfl) (c.fact 30 rfl) (fun _ _ _ _ _ _ us hl => match us, hl with | [_], _ => rfl))
    (tfH X G (c.fact 31 rfl) (c.df 13 rfl) (c.fact 32 rfl) (fun _ _ _ _ _ _ us hl => match us, hl with | [_, _, _, _], _ => rfl))
    (tfH X G (c.fact 33 rfl) (c.df 14 rfl) (c.fact 34 rfl) (fun _ _ _ _ _ _ us hl => match us, hl with | [_, _, _, _, _], _ => rfl))
    (tfH X G (c.fact 35 rfl) (c.df 15 rfl) (c.fact 36 rfl) (fun _ _ _ _ _ _ us hl => match us, hl with | [_, _, _, _, _, _], _ => rfl))
    (tiH X G (c.fact 37 rfl) (c.fact 38 rfl) (c.df 16 rfl) (c.fact 39 rfl) (fun _ _ _ _ _ _ us hl => match us, hl with | [_, _, _, _, _], _ => rfl))
    (tfH X G (c.fact 40 rfl) (c.df 17 rfl) (c.fact 41 rfl) (fun _ _ _ _ _ _ us hl => match us, hl with | [_], _ => rfl))
    (tfH X G (c.fact 42 rfl) (c.df 18 rfl) (c.fact 43 rfl) (fun _ _ _ _ _ _ us hl => match us, hl with | [_], _ => rfl))
    (tfaH X G (c.fact 44 rfl) (c.df 19 rfl) (c.fact 45 rfl) (fun _ _ _ _ _ _ us hl => match us, hl with | [_], _ => rfl))
    (tfH X G (c.fact 46 rfl) (c.df 20 rfl) (c.fact 47 rfl) (fun _ _ _ _ _ _ us hl => match us, hl with | [_], _ => rfl))
    (txVH X G (c.fact 48 rfl) (c.fact 49 rfl) (c.fact 50 rfl) (c.df 21 rfl) (c.fact 51 rfl) (fun _ _ _ _ _ _ us hl => match us, hl with | [_, _], _ => rfl) (xbH X G (c.fact 16 rfl) (c.fact 17 rfl) (c.fact 18 rfl) (by decide +kernel)))
    (tfH X G (c.fact 52 rfl) (c.df 22 rfl) (c.fact 53 rfl) (fun _ _ _ _ _ _ us hl => match us, hl with | [_], _ => rfl))
    (tfH X G (c.fact 54 rfl) (c.df 23 rfl) (c.fact 55 rfl) (fun _ _ _ _ _ _ us hl => match us, hl with | [_, _, _], _ => rfl))
    (tfH X G (c.fact 56 rfl) (c.df 24 rfl) (c.fact 57 rfl) (fun _ _ _ _ _ _ us hl => match us, hl with | [_], _ => rfl))
    (tfH X G (c.fact 58 rfl) (c.df 25 rfl) (c.fact 59 rfl) (fun _ _ _ _ _ _ us hl => match us, hl with | [_, _], _ => rfl))
    (tlH X G (c.fact 60 rfl) (c.df 26 rfl) (c.fact 61 rfl) (fun _ _ _ _ _ _ us hl => match us, hl with | [_], _ => rfl))
    (intH X G (c.fact 62 rfl))
    (intH X G (c.fact 63 rfl))
    (intH X G (c.fact 64 rfl))
    (tabH X G (c.fact 65 rfl) (c.tab 0 rfl) (c.fact 66 rfl))
    (intH X G (c.fact 67 rfl))
    (intH X G (c.fact 68 rfl))
    (intH X G (c.fact 69 rfl))
    (intH X G (c.fact 70 rfl))
    (strH X G (c.fact 71 rfl))
    (intH X G (c.fact 72 rfl))
    (intH X G (c.fact 73 rfl))
    (strH X G (c.fact 74 rfl))
    (intH X G (c.fact 75 rfl))
    (tupH X G (c.fact 76 rfl) (c.fact 77 rfl))
    (x0H X G (c.fact 78 rfl) (c.fact 79 rfl))
    (tfH X G (c.fact 80 rfl) (c.df 27 rfl) (c.fact 81 rfl) (fun _ _ _ _ _ _ us hl => match us, hl with | [_], _ => rfl))
    (wordC_of X G (fun z hz => List.all_eq_true.mp (c.fact 82 rfl) z hz) (c.fact 83 rfl) (c.fact 84 rfl))
    (tfH X G (c.fact 85 rfl) (c.df 28 rfl) (c.fact 86 rfl) (fun _ _ _ _ _ _ us hl => match us, hl with | [_], _ => rfl))
    (lamT_of X tt (c.fact 87 rfl) (by decide) (by decide) (lamG_ok X G (c.fact 88 rfl)) (lamN_ok X G (c.fact 89 rfl)))
    (lamT_of X tt (c.fact 87 rfl) (by decide) (by decide) (lamG_ok X G (c.fact 88 rfl)) (lamN_ok X G (c.fact 89 rfl)))
    (noneH X G (c.fact 90 rfl))
    (noneH X G (c.fact 91 rfl))
    (noneH X G (c.fact 92 rfl))
    (noneH X G (c.fact 93 rfl))
    (noneH X G (c.fact 94 rfl))
    (noneH X G (c.fact 95 rfl))
    (noneH X G (c.fact 96 rfl))
    (noneH X G (c.fact 97 rfl))
    (noneH X G (c.fact 98 rfl))
    (csOf_has tt (lamG_ok X G (c.fact 88 rfl)) (lamN_ok X G (c.fact 89 rfl)))
end K01
open PySem PySem.W PyProof.Rows in
set_option maxRecDepth 100000 in
set_option maxHeartbeats 0 in
theorem PySem.Challenge.cw_tagmachine_k01_programs_refused_holds : PySem.Challenge.rw_tagmachine_k01_programs_refused.Holds := by
  w_on; o_law
  refine HandSHeadRun.head_any (r := K01.hR) (q := K01.hQ) (H := K01.hK) (ob := fun s => Tg.obsTG K01.hFc K01.hFn K01.hTs K01.hXs (HandSHeadRun.getT s)) (M := 20000) (loose := K01.hNm) (d := HandSHeadRun.topDef K01.hR.prog 84) (kwd := []) Tg.obsT_eq
    (by kernel_rfl) (fun _ => by kernel_rfl) K01.hRun (by kernel_rfl) (by kernel_rfl) (by kernel_rfl) (by rfl) (by first | assumption | decide +kernel) (by decide +kernel) ⟨rfl, rfl, rfl, rfl, rfl, by decide +kernel⟩ ?hw ?hc
  case hw => w_witness2
  case hc =>
    refine Tg.walkT (l := PySem.Challenge.rw_tagmachine_k01_programs_refused) (k := 11) (p := "_law_script") rfl (by kernel_rfl) ⟨rfl, by decide, by decide⟩ ?_
    intro v mg fa hp Y G hm0
    obtain ⟨K, KX, c, tt⟩ := Y
    have hm : mg ("law" : PySem.Str) = some (.ref fa) := by
      have e : (HandSHeadRun.topDef K01.hR.prog 84).name = ("law" : PySem.Str) := by kernel_rfl
      rw [← e]
      exact hm0
    obtain ⟨fd, hb, hF⟩ := K01.facts KX G hm c tt
    exact ⟨K, K01.hXs, fd, KX, tt, hb, hF⟩
