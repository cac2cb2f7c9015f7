import PyProof.Rows.All
import Wide.All
import OpenK.AllK
import Wide.FinOn
import HandS.ForMost
import HandS.Exc
import HandS.ExcOwn
import HandS.TryOnly
import HandS.CallSlots
import HandS.Style
import HandS.Wide
import HandS.Deep
import HandS.HeadHook4
import HandS.TupAny
import HandS.TupLe
import HandS.WideBits
import HandS.Gcd
import HandS.SetFor
import HandS.NoneIn
import KE.GoesEnum
import HandS.SortKw
import HandS.Comp
import HandS.Small
import HandS.TupMul
import HandS.Defaults
import HandS.HeadEnd
import HandS.EndBits
import HandS.WordsExc
import HandS.Star
import PyProof.Rows.ListMulArg
import PyProof.ReprRoads
import PyProof.CallFns
import HandS.SortInts
import HandS.ExcInit
import KE.KExcSuper
import HandS.ExcField
import HandS.IsInst
import PyProof.StrOps2
import HandS.Conv
import HandS.More
import HandS.Head0
import HandS.Head1
import HandS.Head2
import KE.KStateDown
import PyProof.StrLawsRepr
import PyProof.FitsInt
import PySem.Challenge.RW_forthandback_k15_what_is_made_nothing
set_option Elab.async false
set_option linter.all false
set_option maxRecDepth 100000
set_option maxHeartbeats 0
section
namespace Pd
open PySem PySem.Spec L2

/-- plain data; ref l: the changeable thing number l of the store -/
inductive D where
  | non | bl (b : Bool) | int (i : Int) | str (x : Str)
  | tup (xs : List D) | lst (xs : List D) | dic (ks : List Key) (xs : List D) | dit (ks : List (List Key)) (xs : List D)
  | cst (v : V) | ref (l : Nat) | exn (a d : Addr) (fs : List Str) (xs : List D)

/-- a changeable thing -/
inductive Cell where
  | lst (xs : List D) | dic (ks : List Key) (xs : List D) | dit (ks : List (List Key)) (xs : List D) | ins (C : Addr) (fs : List Str) (xs : List D)
abbrev Mu := List (Option Cell)
abbrev Sl := List (Option D)

mutual
def RepV (K : PySem.W.Frag) (G : Hp) (m : List Addr) : D → V → Prop
  | .non, v => v = .non
  | .bl b, v => v = .bl b
  | .int i, v => v = .int i
  | .str x, v => v = .str x
  | .tup ds, v => ∃ a vs, v = .ref a ∧ SqT K G a vs ∧ RepL K G m ds vs
  | .lst ds, v => ∃ a vs, v = .ref a ∧ SqL K G a vs ∧ RepL K G m ds vs
  | .dic ks ds, v => ∃ a vs, v = .ref a ∧ Rd G a (.dK (ks.zip vs)) ∧ ks.length = ds.length ∧ RepL K G m ds vs
  | .dit ks ds, v => ∃ a vs, v = .ref a ∧ Rd G a (.dT (ks.zip vs)) ∧ ks.length = ds.length ∧ RepL K G m ds vs
  | .cst w, v => v = w
  | .ref l, v => ∃ a, v = .ref a ∧ m[l]? = some a
  | .exn a d fs ds, v => v = .ref a ∧ ∃ vs, G d = some (.xd (fs.zip vs)) ∧ fs.length = ds.length ∧ RepL K G m ds vs
def RepL (K : PySem.W.Frag) (G : Hp) (m : List Addr) : List D → List V → Prop
  | [], vs => vs = []
  | d :: ds, vs => ∃ v r, vs = v :: r ∧ RepV K G m d v ∧ RepL K G m ds r
end

def Le (G G' : Hp) : Prop := ∀ a o, G a = some o → G' a = some o
theorem Le.refl (G : Hp) : Le G G := fun _ _ h => h
theorem Le.trans {G G1 G2 : Hp} (a : Le G G1) (b : Le G1 G2) : Le G G2 := fun c o h => b c o (a c o h)
theorem Le.rd {G G' : Hp} {a : Addr} {u : HO} (h : Le G G') (r : Rd G a u) : Rd G' a u := by
  rcases r with r | ⟨o, r⟩
  · exact .inl (h _ _ r)
  · exact .inr ⟨o, h _ _ r⟩
theorem Le.sqL {K : PySem.W.Frag} {G G' : Hp} {a : Addr} {xs : List V} (h : Le G G') (r : SqL K G a xs) : SqL K G' a xs := r.imp (fun q => h.rd q) fun q => q
theorem Le.sqT {K : PySem.W.Frag} {G G' : Hp} {a : Addr} {xs : List V} (h : Le G G') (r : SqT K G a xs) : SqT K G' a xs := r.imp (fun q => h.rd q) fun q => q

theorem getE_app {α : Type} {l r : List α} {i : Nat} {x : α} (h : l[i]? = some x) : (l ++ r)[i]? = some x := by
  have hi := (List.getElem?_eq_some_iff.mp h).1
  rw [List.getElem?_append_left hi]; exact h

section
variable {K : PySem.W.Frag} {G G' : Hp} {m r : List Addr}
mutual
theorem RepV.mono (h : Le G G') : ∀ {d : D} {v : V}, RepV K G m d v → RepV K G' (m ++ r) d v
  | .non, _, x => x
  | .bl _, _, x => x
  | .int _, _, x => x
  | .str _, _, x => x
  | .tup ds, _, x => by
    obtain ⟨a, vs, e, s, l⟩ := x
    exact ⟨a, vs, e, h.sqT s, RepL.mono h l⟩
  | .lst ds, _, x => by
    obtain ⟨a, vs, e, s, l⟩ := x
    exact ⟨a, vs, e, h.sqL s, RepL.mono h l⟩
  | .dic ks ds, _, x => by
    obtain ⟨a, vs, e, s, z, l⟩ := x
    exact ⟨a, vs, e, h.rd s, z, RepL.mono h l⟩
  | .dit ks ds, _, x => by
    obtain ⟨a, vs, e, s, z, l⟩ := x
    exact ⟨a, vs, e, h.rd s, z, RepL.mono h l⟩
  | .cst _, _, x => x
  | .ref l, _, x => by
    obtain ⟨a, e, q⟩ := x
    exact ⟨a, e, getE_app q⟩
  | .exn _ _ _ ds, _, x => by
    obtain ⟨e, vs, g, z, l⟩ := x
    exact ⟨e, vs, h _ _ g, z, RepL.mono h l⟩
theorem RepL.mono (h : Le G G') : ∀ {ds : List D} {vs : List V}, RepL K G m ds vs → RepL K G' (m ++ r) ds vs
  | [], _, x => x
  | d :: ds, _, x => by
    obtain ⟨v, w, e, x1, x2⟩ := x
    exact ⟨v, w, e, RepV.mono h x1, RepL.mono h x2⟩
end
theorem RepL.length : ∀ {ds : List D} {vs : List V}, RepL K G m ds vs → vs.length = ds.length
  | [], _, x => by cases x; rfl
  | d :: ds, _, x => by
    obtain ⟨v, w, rfl, x1, x2⟩ := x
    simp [RepL.length x2]
theorem RepL.get : ∀ {ds : List D} {vs : List V} {i : Nat} {d : D}, RepL K G m ds vs → ds[i]? = some d → ∃ v, vs[i]? = some v ∧ RepV K G m d v
  | [], _, i, d, _, h => by simp at h
  | d :: ds, _, 0, d', x, h => by
    obtain ⟨v, w, rfl, x1, x2⟩ := x
    simp at h; subst h
    exact ⟨v, rfl, x1⟩
  | d :: ds, _, i + 1, d', x, h => by
    obtain ⟨v, w, rfl, x1, x2⟩ := x
    obtain ⟨u, h1, h2⟩ := RepL.get (i := i) (d := d') x2 (by simpa using h)
    exact ⟨u, by simpa using h1, h2⟩
theorem RepL.app : ∀ {ds es : List D} {vs ws : List V}, RepL K G m ds vs → RepL K G m es ws → RepL K G m (ds ++ es) (vs ++ ws)
  | [], es, _, ws, x, y => by cases x; exact y
  | d :: ds, es, _, ws, x, y => by
    obtain ⟨v, w, rfl, x1, x2⟩ := x
    exact ⟨v, w ++ ws, rfl, x1, RepL.app x2 y⟩
theorem RepL.set : ∀ {ds : List D} {vs : List V} {i : Nat} {d : D} {v : V}, RepL K G m ds vs → RepV K G m d v → RepL K G m (ds.set i d) (vs.set i v)
  | [], _, i, d, v, x, _ => by cases x; exact rfl
  | d' :: ds, _, 0, d, v, x, y => by
    obtain ⟨v', w, rfl, x1, x2⟩ := x
    exact ⟨v, w, rfl, y, x2⟩
  | d' :: ds, _, i + 1, d, v, x, y => by
    obtain ⟨v', w, rfl, x1, x2⟩ := x
    exact ⟨v', w.set i v, rfl, x1, RepL.set x2 y⟩
theorem RepL.take : ∀ {ds : List D} {vs : List V} (n : Nat), RepL K G m ds vs → RepL K G m (ds.take n) (vs.take n)
  | [], _, n, x => by cases x; cases n <;> exact rfl
  | d :: ds, _, 0, x => by
    obtain ⟨v, w, rfl, x1, x2⟩ := x
    exact rfl
  | d :: ds, _, n + 1, x => by
    obtain ⟨v, w, rfl, x1, x2⟩ := x
    exact ⟨v, w.take n, rfl, x1, RepL.take n x2⟩
theorem RepL.drop : ∀ {ds : List D} {vs : List V} (n : Nat), RepL K G m ds vs → RepL K G m (ds.drop n) (vs.drop n)
  | [], _, n, x => by cases x; cases n <;> exact rfl
  | d :: ds, _, 0, x => x
  | d :: ds, _, n + 1, x => by
    obtain ⟨v, w, rfl, x1, x2⟩ := x
    exact RepL.drop n x2
theorem RepL.rev : ∀ {ds : List D} {vs : List V}, RepL K G m ds vs → RepL K G m ds.reverse vs.reverse
  | [], _, x => by cases x; exact rfl
  | d :: ds, _, x => by
    obtain ⟨v, w, rfl, x1, x2⟩ := x
    rw [List.reverse_cons, List.reverse_cons]
    exact RepL.app (RepL.rev x2) ⟨v, [], rfl, x1, rfl⟩
theorem RepL.rep (n : Nat) : ∀ {ds : List D} {vs : List V}, RepL K G m ds vs → RepL K G m (List.replicate n ds).flatten (List.replicate n vs).flatten := by
  intro ds vs x
  induction n with
  | zero => exact rfl
  | succ n ih =>
    rw [List.replicate_succ, List.replicate_succ, List.flatten_cons, List.flatten_cons]
    exact RepL.app x ih
end

/-! ### the store's things as they stand -/
def CellRep (K : PySem.W.Frag) (G : Hp) (m : List Addr) (H : Hp) (a : Addr) : Cell → Prop
  | .lst ds => ∃ vs, H a = some (.lst vs) ∧ RepL K G m ds vs
  | .dic ks ds => ∃ vs, H a = some (.dK (ks.zip vs)) ∧ ks.length = ds.length ∧ RepL K G m ds vs
  | .dit ks ds => ∃ vs, H a = some (.dT (ks.zip vs)) ∧ ks.length = ds.length ∧ RepL K G m ds vs
  | .ins C fs ds => ∃ dx vs, H a = some (.ins C dx (fs.zip vs)) ∧ fs.length = ds.length ∧ RepL K G m ds vs
def Live (m : List Addr) (μ : Mu) (a : Addr) : Prop := ∃ (l : Nat) (c : Cell), μ[l]? = some (some c) ∧ m[l]? = some a

/-- H: the heap; G: the part of it in which all that is not changeable stands; m: where the store's things stand -/
structure Wf (K : PySem.W.Frag) (H G : Hp) (m : List Addr) (μ : Mu) : Prop where
  sub : Le G H
  len : m.length = μ.length
  cell : ∀ (l : Nat) c a, μ[l]? = some (some c) → m[l]? = some a → G a = none ∧ CellRep K G m H a c
  inj : ∀ (l l' : Nat) a c c', μ[l]? = some (some c) → μ[l']? = some (some c') → m[l]? = some a → m[l']? = some a → l = l'

/-- from one state to a later one: nothing but live things has changed -/
structure Step (H G : Hp) (m : List Addr) (μ : Mu) (H' G' : Hp) (m' : List Addr) (μ' : Mu) : Prop where
  gsub : Le G G'
  frame : ∀ a o, H a = some o → ¬ Live m μ a → H' a = some o
  gnew : ∀ a, G' a ≠ none → G a ≠ none ∨ H a = none ∨ Live m μ a
  lnew : ∀ a, Live m' μ' a → Live m μ a ∨ H a = none
  mext : ∃ r, m' = m ++ r
  kp : ∀ a, H' a = none → H a = none
section
variable {K : PySem.W.Frag} {H G H' G' H1 G1 H2 G2 : Hp} {m m' m1 m2 : List Addr} {μ μ' μ1 μ2 : Mu}
theorem Step.refl : Step H G m μ H G m μ := ⟨Le.refl _, fun _ _ h _ => h, fun _ h => .inl h, fun _ h => .inl h, ⟨[], by simp⟩, fun _ h => h⟩
theorem Step.trans (a : Step H G m μ H1 G1 m1 μ1) (b : Step H1 G1 m1 μ1 H2 G2 m2 μ2) : Step H G m μ H2 G2 m2 μ2 where
  gsub := a.gsub.trans b.gsub
  frame := fun x o e n => b.frame x o (a.frame x o e n) fun l => (a.lnew x l).elim n fun z => by rw [e] at z; cases z
  gnew := fun x h => by
    rcases b.gnew x h with h | h | h
    · exact a.gnew x h
    · by_cases n : Live m μ x
      · exact .inr (.inr n)
      · refine .inr (.inl ?_)
        cases q : H x with
        | none => rfl
        | some o => rw [a.frame x o q n] at h; cases h
    · exact .inr ((a.lnew x h).symm)
  lnew := fun x h => by
    rcases b.lnew x h with h | h
    · exact a.lnew x h
    · by_cases n : Live m μ x
      · exact .inl n
      · refine .inr ?_
        cases q : H x with
        | none => rfl
        | some o => rw [a.frame x o q n] at h; cases h
  mext := by
    obtain ⟨r, e⟩ := a.mext
    obtain ⟨r', e'⟩ := b.mext
    exact ⟨r ++ r', by rw [e', e, List.append_assoc]⟩
  kp := fun x h => a.kp x (b.kp x h)
theorem Step.repV (s : Step H G m μ H' G' m' μ') {d : D} {v : V} (x : RepV K G m d v) : RepV K G' m' d v := by
  obtain ⟨r, e⟩ := s.mext
  rw [e]; exact x.mono s.gsub
theorem Step.repL (s : Step H G m μ H' G' m' μ') {d : List D} {v : List V} (x : RepL K G m d v) : RepL K G' m' d v := by
  obtain ⟨r, e⟩ := s.mext
  rw [e]; exact x.mono s.gsub
end

/-! ### slots -/
structure RepS (K : PySem.W.Frag) (G : Hp) (m : List Addr) (sl : Sl) (σ : L2.St) : Prop where
  len : sl.length = σ.length
  at_ : ∀ (i : Nat) d, sl[i]? = some (some d) → ∃ v, σ[i]? = some (some v) ∧ RepV K G m d v
section
variable {K : PySem.W.Frag} {H G H' G' : Hp} {m m' : List Addr} {μ μ' : Mu} {sl : Sl} {σ : L2.St}
theorem Step.repS (s : Step H G m μ H' G' m' μ') (x : RepS K G m sl σ) : RepS K G' m' sl σ := ⟨x.len, fun i d h => by
  obtain ⟨v, h1, h2⟩ := x.at_ i d h
  exact ⟨v, h1, s.repV h2⟩⟩
theorem RepS.set (x : RepS K G m sl σ) {d : D} {v : V} (r : RepV K G m d v) (i : Nat) : RepS K G m (sl.set i (some d)) (σ.set i (some v)) := ⟨by simp [x.len], fun j d' h => by
  by_cases e : i = j
  · subst e
    have hi : i < sl.length := by
      have := (List.getElem?_eq_some_iff.mp h).1
      simpa using this
    rw [List.getElem?_set_self hi] at h
    cases h
    exact ⟨v, List.getElem?_set_self (by rw [← x.len]; exact hi), r⟩
  · rw [List.getElem?_set_ne e] at h
    obtain ⟨u, h1, h2⟩ := x.at_ j d' h
    exact ⟨u, by rw [List.getElem?_set_ne e]; exact h1, h2⟩⟩
end

/-! ### outcomes -/
structure Exn where
  cls : Str
  fs : List Str
  xs : List D
inductive Out (α : Type) where
  | ok (a : α) (μ : Mu) | exc (x : Exn) (μ : Mu)
abbrev R (α : Type) := Option (Out α)
abbrev DE := Sl → Mu → R D
inductive OutS where
  | nx (sl : Sl) (μ : Mu) | rt (d : D) (μ : Mu) | bk (sl : Sl) (μ : Mu) | ct (sl : Sl) (μ : Mu) | exc (x : Exn) (sl : Sl) (μ : Mu)
abbrev DS := Sl → Mu → Option OutS

/-- an exception as it lies behind: ga K gives the classes' addresses -/
def ExcRep (K : PySem.W.Frag) (H G : Hp) (m : List Addr) (x : Exn) (c : Value) (dd : Option Addr) : Prop :=
  c = .ref (He.ga K x.cls) ∧ x.fs.length = x.xs.length ∧ ∃ vs, RepL K G m x.xs vs ∧ match dd with
    | none => x.fs = []
    | some a => G a = some (.xd (x.fs.zip vs))

end Pd
end
section
namespace Pd
open PySem PySem.Spec L2

/-- a wish about exceptions, at the slots -/
abbrev WX := Value → Option Addr → L2.St → Hp → Prop

section
variable {α β γ δ : Type}
def bindR (r : R α) (f : α → Mu → R β) : R β := match r with
  | some (.ok a μ) => f a μ
  | some (.exc x μ) => some (.exc x μ)
  | none => none

/-- what is wanted of an outcome that began at (H, G, m, μ) -/
def okA (rep : Hp → List Addr → α → β → Prop) (K : PySem.W.Frag) (W : WX) (σ : L2.St) (H G : Hp) (m : List Addr) (μ : Mu) (r : R α) (Q : β → Hp → Prop) : Prop := match r with
  | some (.ok a μ') => ∀ b H' G' m', Wf K H' G' m' μ' → Step H G m μ H' G' m' μ' → rep G' m' a b → Q b H'
  | some (.exc x μ') => ∀ c dd H' G' m', Wf K H' G' m' μ' → Step H G m μ H' G' m' μ' → ExcRep K H' G' m' x c dd → W c dd σ H'
  | none => False

/-- the transformer of a plain function of slots and store, temporaries ds standing as vs -/
def T (rep : Hp → List Addr → α → β → Prop) (K : PySem.W.Frag) (W : WX) (ds : List D) (vs : List V) (f : Sl → Mu → R α) : L2.St → Hp → (β → Hp → Prop) → Prop := fun σ H Q =>
  ∃ G m μ sl, Wf K H G m μ ∧ RepS K G m sl σ ∧ RepL K G m ds vs ∧ okA rep K W σ H G m μ (f sl μ) Q

abbrev repV (K : PySem.W.Frag) : Hp → List Addr → D → V → Prop := fun G m => RepV K G m
abbrev repL (K : PySem.W.Frag) : Hp → List Addr → List D → List V → Prop := fun G m => RepL K G m
abbrev repB : Hp → List Addr → Bool → Bool → Prop := fun _ _ a b => a = b

abbrev TD (K : PySem.W.Frag) (W : WX) (f : DE) : TE := T (repV K) K W [] [] f
abbrev TDs (K : PySem.W.Frag) (W : WX) (f : Sl → Mu → R (List D)) : TA := T (repL K) K W [] [] f
abbrev TB (K : PySem.W.Frag) (W : WX) (f : Sl → Mu → R Bool) : TT := T repB K W [] [] f

variable {rep : Hp → List Addr → α → β → Prop} {rep2 : Hp → List Addr → γ → δ → Prop} {K : PySem.W.Frag} {W : WX} {ds : List D} {vs : List V} {σ : L2.St} {H : Hp}

/-- first r, then what k makes of it -/
theorem okA.bind {G : Hp} {m : List Addr} {μ : Mu} {r : R α} {k : α → Mu → R γ} {Q : δ → Hp → Prop} (h : okA rep2 K W σ H G m μ (bindR r k) Q) :
    okA rep K W σ H G m μ r (fun b H1 => ∃ a G1 m1 μ1, Wf K H1 G1 m1 μ1 ∧ Step H G m μ H1 G1 m1 μ1 ∧ rep G1 m1 a b ∧ okA rep2 K W σ H1 G1 m1 μ1 (k a μ1) Q) := by
  revert h
  cases r with
  | none => exact fun z => z
  | some o =>
    cases o with
    | exc x μ1 => exact fun z => z
    | ok a μ1 =>
      intro ok b H1 G1 m1 wf1 st q
      refine ⟨a, G1, m1, μ1, wf1, st, q, ?_⟩
      have ok : okA rep2 K W σ H G m μ (k a μ1) Q := ok
      revert ok
      cases k a μ1 with
      | none => exact fun z => z
      | some o2 =>
        cases o2 with
        | exc x μ2 => exact fun ok c dd H2 G2 m2 wf2 st2 q => ok c dd H2 G2 m2 wf2 (st.trans st2) q
        | ok a2 μ2 => exact fun ok b2 H2 G2 m2 wf2 st2 q => ok b2 H2 G2 m2 wf2 (st.trans st2) q
/-- weaker wants -/
theorem okA.imp {G : Hp} {m : List Addr} {μ : Mu} {r : R α} {Q Q' : β → Hp → Prop} (h : okA rep K W σ H G m μ r Q) (hq : ∀ b H', Q b H' → Q' b H') : okA rep K W σ H G m μ r Q' := by
  cases r with
  | none => exact h
  | some o =>
    cases o with
    | exc x μ1 => exact h
    | ok a μ1 => exact fun b H' G' m' wf st r => hq _ _ (h b H' G' m' wf st r)
/-- first fa, then what k makes of it; temporaries stay -/
theorem T.bind {fa : Sl → Mu → R α} {k : Sl → α → Mu → R γ} {Q : δ → Hp → Prop} (h : T rep2 K W ds vs (fun sl μ => bindR (fa sl μ) (k sl)) σ H Q) :
    T rep K W [] [] fa σ H (fun b H1 => ∃ a, (∃ G m μ sl, Wf K H1 G m μ ∧ RepS K G m sl σ ∧ RepL K G m ds vs ∧ rep G m a b ∧ okA rep2 K W σ H1 G m μ (k sl a μ) Q)) := by
  obtain ⟨G, m, μ, sl, wf, rs, rl, ok⟩ := h
  exact ⟨G, m, μ, sl, wf, rs, rfl, (okA.bind ok).imp fun b H1 ⟨a, G1, m1, μ1, wf1, st, q, ok1⟩ => ⟨a, G1, m1, μ1, sl, wf1, st.repS rs, st.repL rl, q, ok1⟩⟩

/-- .. where a is a datum: it is one temporary more -/
theorem T.bindD {fa : DE} {k : Sl → D → Mu → R γ} {Q : δ → Hp → Prop} (h : T rep2 K W ds vs (fun sl μ => bindR (fa sl μ) (k sl)) σ H Q) :
    TD K W fa σ H (fun v H1 => ∃ d, T rep2 K W (d :: ds) (v :: vs) (fun sl μ => k sl d μ) σ H1 Q) := by
  obtain ⟨G, m, μ, sl, wf, rs, rl, ok⟩ := h
  exact ⟨G, m, μ, sl, wf, rs, rfl, (okA.bind (rep := repV K) ok).imp fun b H1 ⟨a, G1, m1, μ1, wf1, st, q, ok1⟩ => ⟨a, G1, m1, μ1, sl, wf1, st.repS rs, ⟨b, vs, rfl, q, st.repL rl⟩, ok1⟩⟩
theorem T.imp {f : Sl → Mu → R α} {Q Q' : β → Hp → Prop} (h : T rep K W ds vs f σ H Q) (hq : ∀ b H', Q b H' → Q' b H') : T rep K W ds vs f σ H Q' := by
  obtain ⟨G, m, μ, sl, wf, rs, rl, ok⟩ := h
  exact ⟨G, m, μ, sl, wf, rs, rl, ok.imp hq⟩
/-- an outcome at once, the heap as it is -/
theorem okA.now {G : Hp} {m : List Addr} {μ : Mu} {a : α} {b : β} {Q : β → Hp → Prop} (wf : Wf K H G m μ) (h : okA rep K W σ H G m μ (some (.ok a μ)) Q) (r : rep G m a b) : Q b H := h b H G m wf Step.refl r
end

section
variable {X : Cx} {e : Expr}
theorem PE_imp {t t' : TE} (h : PE X e t') (w : ∀ σ H Q, t σ H Q → t' σ H Q) : PE X e t := ⟨fun pins s σ H Q I q => h.run pins s σ H Q I (w σ H Q q)⟩
theorem PT_imp {t t' : TT} (h : PT X e t') (w : ∀ σ H Q, t σ H Q → t' σ H Q) : PT X e t := ⟨fun pins s σ H Q I q => h.run pins s σ H Q I (w σ H Q q)⟩
theorem PA_imp {es : List Expr} {t t' : TA} (h : PA X es t') (w : ∀ σ H Q, t σ H Q → t' σ H Q) : PA X es t := ⟨fun pos pins s σ H Q I q => h.run pos pins s σ H Q I (w σ H Q q)⟩
theorem PS_imp {st : Stmt} {t t' : TS} (h : PS X st t') (w : ∀ D σ H, t D σ H → t' D σ H) : PS X st t := ⟨fun pins s σ H D I q => h.run pins s σ H D I (w D σ H q)⟩
theorem PSs_imp {st : List Stmt} {t t' : TS} (h : PSs X st t') (w : ∀ D σ H, t D σ H → t' D σ H) : PSs X st t := ⟨fun pins s σ H D I q => h.run pins s σ H D I (w D σ H q)⟩
end

/-! ### a new thing is laid -/
section
variable {K : PySem.W.Frag} {H G H' G' : Hp} {m m' : List Addr} {μ μ' : Mu} {p : Addr} {o : HO}
theorem le_upd (h : H p = none) : Le H (upd H p o) := fun a x e => by
  have : a ≠ p := fun z => by rw [z, h] at e; cases e
  rw [upd_ne this]; exact e
theorem upd_none (a : Addr) (h : upd H p o a = none) : H a = none := by
  by_cases e : a = p
  · subst e; rw [upd_same] at h; cases h
  · rwa [upd_ne e] at h
theorem Wf.gnone (wf : Wf K H G m μ) (h : H p = none) : G p = none := by
  cases q : G p with
  | none => rfl
  | some x => rw [wf.sub _ _ q] at h; cases h
theorem Wf.live_some (wf : Wf K H G m μ) {a : Addr} (l : Live m μ a) : ∃ x, H a = some x := by
  obtain ⟨i, c, h1, h2⟩ := l
  have q := (wf.cell i c a h1 h2).2
  cases c with
  | lst ds => obtain ⟨vs, e, _⟩ := q; exact ⟨_, e⟩
  | dic ks ds => obtain ⟨vs, e, _⟩ := q; exact ⟨_, e⟩
  | dit ks ds => obtain ⟨vs, e, _⟩ := q; exact ⟨_, e⟩
  | ins C fs ds => obtain ⟨dx, vs, e, _⟩ := q; exact ⟨_, e⟩
theorem Wf.dead (wf : Wf K H G m μ) (h : H p = none) : ¬ Live m μ p := fun l => by
  obtain ⟨x, e⟩ := wf.live_some l
  rw [h] at e; cases e
theorem CellRep.mono {a : Addr} {c : Cell} {H' : Hp} {r : List Addr} (x : CellRep K G m H a c) (hg : Le G G') (hh : ∀ o, H a = some o → H' a = some o) : CellRep K G' (m ++ r) H' a c := by
  cases c with
  | lst ds => obtain ⟨vs, e, l⟩ := x; exact ⟨vs, hh _ e, l.mono hg⟩
  | dic ks ds => obtain ⟨vs, e, z, l⟩ := x; exact ⟨vs, hh _ e, z, l.mono hg⟩
  | dit ks ds => obtain ⟨vs, e, z, l⟩ := x; exact ⟨vs, hh _ e, z, l.mono hg⟩
  | ins C fs ds => obtain ⟨dx, vs, e, z, l⟩ := x; exact ⟨dx, vs, hh _ e, z, l.mono hg⟩
/-- a new thing that will not change -/
theorem Wf.laid (wf : Wf K H G m μ) (h : H p = none) : Wf K (upd H p o) (upd G p o) m μ := by
  have hg := wf.gnone h
  refine ⟨fun a x e => ?_, wf.len, fun l c a h1 h2 => ?_, wf.inj⟩
  · by_cases z : a = p
    · subst z; rw [upd_same] at e ⊢; exact e
    · rw [upd_ne z] at e ⊢; exact wf.sub _ _ e
  · obtain ⟨q1, q2⟩ := wf.cell l c a h1 h2
    have ne : a ≠ p := fun z => wf.dead h ⟨l, c, h1, z ▸ h2⟩
    refine ⟨by rw [upd_ne ne]; exact q1, ?_⟩
    have := q2.mono (r := []) (H' := upd H p o) (le_upd (o := o) hg) (fun _ e => le_upd h _ _ e)
    simpa using this
theorem Step.laid (wf : Wf K H G m μ) (h : H p = none) : Step H G m μ (upd H p o) (upd G p o) m μ := by
  refine ⟨le_upd (wf.gnone h), fun a x e _ => le_upd h _ _ e, fun a z => ?_, fun a z => .inl z, ⟨[], by simp⟩, upd_none⟩
  by_cases q : a = p
  · subst q; exact .inr (.inl h)
  · rw [upd_ne q] at z; exact .inl z
/-- something new of which nothing is known to the store (it may be hidden) -/
theorem Wf.hid (wf : Wf K H G m μ) (h : H p = none) : Wf K (upd H p o) G m μ := by
  refine ⟨fun a x e => le_upd h _ _ (wf.sub _ _ e), wf.len, fun l c a h1 h2 => ?_, wf.inj⟩
  obtain ⟨q1, q2⟩ := wf.cell l c a h1 h2
  refine ⟨q1, ?_⟩
  have := q2.mono (r := []) (Le.refl G) (fun _ e => le_upd (o := o) h _ _ e)
  simpa using this
theorem Step.hid (h : H p = none) : Step H G m μ (upd H p o) G m μ :=
  ⟨Le.refl _, fun a x e _ => le_upd h _ _ e, fun a z => .inl z, fun a z => .inl z, ⟨[], by simp⟩, upd_none⟩
theorem getE_app_none {α : Type} {l r : List α} {i : Nat} (h : l.length ≤ i) : (l ++ r)[i]? = r[i - l.length]? := List.getElem?_append_right h
/-- a new thing of the store -/
theorem Wf.boxed {c : Cell} (wf : Wf K H G m μ) (h : H p = none) (r : CellRep K G m (upd H p o) p c) : Wf K (upd H p o) G (m ++ [p]) (μ ++ [some c]) := by
  have dead := wf.dead h
  have cases_ : ∀ (l : Nat) c' a, (μ ++ [some c])[l]? = some (some c') → (m ++ [p])[l]? = some a → (l < μ.length ∧ μ[l]? = some (some c') ∧ m[l]? = some a) ∨ (l = μ.length ∧ c' = c ∧ a = p) := fun l c' a h1 h2 => by
    by_cases hl : l < μ.length
    · rw [List.getElem?_append_left hl] at h1
      rw [List.getElem?_append_left (by rw [wf.len]; exact hl)] at h2
      exact .inl ⟨hl, h1, h2⟩
    · rw [List.getElem?_append_right (by omega)] at h1
      rw [List.getElem?_append_right (by rw [wf.len]; omega)] at h2
      have e0 : l - μ.length = 0 := by
        have := (List.getElem?_eq_some_iff.mp h1).1
        simp at this; omega
      rw [wf.len] at h2
      rw [e0] at h1 h2
      simp at h1 h2
      exact .inr ⟨by omega, h1.symm, h2.symm⟩
  refine ⟨(wf.hid (o := o) h).sub, by simp [wf.len], fun l c' a h1 h2 => ?_, fun l l' a c1 c2 h1 h2 h3 h4 => ?_⟩
  · rcases cases_ l c' a h1 h2 with ⟨_, q1, q2⟩ | ⟨_, rfl, rfl⟩
    · obtain ⟨z1, z2⟩ := wf.cell l c' a q1 q2
      exact ⟨z1, z2.mono (Le.refl G) (fun _ e => le_upd h _ _ e)⟩
    · refine ⟨wf.gnone h, ?_⟩
      exact r.mono (Le.refl G) fun _ e => e
  · rcases cases_ l c1 a h1 h3 with ⟨_, q1, q2⟩ | ⟨e1, _, z1⟩
    · rcases cases_ l' c2 a h2 h4 with ⟨_, q3, q4⟩ | ⟨_, _, z⟩
      · exact wf.inj l l' a c1 c2 q1 q3 q2 q4
      · exact absurd ⟨l, c1, q1, z ▸ q2⟩ dead
    · rcases cases_ l' c2 a h2 h4 with ⟨_, q3, q4⟩ | ⟨e2, _, _⟩
      · exact absurd ⟨l', c2, q3, z1 ▸ q4⟩ dead
      · omega
theorem Step.boxed {c : Cell} (wf : Wf K H G m μ) (h : H p = none) : Step H G m μ (upd H p o) G (m ++ [p]) (μ ++ [some c]) := by
  refine ⟨Le.refl _, fun a x e _ => le_upd h _ _ e, fun a z => .inl z, fun a z => ?_, ⟨[p], rfl⟩, upd_none⟩
  obtain ⟨l, c', h1, h2⟩ := z
  by_cases hl : l < μ.length
  · rw [List.getElem?_append_left hl] at h1
    rw [List.getElem?_append_left (by rw [wf.len]; exact hl)] at h2
    exact .inl ⟨l, c', h1, h2⟩
  · rw [List.getElem?_append_right (by rw [wf.len]; omega)] at h2
    have : l - m.length = 0 := by
      have := (List.getElem?_eq_some_iff.mp h2).1
      simp at this; omega
    rw [this] at h2
    simp at h2
    subst h2
    exact .inr h
/-- a thing of the store is changed -/
theorem Wf.changed {l : Nat} {c c' : Cell} (wf : Wf K H G m μ) (h1 : μ[l]? = some (some c)) (h2 : m[l]? = some p) (r : CellRep K G m (upd H p o) p c') : Wf K (upd H p o) G m (μ.set l (some c')) := by
  have hl : l < μ.length := (List.getElem?_eq_some_iff.mp h1).1
  obtain ⟨g, _⟩ := wf.cell l c p h1 h2
  have at_ : ∀ (i : Nat) x, (μ.set l (some c'))[i]? = some (some x) → (i = l ∧ x = c') ∨ (i ≠ l ∧ μ[i]? = some (some x)) := fun i x e => by
    by_cases z : l = i
    · subst z; rw [List.getElem?_set_self hl] at e; cases e; exact .inl ⟨rfl, rfl⟩
    · rw [List.getElem?_set_ne z] at e; exact .inr ⟨fun q => z q.symm, e⟩
  refine ⟨fun a x e => ?_, by simp [wf.len], fun i x a q1 q2 => ?_, fun i j a x y q1 q2 q3 q4 => ?_⟩
  · have ne : a ≠ p := fun z => by rw [z, g] at e; cases e
    rw [upd_ne ne]; exact wf.sub _ _ e
  · rcases at_ i x q1 with ⟨rfl, rfl⟩ | ⟨ne, q⟩
    · rw [h2] at q2; cases q2; exact ⟨g, r⟩
    · obtain ⟨z1, z2⟩ := wf.cell i x a q q2
      have nap : a ≠ p := fun z => ne (wf.inj i l a x c q h1 q2 (z ▸ h2))
      refine ⟨z1, ?_⟩
      have := z2.mono (r := []) (H' := upd H p o) (Le.refl G) (fun _ e => by rw [upd_ne nap]; exact e)
      simpa using this
  · have lv : ∀ (i : Nat) x, (μ.set l (some c'))[i]? = some (some x) → ∃ x', μ[i]? = some (some x') := fun i x e => by
      rcases at_ i x e with ⟨rfl, _⟩ | ⟨_, q⟩
      · exact ⟨c, h1⟩
      · exact ⟨x, q⟩
    obtain ⟨x', p1⟩ := lv i x q1
    obtain ⟨y', p2⟩ := lv j y q2
    exact wf.inj i j a x' y' p1 p2 q3 q4
theorem Step.changed {l : Nat} {c c' : Cell} (h1 : μ[l]? = some (some c)) (h2 : m[l]? = some p) : Step H G m μ (upd H p o) G m (μ.set l (some c')) := by
  have hl : l < μ.length := (List.getElem?_eq_some_iff.mp h1).1
  refine ⟨Le.refl _, fun a x e n => ?_, fun a z => .inl z, fun a z => ?_, ⟨[], by simp⟩, upd_none⟩
  · have ne : a ≠ p := fun z => n ⟨l, c, h1, z ▸ h2⟩
    rw [upd_ne ne]; exact e
  · obtain ⟨i, x, q1, q2⟩ := z
    by_cases z : l = i
    · subst z; exact .inl ⟨l, c, h1, q2⟩
    · rw [List.getElem?_set_ne z] at q1; exact .inl ⟨i, x, q1, q2⟩
/-- a thing of the store changes no more -/
theorem Wf.frozen {l : Nat} {c : Cell} {x : HO} (wf : Wf K H G m μ) (h1 : μ[l]? = some (some c)) (h2 : m[l]? = some p) (hx : H p = some x) : Wf K H (upd G p x) m (μ.set l none) := by
  have hl : l < μ.length := (List.getElem?_eq_some_iff.mp h1).1
  obtain ⟨g, _⟩ := wf.cell l c p h1 h2
  have at_ : ∀ (i : Nat) y, (μ.set l none)[i]? = some (some y) → i ≠ l ∧ μ[i]? = some (some y) := fun i y e => by
    by_cases z : l = i
    · subst z; rw [List.getElem?_set_self hl] at e; cases e
    · rw [List.getElem?_set_ne z] at e; exact ⟨fun q => z q.symm, e⟩
  refine ⟨fun a y e => ?_, by simp [wf.len], fun i y a q1 q2 => ?_, fun i j a y z q1 q2 q3 q4 => wf.inj i j a y z (at_ i y q1).2 (at_ j z q2).2 q3 q4⟩
  · by_cases z : a = p
    · subst z; rw [upd_same] at e; cases e; exact hx
    · rw [upd_ne z] at e; exact wf.sub _ _ e
  · obtain ⟨ne, q⟩ := at_ i y q1
    obtain ⟨z1, z2⟩ := wf.cell i y a q q2
    have nap : a ≠ p := fun z => ne (wf.inj i l a y c q h1 q2 (z ▸ h2))
    refine ⟨by rw [upd_ne nap]; exact z1, ?_⟩
    have := z2.mono (r := []) (H' := H) (le_upd (o := x) g) (fun _ e => e)
    simpa using this
theorem Step.frozen {l : Nat} {c : Cell} {x : HO} (wf : Wf K H G m μ) (h1 : μ[l]? = some (some c)) (h2 : m[l]? = some p) : Step H G m μ H (upd G p x) m (μ.set l none) := by
  have hl : l < μ.length := (List.getElem?_eq_some_iff.mp h1).1
  obtain ⟨g, _⟩ := wf.cell l c p h1 h2
  refine ⟨le_upd g, fun a y e _ => e, fun a z => ?_, fun a z => ?_, ⟨[], by simp⟩, fun _ z => z⟩
  · by_cases q : a = p
    · exact .inr (.inr ⟨l, c, h1, q ▸ h2⟩)
    · rw [upd_ne q] at z; exact .inl z
  · obtain ⟨i, y, q1, q2⟩ := z
    by_cases z : l = i
    · subst z; rw [List.getElem?_set_self hl] at q1; cases q1
    · rw [List.getElem?_set_ne z] at q1; exact .inl ⟨i, y, q1, q2⟩
end
end Pd
end
section
namespace Pd
open PySem PySem.Spec L2

def ok {α : Type} (a : α) (μ : Mu) : R α := some (.ok a μ)
section
variable {α β γ : Type} {rep : Hp → List Addr → α → β → Prop} {K : PySem.W.Frag} {W : WX} {σ : L2.St} {H G : Hp} {m : List Addr} {μ : Mu} {Q : β → Hp → Prop}
theorem okA.get {a : α} (h : okA rep K W σ H G m μ (ok a μ) Q) (wf : Wf K H G m μ) {b : β} (r : rep G m a b) : Q b H := h b H G m wf Step.refl r
theorem okA.none_ (h : okA rep K W σ H G m μ none Q) : False := h
end

/-! ### what a datum is, seen through the store -/
def lstOf (μ : Mu) : D → Option (List D)
  | .lst ds => some ds
  | .ref l => match μ[l]? with
    | some (some (.lst ds)) => some ds
    | _ => none
  | _ => none
def seqOf (μ : Mu) : D → Option (List D)
  | .tup ds => some ds
  | d => lstOf μ d
section
variable {K : PySem.W.Frag} {H G : Hp} {m : List Addr} {μ : Mu}
theorem Wf.live_get (wf : Wf K H G m μ) {l : Nat} {c : Cell} {v : V} (h : μ[l]? = some (some c)) (r : RepV K G m (.ref l) v) : ∃ a, v = .ref a ∧ m[l]? = some a ∧ G a = none ∧ CellRep K G m H a c := by
  obtain ⟨a, e, q⟩ := r
  obtain ⟨h1, h2⟩ := wf.cell l c a h q
  exact ⟨a, e, q, h1, h2⟩
theorem lstOf_rep (wf : Wf K H G m μ) {d : D} {v : V} {ds : List D} (h : lstOf μ d = some ds) (r : RepV K G m d v) : ∃ a vs, v = .ref a ∧ SqL K H a vs ∧ RepL K G m ds vs := by
  cases d with
  | lst xs =>
    cases h
    obtain ⟨a, vs, e, q, l⟩ := r
    exact ⟨a, vs, e, wf.sub.sqL q, l⟩
  | ref l =>
    unfold lstOf at h
    dsimp only at h
    split at h
    · rename_i xs e
      cases h
      obtain ⟨a, e1, _, _, vs, q, rl⟩ := wf.live_get e r
      exact ⟨a, vs, e1, .inl (.inl q), rl⟩
    · cases h
  | _ => cases h
theorem seqOf_rep (wf : Wf K H G m μ) {d : D} {v : V} {ds : List D} (h : seqOf μ d = some ds) (r : RepV K G m d v) : ∃ a vs, v = .ref a ∧ (SqL K H a vs ∨ SqT K H a vs) ∧ RepL K G m ds vs := by
  cases d with
  | tup xs =>
    cases h
    obtain ⟨a, vs, e, q, l⟩ := r
    exact ⟨a, vs, e, .inr (wf.sub.sqT q), l⟩
  | lst xs =>
    obtain ⟨a, vs, e, q, l⟩ := lstOf_rep wf (d := .lst xs) h r
    exact ⟨a, vs, e, .inl q, l⟩
  | ref l =>
    obtain ⟨a, vs, e, q, l⟩ := lstOf_rep wf (d := .ref l) h r
    exact ⟨a, vs, e, .inl q, l⟩
  | _ => cases h
end

/-! ### names, constants -/
def varD (i : Nat) : DE := fun sl μ => match sl[i]? with
  | some (some d) => ok d μ
  | _ => none
def cD (d : D) : DE := fun _ μ => ok d μ
section
variable {X : Cx} {W : WX} {pos : Pos}
theorem ped_var {i : Nat} {x : Str} (hN : X.N[i]? = some x) (hv : Vis X.env.scope x) (hd : (x == ("__debug__" : Str)) = false := by decide) (hcd : (x == ("__classdict__" : Str)) = false := by decide) : PE X (.Name x pos) (TD X.K W (varD i)) :=
  PE_imp (pe_var hN hv hd hcd) fun σ H Q ⟨G, m, μ, sl, wf, rs, rl, o⟩ => by
    have o : okA (repV X.K) X.K W σ H G m μ (varD i sl μ) Q := o
    unfold varD at o
    split at o
    · rename_i d e
      obtain ⟨v, h1, h2⟩ := rs.at_ i d e
      exact ⟨v, h1, o.get wf h2⟩
    · exact o.elim
theorem ped_c {e : Expr} {d : D} {v : V} (h : PE X e (tC v)) (r : ∀ G m, RepV X.K G m d v) : PE X e (TD X.K W (cD d)) :=
  PE_imp h fun σ H Q ⟨G, m, μ, sl, wf, rs, rl, o⟩ => okA.get (a := d) o wf (r G m)
theorem ped_int {i j} : PE X (.Constant (.int i) j pos) (TD X.K W (cD (.int i))) := ped_c pe_int fun _ _ => rfl
theorem ped_bl {b j} : PE X (.Constant (.bool b) j pos) (TD X.K W (cD (.bl b))) := ped_c pe_bl fun _ _ => rfl
theorem ped_non {j} : PE X (.Constant .none j pos) (TD X.K W (cD .non)) := ped_c pe_non fun _ _ => rfl
theorem ped_str {x j} : PE X (.Constant (.str x) j pos) (TD X.K W (cD (.str x))) := ped_c pe_str fun _ _ => rfl
theorem ped_glob {x : Str} {d : D} {v : V} {u : Value} (hg : Gl X x) (hm : X.mg x = some u) (r : RelV v u) (rd : ∀ G m, RepV X.K G m d v) (hd : (x == ("__debug__" : Str)) = false := by decide) : PE X (.Name x pos) (TD X.K W (cD d)) := ped_c (pe_glob hg hm r hd) rd
end

/-! ### two operands -/
abbrev D2 := D → D → Mu → R D
def binD (g : D2) (fa fb : DE) : DE := fun sl μ => bindR (fa sl μ) fun x μ1 => bindR (fb sl μ1) fun y μ2 => g x y μ2
def notB (f : Sl → Mu → R Bool) : Sl → Mu → R Bool := fun sl μ => bindR (f sl μ) fun b μ1 => ok (!b) μ1
/-- a True, False as a test -/
def tstD (f : DE) : Sl → Mu → R Bool := fun sl μ => bindR (f sl μ) fun d μ1 => match d with
  | .bl b => ok b μ1
  | _ => none
/-- an operator's rule, for plain data -/
def OpD (X : Cx) (W : WX) (f : Value → Value → Sem Value) (g : D2) : Prop := ∃ r : R2, OpR X f r ∧ ∀ dx dy vx vy σ H G m μ Q, Wf X.K H G m μ → RepV X.K G m dx vx → RepV X.K G m dy vy → okA (repV X.K) X.K W σ H G m μ (g dx dy μ) Q → r vx vy H Q
theorem TB_tst {K : PySem.W.Frag} {W : WX} {f : DE} {σ : L2.St} {H : Hp} {Q : Bool → Hp → Prop} (h : TB K W (tstD f) σ H Q) : TD K W f σ H (fun x H' => ∃ k, x = .bl k ∧ Q k H') := by
  obtain ⟨G, m, μ, sl, wf, rs, rl, o⟩ := h
  refine ⟨G, m, μ, sl, wf, rs, rl, ?_⟩
  have o : okA repB K W σ H G m μ (bindR (f sl μ) _) Q := o
  refine (okA.bind (rep := repV K) o).imp fun v H1 ⟨d, G1, m1, μ1, wf1, st, r, o1⟩ => ?_
  cases d with
  | bl b =>
    have r : v = .bl b := r
    exact ⟨b, r, o1.get wf1 rfl⟩
  | _ => exact o1.elim
section
variable {X : Cx} {W : WX} {pos : Pos} {a b c : Expr} {fa fb fc : DE} {g g' : D2}
theorem bin_imp {r : R2} (hr : ∀ dx dy vx vy σ H G m μ Q, Wf X.K H G m μ → RepV X.K G m dx vx → RepV X.K G m dy vy → okA (repV X.K) X.K W σ H G m μ (g dx dy μ) Q → r vx vy H Q) (σ : L2.St) (H : Hp) (Q : VK) (h : TD X.K W (binD g fa fb) σ H Q) :
    tOp r (TD X.K W fa) (TD X.K W fb) σ H Q := by
  refine (T.bindD h).imp fun v H1 ⟨d, h1⟩ => ?_
  refine (T.bindD h1).imp fun v2 H2 ⟨d2, h2⟩ => ?_
  obtain ⟨G, m, μ, sl, wf, rs, ⟨w1, l1, e1, r2, w2, l2, e2, r1, e3⟩, o⟩ := h2
  cases e1; cases e2
  exact hr d d2 v v2 σ H2 G m μ Q wf r1 r2 o
theorem ped_bin {op : Operator} (ho : OpD X W (binaryOp op) g) (ha : PE X a (TD X.K W fa)) (hb : PE X b (TD X.K W fb)) : PE X (.BinOp a op b pos) (TD X.K W (binD g fa fb)) :=
  let ⟨_, h1, h2⟩ := ho
  PE_imp (pe_op h1 ha hb) (bin_imp h2)
theorem ped_cmp {op : CmpOp} (ho : OpD X W (compareOp op) g) (ha : PE X a (TD X.K W fa)) (hb : PE X b (TD X.K W fb)) (hm : behindInMarks op b = false) : PE X (.Compare a [op] [b] pos) (TD X.K W (binD g fa fb)) :=
  let ⟨_, h1, h2⟩ := ho
  PE_imp (pe_cmpR h1 ha hb hm) (bin_imp h2)
theorem ptd_cmp {op : CmpOp} (ho : OpD X W (compareOp op) g) (ha : PE X a (TD X.K W fa)) (hb : PE X b (TD X.K W fb)) (hm : behindInMarks op b = false) : PT X (.Compare a [op] [b] pos) (TB X.K W (tstD (binD g fa fb))) :=
  let ⟨_, h1, h2⟩ := ho
  PT_imp (pt_cmpR h1 ha hb hm) fun σ H Q h => bin_imp h2 σ H _ (TB_tst h)
/-- a < b < c -/
def chD (g g' : D2) (fa fb fc : DE) : DE := fun sl μ => bindR (fa sl μ) fun x μ1 => bindR (fb sl μ1) fun y μ2 => bindR (g x y μ2) fun z μ3 => match z with
  | .bl true => bindR (fc sl μ3) fun w μ4 => g' y w μ4
  | .bl false => ok (.bl false) μ3
  | _ => none
theorem ch_imp {r r' : R2} (hr : ∀ dx dy vx vy σ H G m μ Q, Wf X.K H G m μ → RepV X.K G m dx vx → RepV X.K G m dy vy → okA (repV X.K) X.K W σ H G m μ (g dx dy μ) Q → r vx vy H Q)
    (hr' : ∀ dx dy vx vy σ H G m μ Q, Wf X.K H G m μ → RepV X.K G m dx vx → RepV X.K G m dy vy → okA (repV X.K) X.K W σ H G m μ (g' dx dy μ) Q → r' vx vy H Q) (σ : L2.St) (H : Hp) (Q : VK) (h : TD X.K W (chD g g' fa fb fc) σ H Q) :
    tChain r r' (TD X.K W fa) (TD X.K W fb) (TD X.K W fc) σ H Q := by
  refine (T.bindD h).imp fun v H1 ⟨d, h1⟩ => ?_
  refine (T.bindD h1).imp fun v2 H2 ⟨d2, h2⟩ => ?_
  obtain ⟨G, m, μ, sl, wf, rs, ⟨w1, l1, e1, r2, w2, l2, e2, r1, e3⟩, o⟩ := h2
  cases e1; cases e2
  refine hr d d2 v v2 σ H2 G m μ _ wf r1 r2 ((okA.bind (rep := repV X.K) o).imp fun z H3 ⟨dz, G3, m3, μ3, wf3, st3, rz, o3⟩ => ?_)
  cases dz with
  | bl k =>
    have rz : z = .bl k := rz
    refine ⟨k, rz, ?_⟩
    cases k with
    | true =>
      refine iteT ?_
      have h3 : T (repV X.K) X.K W [d2] [v2] (fun sl μ => bindR (fc sl μ) fun w μ4 => g' d2 w μ4) σ H3 Q := ⟨G3, m3, μ3, sl, wf3, st3.repS rs, ⟨v2, [], rfl, st3.repV r2, rfl⟩, o3⟩
      refine (T.bindD h3).imp fun v3 H4 ⟨d3, h4⟩ => ?_
      obtain ⟨G, m, μ, sl, wf, rs, ⟨w1, l1, e1, r3, w2, l2, e2, r2, e3⟩, o⟩ := h4
      cases e1; cases e2
      exact hr' d2 d3 v2 v3 σ H4 G m μ Q wf r2 r3 o
    | false => exact iteF (okA.get (a := D.bl false) o3 wf3 rfl)
  | _ => exact o3.elim
theorem ped_chain {op op' : CmpOp} (ho : OpD X W (compareOp op) g) (ho' : OpD X W (compareOp op') g') (ha : PE X a (TD X.K W fa)) (hb : PE X b (TD X.K W fb)) (hc : PE X c (TD X.K W fc)) (hm : lastMarks [op, op'] [b, c] = false := by with_unfolding_all rfl) :
    PE X (.Compare a [op, op'] [b, c] pos) (TD X.K W (chD g g' fa fb fc)) :=
  let ⟨_, h1, h2⟩ := ho
  let ⟨_, h3, h4⟩ := ho'
  PE_imp (pe_chain h1 h3 ha hb hc hm) (ch_imp h2 h4)
theorem ptd_chain {op op' : CmpOp} (ho : OpD X W (compareOp op) g) (ho' : OpD X W (compareOp op') g') (ha : PE X a (TD X.K W fa)) (hb : PE X b (TD X.K W fb)) (hc : PE X c (TD X.K W fc)) (hm : lastMarks [op, op'] [b, c] = false := by with_unfolding_all rfl) :
    PT X (.Compare a [op, op'] [b, c] pos) (TB X.K W (tstD (chD g g' fa fb fc))) :=
  let ⟨_, h1, h2⟩ := ho
  let ⟨_, h3, h4⟩ := ho'
  PT_imp (pt_chain h1 h3 ha hb hc hm) fun σ H Q h => (ch_imp h2 h4 σ H _ (TB_tst h) : tChain _ _ _ _ _ σ H _)
end

/-! ### and, or, not, if else -/
def andB (f g : Sl → Mu → R Bool) : Sl → Mu → R Bool := fun sl μ => bindR (f sl μ) fun b μ1 => if b then g sl μ1 else ok false μ1
def orB (f g : Sl → Mu → R Bool) : Sl → Mu → R Bool := fun sl μ => bindR (f sl μ) fun b μ1 => if b then ok true μ1 else g sl μ1
def blD (f : Sl → Mu → R Bool) : DE := fun sl μ => bindR (f sl μ) fun b μ1 => ok (.bl b) μ1
def andD (f g : DE) : DE := fun sl μ => bindR (f sl μ) fun d μ1 => match d with
  | .bl true => g sl μ1
  | .bl false => ok (.bl false) μ1
  | _ => none
def orD (f g : DE) : DE := fun sl μ => bindR (f sl μ) fun d μ1 => match d with
  | .bl true => ok (.bl true) μ1
  | .bl false => g sl μ1
  | _ => none
def notD (f : DE) : DE := fun sl μ => bindR (f sl μ) fun d μ1 => match d with
  | .bl b => ok (.bl (!b)) μ1
  | _ => none
def ifD (c : Sl → Mu → R Bool) (f g : DE) : DE := fun sl μ => bindR (c sl μ) fun b μ1 => if b then f sl μ1 else g sl μ1
section
variable {K : PySem.W.Frag} {W : WX} {α β : Type} {rep : Hp → List Addr → α → β → Prop}
/-- a test first, then what k makes of it -/
theorem T.bindB {fa : Sl → Mu → R Bool} {k : Sl → Bool → Mu → R α} {σ : L2.St} {H : Hp} {Q : β → Hp → Prop} (h : T rep K W [] [] (fun sl μ => bindR (fa sl μ) (k sl)) σ H Q) :
    TB K W fa σ H (fun b H1 => T rep K W [] [] (fun sl μ => k sl b μ) σ H1 Q) :=
  (T.bind (rep := repB) h).imp fun b H1 ⟨a, G, m, μ, sl, wf, rs, rl, e, o⟩ => by
    have e : a = b := e
    subst e
    exact ⟨G, m, μ, sl, wf, rs, rl, o⟩
theorem T.bindV {fa : DE} {k : Sl → D → Mu → R α} {σ : L2.St} {H : Hp} {Q : β → Hp → Prop} (h : T rep K W [] [] (fun sl μ => bindR (fa sl μ) (k sl)) σ H Q) :
    TD K W fa σ H (fun v H1 => ∃ d, (∃ G m μ sl, Wf K H1 G m μ ∧ RepS K G m sl σ ∧ RepV K G m d v ∧ okA rep K W σ H1 G m μ (k sl d μ) Q)) :=
  (T.bind (rep := repV K) h).imp fun b H1 ⟨a, G, m, μ, sl, wf, rs, rl, e, o⟩ => ⟨a, G, m, μ, sl, wf, rs, e, o⟩
theorem TB_if {c : Sl → Mu → R Bool} {f g : Sl → Mu → R α} {σ : L2.St} {H : Hp} {Q : β → Hp → Prop} (h : T rep K W [] [] (fun sl μ => bindR (c sl μ) fun b μ1 => if b then f sl μ1 else g sl μ1) σ H Q) :
    TB K W c σ H (fun b H1 => if b = true then T rep K W [] [] f σ H1 Q else T rep K W [] [] g σ H1 Q) :=
  (T.bindB h).imp fun b H1 h1 => by cases b <;> exact h1
end
section
variable {X : Cx} {W : WX} {pos : Pos} {a b c : Expr} {rest : List Expr} {fa fb : DE} {ba bb : Sl → Mu → R Bool}
theorem ptd_and1 (ha : PT X a (TB X.K W ba)) : PW X (.BoolOp .And [a] pos) (TB X.K W ba) := pw_and1 ha
theorem ptd_or1 (ha : PT X a (TB X.K W ba)) : PW X (.BoolOp .Or [a] pos) (TB X.K W ba) := pw_or1 ha
theorem PW_imp {e : Expr} {t t' : TT} (h : PW X e t') (w : ∀ σ H Q, t σ H Q → t' σ H Q) : PW X e t := ⟨fun wh pins s σ H Q I q => h.run wh pins s σ H Q I (w σ H Q q)⟩
theorem ptd_and (ha : PT X a (TB X.K W ba)) (hb : PW X (.BoolOp .And (b :: rest) pos) (TB X.K W bb)) : PW X (.BoolOp .And (a :: b :: rest) pos) (TB X.K W (andB ba bb)) :=
  PW_imp (pw_and ha hb) fun σ H Q h => (TB_if (f := bb) (g := fun _ μ => ok false μ) h).imp fun c H1 h1 => by
    cases c with
    | true => exact h1
    | false =>
      obtain ⟨G, m, μ, sl, wf, rs, rl, o⟩ := h1
      exact okA.get (a := false) o wf rfl
theorem ptd_or (ha : PT X a (TB X.K W ba)) (hb : PW X (.BoolOp .Or (b :: rest) pos) (TB X.K W bb)) : PW X (.BoolOp .Or (a :: b :: rest) pos) (TB X.K W (orB ba bb)) :=
  PW_imp (pw_or ha hb) fun σ H Q h => (TB_if (f := fun _ μ => ok true μ) (g := bb) h).imp fun c H1 h1 => by
    cases c with
    | false => exact h1
    | true =>
      obtain ⟨G, m, μ, sl, wf, rs, rl, o⟩ := h1
      exact okA.get (a := true) o wf rfl
theorem ptd_not (ha : PT X a (TB X.K W ba)) : PT X (.UnaryOp .Not a pos) (TB X.K W (notB ba)) :=
  PT_imp (pt_not ha) fun σ H Q h => (T.bindB h).imp fun c H1 h1 => by
    obtain ⟨G, m, μ, sl, wf, rs, rl, o⟩ := h1
    exact okA.get (a := !c) o wf rfl
theorem ped_one {op} (h : PE X a (TD X.K W fa)) : PE X (.BoolOp op [a] pos) (TD X.K W fa) := pe_one h
theorem ped_and (ha : PE X a (TD X.K W fa)) (hb : PE X (.BoolOp .And (b :: rest) pos) (TD X.K W fb)) : PE X (.BoolOp .And (a :: b :: rest) pos) (TD X.K W (andD fa fb)) :=
  PE_imp (pe_and ha hb) fun σ H Q h => (T.bindV h).imp fun v H1 ⟨d, G, m, μ, sl, wf, rs, r, o⟩ => by
    cases d with
    | bl k =>
      have r : v = .bl k := r
      refine ⟨k, r, ?_⟩
      cases k with
      | true => exact iteT ⟨G, m, μ, sl, wf, rs, rfl, o⟩
      | false => exact iteF (okA.get (a := D.bl false) o wf rfl)
    | _ => exact o.elim
theorem ped_or (ha : PE X a (TD X.K W fa)) (hb : PE X (.BoolOp .Or (b :: rest) pos) (TD X.K W fb)) : PE X (.BoolOp .Or (a :: b :: rest) pos) (TD X.K W (orD fa fb)) :=
  PE_imp (pe_or ha hb) fun σ H Q h => (T.bindV h).imp fun v H1 ⟨d, G, m, μ, sl, wf, rs, r, o⟩ => by
    cases d with
    | bl k =>
      have r : v = .bl k := r
      refine ⟨k, r, ?_⟩
      cases k with
      | false => exact iteF ⟨G, m, μ, sl, wf, rs, rfl, o⟩
      | true => exact iteT (okA.get (a := D.bl true) o wf rfl)
    | _ => exact o.elim
theorem ped_not (ha : PE X a (TD X.K W fa)) : PE X (.UnaryOp .Not a pos) (TD X.K W (notD fa)) :=
  PE_imp (pe_not ha) fun σ H Q h => (T.bindV h).imp fun v H1 ⟨d, G, m, μ, sl, wf, rs, r, o⟩ => by
    cases d with
    | bl k =>
      have r : v = .bl k := r
      exact ⟨k, r, okA.get (a := D.bl !k) o wf rfl⟩
    | _ => exact o.elim
theorem ped_if (hc : PT X c (TB X.K W ba)) (ha : PE X a (TD X.K W fa)) (hb : PE X b (TD X.K W fb)) : PE X (.IfExp c a b pos) (TD X.K W (ifD ba fa fb)) :=
  PE_imp (pe_ifExp hc ha hb) fun σ H Q h => TB_if h
/-- an expression of the plain kind as a test -/
def truD (μ : Mu) : D → Option Bool
  | .non => some false
  | .bl b => some b
  | .int i => some (i != 0)
  | .str x => if x.length ≤ sizeLine then some ((x.length : Int) != 0) else none
  | d => (seqOf μ d).map fun ds => !ds.isEmpty
def truB (f : DE) : Sl → Mu → R Bool := fun sl μ => bindR (f sl μ) fun d μ1 => match truD μ1 d with
  | some b => ok b μ1
  | none => none
theorem tru_rep {K : PySem.W.Frag} {H G : Hp} {m : List Addr} {μ : Mu} {d : D} {v : V} {k : Bool} (wf : Wf K H G m μ) (h : truD μ d = some k) (r : RepV K G m d v) : TruV K v H k := by
  have viaSeq : (seqOf μ d).map (fun ds => !ds.isEmpty) = some k → TruV K v H k := fun h => by
    cases e : seqOf μ d with
    | none => rw [e] at h; cases h
    | some ds =>
      rw [e] at h
      have h : (!ds.isEmpty) = k := Option.some.inj h
      obtain ⟨a, vs, rfl, q, l⟩ := seqOf_rep wf e r
      have hl := l.length
      have hk : k = !vs.isEmpty := by
        rw [← h]
        cases ds <;> cases vs <;> first | rfl | (simp at hl)
      rcases q with q | q
      · exact .inl ⟨vs, q, hk⟩
      · exact .inr (.inl ⟨vs, q, hk⟩)
  cases d with
  | non => cases r; cases h; exact rfl
  | bl b => cases r; cases h; exact rfl
  | int i => cases r; cases h; exact rfl
  | str x =>
    cases r
    unfold truD at h
    dsimp only at h
    split at h
    · rename_i hx
      cases h
      exact ⟨hx, rfl⟩
    · cases h
  | _ => exact viaSeq h
theorem ptd_tru (ha : PE X a (TD X.K W fa)) (he : ∀ whole, isTrue a X.env whole = (do let v ← whole; standAt a.pos; holding [v] (truthy v)) := by intro _; rfl) : PT X a (TB X.K W (truB fa)) :=
  PT_imp (pt_truth ha he) fun σ H Q h => (T.bindV h).imp fun v H1 ⟨d, G, m, μ, sl, wf, rs, r, o⟩ => by
    split at o
    · rename_i k e
      exact ⟨k, tru_rep wf e r, okA.get (a := k) o wf rfl⟩
    · exact o.elim
end

/-! ### argument lists; tuples, lists written -/
abbrev DL := Sl → Mu → R (List D)
def oneL (f : DE) : DL := fun sl μ => bindR (f sl μ) fun d μ1 => ok [d] μ1
def starL (f : DE) : DL := fun sl μ => bindR (f sl μ) fun d μ1 => match seqOf μ1 d with
  | some ds => ok ds μ1
  | none => none
def nilL : DL := fun _ μ => ok [] μ
def appL (f g : DL) : DL := fun sl μ => bindR (f sl μ) fun ds μ1 => bindR (g sl μ1) fun es μ2 => ok (ds ++ es) μ2
abbrev consL (f : DE) (g : DL) : DL := fun sl μ => bindR (f sl μ) fun d μ1 => bindR (g sl μ1) fun es μ2 => ok (d :: es) μ2
section
variable {K : PySem.W.Frag} {W : WX} {α β : Type} {rep : Hp → List Addr → α → β → Prop}
theorem T.bindL {ds : List D} {vs : List V} {fa : DL} {k : Sl → List D → Mu → R α} {σ : L2.St} {H : Hp} {Q : β → Hp → Prop} (h : T rep K W ds vs (fun sl μ => bindR (fa sl μ) (k sl)) σ H Q) :
    TDs K W fa σ H (fun ws H1 => ∃ es, (∃ G m μ sl, Wf K H1 G m μ ∧ RepS K G m sl σ ∧ RepL K G m ds vs ∧ RepL K G m es ws ∧ okA rep K W σ H1 G m μ (k sl es μ) Q)) := T.bind (rep := repL K) h
end
section
variable {X : Cx} {W : WX} {pos : Pos} {e : Expr} {es : List Expr} {fa : DE} {fl : DL}
theorem pad_nil : PA X [] (TDs X.K W nilL) := PA_imp pa_nil fun σ H Q ⟨G, m, μ, sl, wf, rs, rl, o⟩ => okA.get (a := ([] : List D)) o wf rfl
theorem pad_cons (ha : PE X e (TD X.K W fa)) (hr : PA X es (TDs X.K W fl)) (hs : starEach (e :: es) X.env = (false, eval e X.env) :: starEach es X.env := by rfl) : PA X (e :: es) (TDs X.K W (consL fa fl)) :=
  PA_imp (pa_cons ha hr hs) fun σ H Q h => (T.bindD h).imp fun v H1 ⟨d, h1⟩ => (T.bindL h1).imp fun ws H2 ⟨es, G, m, μ, sl, wf, rs, ⟨w1, l1, e1, r1, e2⟩, rl, o⟩ => by
    cases e1; cases e2
    exact okA.get (a := d :: es) o wf ⟨v, ws, rfl, r1, rl⟩
def tupD (f : DL) : DE := fun sl μ => bindR (f sl μ) fun ds μ1 => if ds.length ≤ sizeLine then ok (.tup ds) μ1 else none
theorem ped_tup {x1} (h : PA X es (TDs X.K W fl)) : PE X (.Tuple es x1 pos) (TD X.K W (tupD fl)) :=
  PE_imp (pe_tup h) fun σ H Q h => (T.bindL h).imp fun ws H1 ⟨ds, G, m, μ, sl, wf, rs, _, rl, o⟩ => by
    split at o
    · rename_i hz
      refine ⟨by rw [rl.length]; exact hz, fun p hp => ?_⟩
      refine o (.ref p) _ (upd G p (.tup ws)) m (wf.laid hp) (Step.laid wf hp) ⟨p, ws, rfl, .inl (.inl upd_same), ?_⟩
      have := rl.mono (r := []) (le_upd (o := .tup ws) (wf.gnone hp))
      simpa using this
    · exact o.elim
end

/-! ### new lists and dicts: as data, or as things of the store -/
/-- what is wanted of an outcome that is a new object -/
def okF (K : PySem.W.Frag) (W : WX) (σ : L2.St) (H G : Hp) (m : List Addr) (μ : Mu) (r : R D) (Q : VK) : Prop := match r with
  | some (.ok (.lst ds) μ') => ∀ p vs H' G' m', Wf K H' G' m' μ' → Step H G m μ H' G' m' μ' → H' p = none → RepL K G' m' ds vs → Q (.ref p) (upd H' p (.lst vs))
  | some (.ok (.dic ks ds) μ') => ∀ p vs H' G' m', Wf K H' G' m' μ' → Step H G m μ H' G' m' μ' → H' p = none → ks.length = ds.length → RepL K G' m' ds vs → Q (.ref p) (upd H' p (.dK (ks.zip vs)))
  | some (.ok (.dit ks ds) μ') => ∀ p vs H' G' m', Wf K H' G' m' μ' → Step H G m μ H' G' m' μ' → H' p = none → ks.length = ds.length → RepL K G' m' ds vs → Q (.ref p) (upd H' p (.dT (ks.zip vs)))
  | some (.ok _ _) => False
  | some (.exc x μ') => ∀ c dd H' G' m', Wf K H' G' m' μ' → Step H G m μ H' G' m' μ' → ExcRep K H' G' m' x c dd → W c dd σ H'
  | none => False
def TF (K : PySem.W.Frag) (W : WX) (f : DE) : TE := fun σ H Q => ∃ G m μ sl, Wf K H G m μ ∧ RepS K G m sl σ ∧ okF K W σ H G m μ (f sl μ) Q
/-- a new object is put into the store -/
def boxD (f : DE) : DE := fun sl μ => bindR (f sl μ) fun d μ1 => match d with
  | .lst ds => ok (.ref μ1.length) (μ1 ++ [some (.lst ds)])
  | .dic ks ds => ok (.ref μ1.length) (μ1 ++ [some (.dic ks ds)])
  | .dit ks ds => ok (.ref μ1.length) (μ1 ++ [some (.dit ks ds)])
  | _ => none
/-- a new object is plain data (guard: that it is one) -/
def newD (f : DE) : DE := fun sl μ => bindR (f sl μ) fun d μ1 => match d with
  | .lst ds => ok (.lst ds) μ1
  | .dic ks ds => ok (.dic ks ds) μ1
  | .dit ks ds => ok (.dit ks ds) μ1
  | _ => none
section
variable {K : PySem.W.Frag} {W : WX} {f : DE} {σ : L2.St} {H : Hp} {Q : VK}
theorem getE_len {α : Type} {l : List α} {x : α} : (l ++ [x])[l.length]? = some x := by simp
theorem TF.box (h : TD K W (boxD f) σ H Q) : TF K W f σ H Q := by
  obtain ⟨G, m, μ, sl, wf, rs, rl, o⟩ := h
  refine ⟨G, m, μ, sl, wf, rs, ?_⟩
  have o : okA (repV K) K W σ H G m μ (bindR (f sl μ) _) Q := o
  revert o
  cases f sl μ with
  | none => exact fun z => z
  | some q =>
    cases q with
    | exc x μ1 => exact fun z => z
    | ok d μ1 =>
      cases d with
      | lst ds =>
        intro o p vs H' G' m' wf' st hp l
        have cr : CellRep K G' m' (upd H' p (.lst vs)) p (.lst ds) := ⟨vs, upd_same, l⟩
        have wf2 := wf'.boxed hp cr
        exact o (.ref p) _ G' (m' ++ [p]) wf2 (st.trans (Step.boxed wf' hp)) ⟨p, rfl, by rw [← wf'.len]; exact getE_len⟩
      | dic ks ds =>
        intro o p vs H' G' m' wf' st hp hk l
        have cr : CellRep K G' m' (upd H' p (.dK (ks.zip vs))) p (.dic ks ds) := ⟨vs, upd_same, hk, l⟩
        have wf2 := wf'.boxed hp cr
        exact o (.ref p) _ G' (m' ++ [p]) wf2 (st.trans (Step.boxed wf' hp)) ⟨p, rfl, by rw [← wf'.len]; exact getE_len⟩
      | dit ks ds =>
        intro o p vs H' G' m' wf' st hp hk l
        have cr : CellRep K G' m' (upd H' p (.dT (ks.zip vs))) p (.dit ks ds) := ⟨vs, upd_same, hk, l⟩
        have wf2 := wf'.boxed hp cr
        exact o (.ref p) _ G' (m' ++ [p]) wf2 (st.trans (Step.boxed wf' hp)) ⟨p, rfl, by rw [← wf'.len]; exact getE_len⟩
      | _ => exact fun z => z
theorem RepL.laid {G : Hp} {m : List Addr} {ds : List D} {vs : List V} {p : Addr} {o : HO} (l : RepL K G m ds vs) (h : G p = none) : RepL K (upd G p o) m ds vs := by
  have := l.mono (r := []) (le_upd (o := o) h)
  simpa using this
theorem TF.new (h : TD K W (newD f) σ H Q) : TF K W f σ H Q := by
  obtain ⟨G, m, μ, sl, wf, rs, rl, o⟩ := h
  refine ⟨G, m, μ, sl, wf, rs, ?_⟩
  have o : okA (repV K) K W σ H G m μ (bindR (f sl μ) _) Q := o
  revert o
  cases f sl μ with
  | none => exact fun z => z
  | some q =>
    cases q with
    | exc x μ1 => exact fun z => z
    | ok d μ1 =>
      cases d with
      | lst ds =>
        intro o p vs H' G' m' wf' st hp l
        exact o (.ref p) _ (upd G' p (.lst vs)) m' (wf'.laid hp) (st.trans (Step.laid wf' hp)) ⟨p, vs, rfl, .inl (.inl upd_same), l.laid (wf'.gnone hp)⟩
      | dic ks ds =>
        intro o p vs H' G' m' wf' st hp hk l
        exact o (.ref p) _ (upd G' p (.dK (ks.zip vs))) m' (wf'.laid hp) (st.trans (Step.laid wf' hp)) ⟨p, vs, rfl, .inl upd_same, hk, l.laid (wf'.gnone hp)⟩
      | dit ks ds =>
        intro o p vs H' G' m' wf' st hp hk l
        exact o (.ref p) _ (upd G' p (.dT (ks.zip vs))) m' (wf'.laid hp) (st.trans (Step.laid wf' hp)) ⟨p, vs, rfl, .inl upd_same, hk, l.laid (wf'.gnone hp)⟩
      | _ => exact fun z => z
/-- from an outcome of lists -/
theorem TF.ofL {ds : List D} {vs : List V} {fa : DL} {k : List D → Mu → R D} (h : TF K W (fun sl μ => bindR (fa sl μ) k) σ H Q) :
    TDs K W fa σ H (fun ws H1 => ∃ es G m μ sl, Wf K H1 G m μ ∧ RepS K G m sl σ ∧ RepL K G m es ws ∧ okF K W σ H1 G m μ (k es μ) Q) := by
  obtain ⟨G, m, μ, sl, wf, rs, o⟩ := h
  refine ⟨G, m, μ, sl, wf, rs, rfl, ?_⟩
  have o : okF K W σ H G m μ (bindR (fa sl μ) k) Q := o
  revert o
  cases fa sl μ with
  | none => exact fun z => z
  | some q =>
    cases q with
    | exc x μ1 => exact fun z => z
    | ok es μ1 =>
      intro o ws H1 G1 m1 wf1 st1 l1
      refine ⟨es, G1, m1, μ1, sl, wf1, st1.repS rs, l1, ?_⟩
      have o : okF K W σ H G m μ (k es μ1) Q := o
      revert o
      cases k es μ1 with
      | none => exact fun z => z
      | some q2 =>
        cases q2 with
        | exc x μ2 => exact fun o c dd H2 G2 m2 wf2 st2 q => o c dd H2 G2 m2 wf2 (st1.trans st2) q
        | ok d μ2 =>
          cases d with
          | lst ds => exact fun o p vs H2 G2 m2 wf2 st2 hp l => o p vs H2 G2 m2 wf2 (st1.trans st2) hp l
          | dic ks ds => exact fun o p vs H2 G2 m2 wf2 st2 hp hk l => o p vs H2 G2 m2 wf2 (st1.trans st2) hp hk l
          | dit ks ds => exact fun o p vs H2 G2 m2 wf2 st2 hp hk l => o p vs H2 G2 m2 wf2 (st1.trans st2) hp hk l
          | _ => exact fun z => z
theorem okF.lst {G : Hp} {m : List Addr} {μ : Mu} {ds : List D} (h : okF K W σ H G m μ (ok (.lst ds) μ) Q) (wf : Wf K H G m μ) {vs : List V} (l : RepL K G m ds vs) : ∀ p, H p = none → Q (.ref p) (upd H p (.lst vs)) :=
  fun p hp => h p vs H G m wf Step.refl hp l
end
section
variable {X : Cx} {W : WX} {pos : Pos} {e : Expr} {es : List Expr} {f : DE} {fl : DL}
theorem pef_box (h : PE X e (TF X.K W f)) : PE X e (TD X.K W (boxD f)) := PE_imp h fun _ _ _ => TF.box
theorem pef_new (h : PE X e (TF X.K W f)) : PE X e (TD X.K W (newD f)) := PE_imp h fun _ _ _ => TF.new
def lstD (f : DL) : DE := fun sl μ => bindR (f sl μ) fun ds μ1 => if ds.length ≤ sizeLine then ok (.lst ds) μ1 else none
theorem pef_lst (h : PA X es (TDs X.K W fl)) : PE X (.List es pos) (TF X.K W (lstD fl)) :=
  PE_imp (pe_lst h) fun σ H Q h => (TF.ofL (ds := []) (vs := []) h).imp fun ws H1 ⟨ds, G, m, μ, sl, wf, rs, rl, o⟩ => by
    split at o
    · rename_i hz
      exact ⟨by rw [rl.length]; exact hz, okF.lst o wf rl⟩
    · exact o.elim
end
end Pd
end
section
namespace Pd
open PySem PySem.Spec L2

/-! ### operators -/
section
variable {X : Cx} {W : WX}
theorem OpD.mk {f : Value → Value → Sem Value} {g : D2} {r : R2} (h : OpR X f r) (w : ∀ dx dy vx vy σ H G m μ Q, Wf X.K H G m μ → RepV X.K G m dx vx → RepV X.K G m dy vy → okA (repV X.K) X.K W σ H G m μ (g dx dy μ) Q → r vx vy H Q) : OpD X W f g := ⟨r, h, w⟩
/-- one or the other, by the data -/
theorem OpD.or {f : Value → Value → Sem Value} {g g' : D2} (c : D → D → Mu → Bool) (h : OpD X W f g) (h' : OpD X W f g') : OpD X W f (fun x y μ => if c x y μ then g x y μ else g' x y μ) := by
  obtain ⟨r, h1, h2⟩ := h
  obtain ⟨r', h3, h4⟩ := h'
  refine ⟨_, OpR.or h1 h3, fun dx dy vx vy σ H G m μ Q wf rx ry o => ?_⟩
  cases e : c dx dy μ with
  | true => simp only [e, if_true] at o; exact .inl (h2 dx dy vx vy σ H G m μ Q wf rx ry o)
  | false => simp only [e] at o; exact .inr (h4 dx dy vx vy σ H G m μ Q wf rx ry o)
theorem OpD.imp {f : Value → Value → Sem Value} {g g' : D2} (h : OpD X W f g) (w : ∀ x y μ, g' x y μ = g x y μ ∨ g' x y μ = none) : OpD X W f g' := by
  obtain ⟨r, h1, h2⟩ := h
  refine ⟨r, h1, fun dx dy vx vy σ H G m μ Q wf rx ry o => h2 dx dy vx vy σ H G m μ Q wf rx ry ?_⟩
  rcases w dx dy μ with e | e
  · rw [← e]; exact o
  · rw [e] at o; exact o.elim
end
/-- two ints -/
def int2 (C : Int → Int → Bool) (k : Int → Int → D) : D2 := fun x y μ => match x, y with
  | .int i, .int j => if C i j then ok (k i j) μ else none
  | _, _ => none
section
variable {X : Cx} {W : WX}
theorem OpD.int {f : Value → Value → Sem Value} {C : Int → Int → Prop} {Cb : Int → Int → Bool} {k : Int → Int → D} {kV : Int → Int → V} (h : OpR X f (rI C kV)) (hk : ∀ i j G m, RepV X.K G m (k i j) (kV i j)) (hc : ∀ i j, Cb i j = true → C i j) : OpD X W f (int2 Cb k) :=
  .mk h fun dx dy vx vy σ H G m μ Q wf rx ry o => by
    unfold int2 at o
    cases dx with
    | int i =>
      cases dy with
      | int j =>
        dsimp only at o
        by_cases z : Cb i j = true
        · rw [if_pos z] at o
          exact ⟨i, j, rx, ry, hc i j z, o.get wf (hk i j G m)⟩
        · rw [if_neg z] at o; exact o.elim
      | _ => exact o.elim
    | _ => exact o.elim
theorem OpD.int0 {f : Value → Value → Sem Value} {k : Int → Int → D} {kV : Int → Int → V} (h : OpR X f (rI0 kV)) (hk : ∀ i j G m, RepV X.K G m (k i j) (kV i j)) : OpD X W f (int2 (fun _ _ => true) k) :=
  .mk h fun dx dy vx vy σ H G m μ Q wf rx ry o => by
    unfold int2 at o
    cases dx with
    | int i =>
      cases dy with
      | int j => exact ⟨i, j, rx, ry, okA.get (a := k i j) o wf (hk i j G m)⟩
      | _ => exact o.elim
    | _ => exact o.elim
end
def mulOk (i j : Int) : Bool := decide (Builtin.Int.intBits i + Builtin.Int.intBits j ≤ 134217728)
def divOk (_ j : Int) : Bool := decide (j ≠ 0) && decide (j.natAbs.log2 < 9000)
theorem op_fdivX {X : Cx} : OpR X (binaryOp .FloorDiv) (rI (fun _ j => j ≠ 0 ∧ j.natAbs.log2 < 9000) fun i j => .int (i.fdiv j)) := opI fun _ _ _ _ _ _ _ hc q => PyProof.Rows.floordiv_int hc.1 q (.inl (PyProof.noPylong_of_log2 hc.2))
def mulI : D2 := int2 mulOk fun i j => .int (i * j)
def subI : D2 := int2 (fun _ _ => true) fun i j => .int (i - j)
def fdivI : D2 := int2 divOk fun i j => .int (i.fdiv j)
def modI : D2 := int2 (fun _ j => decide (j ≠ 0)) fun i j => .int (i.fmod j)
def powI : D2 := int2 (fun i j => decide (0 ≤ j) && decide (j ≤ 1000000) && decide (i.natAbs < 2 ^ 64)) fun i j => .int (i ^ j.toNat)
section
variable {X : Cx} {W : WX}
theorem od_sub : OpD X W (binaryOp .Sub) subI := .int0 op_sub fun _ _ _ _ => rfl
theorem od_mulI : OpD X W (binaryOp .Mult) mulI := .int op_mulX (fun _ _ _ _ => rfl) fun i j h => by
  have := of_decide_eq_true h
  show (Builtin.Int.intBits i : Int) + (Builtin.Int.intBits j : Int) ≤ 134217728
  omega
theorem od_fdiv : OpD X W (binaryOp .FloorDiv) fdivI := .int op_fdivX (fun _ _ _ _ => rfl) fun i j h => by
  unfold divOk at h
  simpa using h
theorem od_mod : OpD X W (binaryOp .Mod) modI := .int op_modN (fun _ _ _ _ => rfl) fun i j h => by simpa using h
theorem od_pow : OpD X W (binaryOp .Pow) powI := .int op_pow (fun _ _ _ _ => rfl) fun i j h => by
  simp only [Bool.and_eq_true, decide_eq_true_eq] at h
  exact ⟨h.1.1, h.1.2, h.2⟩
end
/-- + of texts, of lists, of tuples -/
def addS : D2 := fun x y μ => match x, y with
  | .str i, .str j => if i.length + j.length ≤ sizeLine then ok (.str (i ++ j)) μ else none
  | _, _ => none
def addL : D2 := fun x y μ => match lstOf μ x, lstOf μ y with
  | some xs, some ys => if xs.length + ys.length ≤ sizeLine then ok (.lst (xs ++ ys)) μ else none
  | _, _ => none
def addT : D2 := fun x y μ => match x, y with
  | .tup xs, .tup ys => if xs.length + ys.length ≤ sizeLine then ok (.tup (xs ++ ys)) μ else none
  | _, _ => none
def addI : D2 := int2 (fun _ _ => true) fun i j => .int (i + j)
theorem op_catX {X : Cx} : OpR X (binaryOp .Add) (fun x y H Q => ∃ l b xs zs, x = .ref l ∧ y = .ref b ∧ SqL X.K H l xs ∧ SqL X.K H b zs ∧ xs.length + zs.length ≤ sizeLine ∧ ∀ p, H p = none → Q (.ref p) (upd H p (.lst (xs ++ zs)))) := by
  intro pins s σ H x y v u Q I rx ry ⟨l, b, xs, zs, ex, ey, h1, h2, hz, q⟩
  subst ex; subst ey
  cases rx; cases ry
  obtain ⟨is, r1, ⟨⟨c1, d1, t1, sl1⟩, n1, o1, k1, _, g1⟩, _⟩ := I.list h1
  obtain ⟨js, r2, ⟨⟨c2, d2, t2, sl2⟩, n2, o2, k2, _, g2⟩, _⟩ := I.list h2
  simp only at k1 g1 k2 g2
  subst k1 g1 k2 g2
  have hl1 := r1.length
  have hl2 := r2.length
  refine concat_meets ⟨_, o1, rfl⟩ ⟨_, o2, rfl⟩ noFill_list_add seq_list_add PySem.F.slot_list_add PySem.F.entry_list_add (PySem.F.args_list_add_2 _ _) (PyProof.Rows.list_addW l b is.toArray js.toArray n1 n2 d1 d2 sl1 sl2 (by simp only [List.size_toArray]; omega)) ⟨o1, o2, ?_⟩
  rw [show is.toArray ++ js.toArray = (is ++ js).toArray by simp]
  exact ⟨.ref _, _, I.lnew (t' := s.toks) (r1.append r2) (by simp only [List.length_append]; omega), rfl, q _ I.fresh⟩
section
variable {X : Cx} {W : WX}
theorem od_addI : OpD X W (binaryOp .Add) addI := .int0 op_add fun _ _ _ _ => rfl
theorem od_addS : OpD X W (binaryOp .Add) addS := .mk op_add_str fun dx dy vx vy σ H G m μ Q wf rx ry o => by
  unfold addS at o
  split at o
  · rename_i i j
    split at o
    · rename_i hz
      exact ⟨i, j, rx, ry, hz, okA.get (a := D.str (i ++ j)) o wf rfl⟩
    · exact o.elim
  · exact o.elim
theorem od_addL : OpD X W (binaryOp .Add) addL := .mk op_catX fun dx dy vx vy σ H G m μ Q wf rx ry o => by
  unfold addL at o
  split at o
  · rename_i xs ys e1 e2
    split at o
    · rename_i hz
      obtain ⟨a, vs, e3, q1, l1⟩ := lstOf_rep wf e1 rx
      obtain ⟨b, ws, e4, q2, l2⟩ := lstOf_rep wf e2 ry
      refine ⟨a, b, vs, ws, e3, e4, q1, q2, by rw [l1.length, l2.length]; exact hz, fun p hp => ?_⟩
      exact o (.ref p) _ (upd G p (.lst (vs ++ ws))) m (wf.laid hp) (Step.laid wf hp) ⟨p, _, rfl, .inl (.inl upd_same), (l1.app l2).laid (wf.gnone hp)⟩
    · exact o.elim
  · exact o.elim
theorem od_addT : OpD X W (binaryOp .Add) addT := .mk op_catA fun dx dy vx vy σ H G m μ Q wf rx ry o => by
  unfold addT at o
  split at o
  · rename_i xs ys
    split at o
    · rename_i hz
      obtain ⟨a, vs, e3, q1, l1⟩ := rx
      obtain ⟨b, ws, e4, q2, l2⟩ := ry
      refine ⟨a, b, vs, ws, e3, e4, wf.sub.sqT q1, wf.sub.sqT q2, by rw [l1.length, l2.length]; exact hz, fun e => ?_, fun _ e => ?_, fun _ _ p hp => ?_⟩
      · subst e
        have hx : xs = [] := by
          have := l1.length
          cases xs with
          | nil => rfl
          | cons _ _ => simp at this
        subst hx
        exact okA.get (a := D.tup ([] ++ ys)) o wf ⟨b, ws, rfl, q2, l2⟩
      · subst e
        have hy : ys = [] := by
          have := l2.length
          cases ys with
          | nil => rfl
          | cons _ _ => simp at this
        subst hy
        refine okA.get (a := D.tup (xs ++ [])) o wf ⟨a, vs, rfl, q1, ?_⟩
        simpa using l1
      · exact o (.ref p) _ (upd G p (.tup (vs ++ ws))) m (wf.laid hp) (Step.laid wf hp) ⟨p, _, rfl, .inl (.inl upd_same), (l1.app l2).laid (wf.gnone hp)⟩
    · exact o.elim
  · exact o.elim
end
def isI : D → Bool
  | .int _ => true
  | _ => false
def isS : D → Bool
  | .str _ => true
  | _ => false
def isT : D → Bool
  | .tup _ => true
  | _ => false
/-- +, by what stands on the left -/
def addD : D2 := fun x y μ => match x with
  | .int _ => addI x y μ
  | .str _ => addS x y μ
  | .tup _ => addT x y μ
  | _ => addL x y μ
section
variable {X : Cx} {W : WX}
theorem od_add : OpD X W (binaryOp .Add) addD := by
  have h := OpD.or (fun x _ _ => isI x) (od_addI (X := X) (W := W)) (OpD.or (fun x _ _ => isS x) od_addS (OpD.or (fun x _ _ => isT x) od_addT od_addL))
  refine h.imp fun x y μ => .inl ?_
  cases x <;> rfl
end
/-- a list so many times -/
def mulL : D2 := fun x y μ => match lstOf μ x, y with
  | some xs, .int k => if -(2 ^ 63) ≤ k ∧ k < 2 ^ 63 ∧ xs.length * k.toNat ≤ sizeLine then ok (.lst (List.replicate k.toNat xs).flatten) μ else none
  | _, _ => none

/-! ### comparisons -/
def cmpI (p : Int → Int → Bool) : D2 := int2 (fun _ _ => true) fun i j => .bl (p i j)
def toPy (μ : Mu) : Nat → D → Option PyData
  | 0, _ => none
  | n + 1, d => match d with
    | .non => some .none
    | .bl b => some (.bool b)
    | .int i => some (.int i)
    | .str x => some (.str x)
    | .tup ds => (ds.mapM (toPy μ n)).map .tuple
    | .lst ds => (ds.mapM (toPy μ n)).map .list
    | .ref l => match μ[l]? with
      | some (some (.lst ds)) => (ds.mapM (toPy μ n)).map .list
      | _ => none
    | _ => none
theorem mapM_cons_some {α β : Type} {f : α → Option β} {x : α} {xs : List α} {ys : List β} (h : (x :: xs).mapM f = some ys) : ∃ y r, f x = some y ∧ xs.mapM f = some r ∧ ys = y :: r := by
  rw [List.mapM_cons] at h
  cases e : f x with
  | none => rw [e] at h; cases h
  | some y =>
    cases e2 : xs.mapM f with
    | none => rw [e, e2] at h; cases h
    | some r => rw [e, e2] at h; cases h; exact ⟨y, r, rfl, rfl, rfl⟩
section
variable {K : PySem.W.Frag} {H G : Hp} {m : List Addr} {μ : Mu}
theorem dpAll_of {n : Nat} (ih : ∀ (d : D) (v : V) (e : PyData), toPy μ n d = some e → RepV K G m d v → Dp K H v e) : ∀ (ds : List D) (vs : List V) (es : List PyData), ds.mapM (toPy μ n) = some es → RepL K G m ds vs → DpAll K H vs es
  | [], vs, es, h, r => by
    cases r
    rw [List.mapM_nil] at h
    cases h
    exact .nil
  | d :: ds, vs, es, h, r => by
    obtain ⟨v, w, rfl, r1, r2⟩ := r
    obtain ⟨y, q, h1, h2, rfl⟩ := mapM_cons_some h
    exact .cons (ih d v y h1 r1) (dpAll_of ih ds w q h2 r2)
theorem toPy_dp (wf : Wf K H G m μ) : ∀ (n : Nat) (d : D) (v : V) (e : PyData), toPy μ n d = some e → RepV K G m d v → Dp K H v e
  | 0, _, _, _, h, _ => by cases h
  | n + 1, d, v, e, h, r => by
    have seqs : ∀ (ds : List D) (vs : List V) (es : List PyData), ds.mapM (toPy μ n) = some es → RepL K G m ds vs → DpAll K H vs es := dpAll_of fun d v e => toPy_dp wf n d v e
    unfold toPy at h
    cases d with
    | non => cases h; cases r; exact .non
    | bl b => cases h; cases r; exact .bl b
    | int i => cases h; cases r; exact .int i
    | str x => cases h; cases r; exact .str x
    | tup ds =>
      dsimp only at h
      cases q : ds.mapM (toPy μ n) with
      | none => rw [q] at h; cases h
      | some es =>
        rw [q] at h; cases h
        obtain ⟨a, vs, rfl, s, l⟩ := r
        exact .tup (wf.sub.sqT s) (seqs ds vs es q l)
    | lst ds =>
      dsimp only at h
      cases q : ds.mapM (toPy μ n) with
      | none => rw [q] at h; cases h
      | some es =>
        rw [q] at h; cases h
        obtain ⟨a, vs, rfl, s, l⟩ := r
        exact .lst (wf.sub.sqL s) (seqs ds vs es q l)
    | ref l =>
      dsimp only at h
      split at h
      · rename_i ds e1
        cases q : ds.mapM (toPy μ n) with
        | none => rw [q] at h; cases h
        | some es =>
          rw [q] at h; cases h
          obtain ⟨a, rfl, _, _, vs, s, l⟩ := wf.live_get e1 r
          exact .lst (.inl (.inl s)) (seqs ds vs es q l)
      · cases h
    | _ => cases h
end
def eqD0 : D2 := fun x y μ => match toPy μ 9 x, toPy μ 9 y with
  | some d, some e => if SeqAt.shaped d && SeqAt.shaped e then ok (.bl (PyData.eqv d e)) μ else none
  | _, _ => none
def neD0 : D2 := fun x y μ => match toPy μ 9 x, toPy μ 9 y with
  | some d, some e => if SeqAt.shaped d && SeqAt.shaped e then ok (.bl (!PyData.eqv d e)) μ else none
  | _, _ => none
/-- two texts -/
def twoS (x y : D) : Option (Str × Str) := match x with
  | .str a => match y with
    | .str b => some (a, b)
    | _ => none
  | _ => none
def eqD : D2 := fun x y μ => match twoS x y with
  | some (a, b) => ok (.bl (decide (a = b))) μ
  | none => eqD0 x y μ
def neD : D2 := fun x y μ => match twoS x y with
  | some (a, b) => ok (.bl (!decide (a = b))) μ
  | none => neD0 x y μ
def isNonD : D → Bool
  | .non => true
  | _ => false
def isBlD : D → Option Bool
  | .bl b => some b
  | _ => none
/-- is None; is True, is False of truths -/
def isD : D2 := fun x y μ => match y with
  | .non => match x with
    | .ref _ => ok (.bl false) μ
    | .cst _ => none
    | _ => ok (.bl (isNonD x)) μ
  | .bl b => match x with
    | .bl a => ok (.bl (decide (a = b))) μ
    | _ => none
  | _ => none
def isnotD : D2 := fun x y μ => match y with
  | .non => match x with
    | .ref _ => ok (.bl true) μ
    | .cst _ => none
    | _ => ok (.bl (!isNonD x)) μ
  | .bl b => match x with
    | .bl a => ok (.bl (!decide (a = b))) μ
    | _ => none
  | _ => none
theorem RepV.non_iff {K : PySem.W.Frag} {G : Hp} {m : List Addr} {d : D} {v : V} (r : RepV K G m d v) (hc : ∀ w, d ≠ .cst w) : decide (v = .non) = isNonD d := by
  cases d with
  | non => cases r; rfl
  | bl b => cases r; rfl
  | int i => cases r; rfl
  | str x => cases r; rfl
  | tup ds => obtain ⟨a, vs, rfl, _⟩ := r; rfl
  | lst ds => obtain ⟨a, vs, rfl, _⟩ := r; rfl
  | dic ks ds => obtain ⟨a, vs, rfl, _⟩ := r; rfl
  | dit ks ds => obtain ⟨a, vs, rfl, _⟩ := r; rfl
  | cst w => exact absurd rfl (hc w)
  | ref l => obtain ⟨a, rfl, _⟩ := r; rfl
  | exn a d fs xs => obtain ⟨rfl, _⟩ := r; rfl
section
variable {X : Cx} {W : WX}
theorem od_lt : OpD X W (compareOp .Lt) (cmpI fun i j => decide (i < j)) := .int0 op_lt fun _ _ _ _ => rfl
theorem od_le : OpD X W (compareOp .LtE) (cmpI fun i j => decide (i ≤ j)) := .int0 op_le fun _ _ _ _ => rfl
theorem od_gt : OpD X W (compareOp .Gt) (cmpI fun i j => decide (j < i)) := .int0 op_gt fun _ _ _ _ => rfl
theorem od_ge : OpD X W (compareOp .GtE) (cmpI fun i j => decide (j ≤ i)) := .int0 op_ge fun _ _ _ _ => rfl
theorem od_eq0 (hu : X.A.units + 64 < cLine) : OpD X W (compareOp .Eq) eqD0 := .mk (op_eqD hu) fun dx dy vx vy σ H G m μ Q wf rx ry o => by
  unfold eqD0 at o
  split at o
  · rename_i d e h1 h2
    split at o
    · rename_i z
      have z := Bool.and_eq_true_iff.mp z
      exact ⟨d, e, toPy_dp wf _ _ _ _ h1 rx, toPy_dp wf _ _ _ _ h2 ry, z.1, z.2, okA.get (a := D.bl (PyData.eqv d e)) o wf rfl⟩
    · exact o.elim
  · exact o.elim
theorem od_ne0 (hu : X.A.units + 64 < cLine) : OpD X W (compareOp .NotEq) neD0 := .mk (op_neD hu) fun dx dy vx vy σ H G m μ Q wf rx ry o => by
  unfold neD0 at o
  split at o
  · rename_i d e h1 h2
    split at o
    · rename_i z
      have z := Bool.and_eq_true_iff.mp z
      exact ⟨d, e, toPy_dp wf _ _ _ _ h1 rx, toPy_dp wf _ _ _ _ h2 ry, z.1, z.2, okA.get (a := D.bl (!PyData.eqv d e)) o wf rfl⟩
    · exact o.elim
  · exact o.elim
theorem dec_str {a b : Str} : decide (V.str a = V.str b) = decide (a = b) := by
  by_cases h : a = b
  · subst h; simp
  · rw [decide_eq_false h, decide_eq_false fun z => h (V.str.inj z)]
theorem od_eqS : OpD X W (compareOp .Eq) (fun x y μ => match twoS x y with
    | some (a, b) => ok (.bl (decide (a = b))) μ
    | none => none) := .mk op_eq fun dx dy vx vy σ H G m μ Q wf rx ry o => by
  cases dx with
  | str a =>
    cases dy with
    | str b =>
      cases rx; cases ry
      exact ⟨rfl, by rw [dec_str]; exact okA.get (a := D.bl (decide (a = b))) o wf rfl⟩
    | _ => exact o.elim
  | _ => exact o.elim
theorem od_neS : OpD X W (compareOp .NotEq) (fun x y μ => match twoS x y with
    | some (a, b) => ok (.bl (!decide (a = b))) μ
    | none => none) := .mk op_ne fun dx dy vx vy σ H G m μ Q wf rx ry o => by
  cases dx with
  | str a =>
    cases dy with
    | str b =>
      cases rx; cases ry
      exact ⟨rfl, by rw [dec_str]; exact okA.get (a := D.bl (!decide (a = b))) o wf rfl⟩
    | _ => exact o.elim
  | _ => exact o.elim
theorem od_eq (hu : X.A.units + 64 < cLine) : OpD X W (compareOp .Eq) eqD := by
  refine (OpD.or (fun x y _ => (twoS x y).isSome) od_eqS (od_eq0 hu)).imp fun x y μ => .inl ?_
  unfold eqD
  cases twoS x y <;> rfl
theorem od_ne (hu : X.A.units + 64 < cLine) : OpD X W (compareOp .NotEq) neD := by
  refine (OpD.or (fun x y _ => (twoS x y).isSome) od_neS (od_ne0 hu)).imp fun x y μ => .inl ?_
  unfold neD
  cases twoS x y <;> rfl
theorem od_is : OpD X W (compareOp .Is) isD := .mk (OpR.or op_isN op_is_bl) fun dx dy vx vy σ H G m μ Q wf rx ry o => by
  unfold isD at o
  cases dy with
  | non =>
    have ry : vy = .non := ry
    refine .inl ⟨ry, ?_⟩
    cases dx with
    | ref l =>
      rw [rx.non_iff (fun _ q => by cases q)]
      exact okA.get (a := D.bl false) o wf rfl
    | cst w => exact o.elim
    | _ =>
      rw [rx.non_iff (fun _ q => by cases q)]
      exact okA.get (a := D.bl _) o wf rfl
  | bl b =>
    cases dx with
    | bl a => exact .inr ⟨a, b, rx, ry, okA.get (a := D.bl _) o wf rfl⟩
    | _ => exact o.elim
  | _ => exact o.elim
theorem od_isnot : OpD X W (compareOp .IsNot) isnotD := .mk (OpR.or op_notN op_isnot_bl) fun dx dy vx vy σ H G m μ Q wf rx ry o => by
  unfold isnotD at o
  cases dy with
  | non =>
    have ry : vy = .non := ry
    refine .inl ⟨ry, ?_⟩
    cases dx with
    | ref l =>
      rw [rx.non_iff (fun _ q => by cases q)]
      exact okA.get (a := D.bl true) o wf rfl
    | cst w => exact o.elim
    | _ =>
      rw [rx.non_iff (fun _ q => by cases q)]
      exact okA.get (a := D.bl _) o wf rfl
  | bl b =>
    cases dx with
    | bl a => exact .inr ⟨a, b, rx, ry, okA.get (a := D.bl _) o wf rfl⟩
    | _ => exact o.elim
  | _ => exact o.elim
end

/-! ### one operand; built-ins called -/
def unD (g : D → Mu → R D) (f : DE) : DE := fun sl μ => bindR (f sl μ) g
def negI : D → Mu → R D
  | .int i, μ => ok (.int (-i)) μ
  | _, _ => none
section
variable {X : Cx} {W : WX} {pos : Pos} {a : Expr} {fa : DE}
theorem ped_neg (ha : PE X a (TD X.K W fa)) : PE X (.UnaryOp .USub a pos) (TD X.K W (unD negI fa)) :=
  PE_imp (pe_un un_neg ha) fun σ H Q h => (T.bindV h).imp fun v H1 ⟨d, G, m, μ, sl, wf, rs, r, o⟩ => by
    cases d with
    | int i => exact ⟨i, r, okA.get (a := D.int (-i)) o wf rfl⟩
    | _ => exact o.elim
end
/-- a call's rule, for plain data -/
abbrev DC := List D → Mu → R D
def CallD (X : Cx) (W : WX) (f : Value) (g : DC) : Prop := ∃ r, CallR X f r ∧ ∀ ds vs σ H G m μ Q, Wf X.K H G m μ → RepL X.K G m ds vs → okA (repV X.K) X.K W σ H G m μ (g ds μ) Q → r vs H Q
/-- .. whose value is a new list or dict -/
def CallF (X : Cx) (W : WX) (f : Value) (g : DC) : Prop := ∃ r, CallR X f r ∧ ∀ ds vs σ H G m μ Q, Wf X.K H G m μ → RepL X.K G m ds vs → okF X.K W σ H G m μ (g ds μ) Q → r vs H Q
def callB (g : DC) (f : DL) : DE := fun sl μ => bindR (f sl μ) g
section
variable {X : Cx} {W : WX} {pos p : Pos} {x : Str} {e : Expr} {es : List Expr} {fl : DL} {g g' : DC} {id T : String}
theorem CallD.imp {f : Value} (h : CallD X W f g) (w : ∀ ds μ, g' ds μ = g ds μ ∨ g' ds μ = none) : CallD X W f g' := by
  obtain ⟨r, h1, h2⟩ := h
  refine ⟨r, h1, fun ds vs σ H G m μ Q wf rl o => h2 ds vs σ H G m μ Q wf rl ?_⟩
  rcases w ds μ with e | e
  · rw [← e]; exact o
  · rw [e] at o; exact o.elim
theorem CallD.or {f : Value} (c : List D → Mu → Bool) (h : CallD X W f g) (h' : CallD X W f g') : CallD X W f (fun ds μ => if c ds μ then g ds μ else g' ds μ) := by
  obtain ⟨r, h1, h2⟩ := h
  obtain ⟨r', h3, h4⟩ := h'
  refine ⟨_, CallR.or h1 h3, fun ds vs σ H G m μ Q wf rl o => ?_⟩
  cases e : c ds μ with
  | true => simp only [e, if_true] at o; exact .inl (h2 ds vs σ H G m μ Q wf rl o)
  | false => simp only [e] at o; exact .inr (h4 ds vs σ H G m μ Q wf rl o)
theorem callB_imp {r : List V → Hp → VK → Prop} (hr : ∀ ds vs σ H G m μ Q, Wf X.K H G m μ → RepL X.K G m ds vs → okA (repV X.K) X.K W σ H G m μ (g ds μ) Q → r vs H Q) (σ : L2.St) (H : Hp) (Q : VK) (h : TD X.K W (callB g fl) σ H Q) : tCB r (TDs X.K W fl) σ H Q :=
  (T.bindL h).imp fun ws H1 ⟨ds, G, m, μ, sl, wf, rs, _, rl, o⟩ => hr ds ws σ H1 G m μ Q wf rl o
theorem callF_imp {r : List V → Hp → VK → Prop} (hr : ∀ ds vs σ H G m μ Q, Wf X.K H G m μ → RepL X.K G m ds vs → okF X.K W σ H G m μ (g ds μ) Q → r vs H Q) (σ : L2.St) (H : Hp) (Q : VK) (h : TF X.K W (callB g fl) σ H Q) : tCB r (TDs X.K W fl) σ H Q :=
  (TF.ofL (ds := []) (vs := []) h).imp fun ws H1 ⟨ds, G, m, μ, sl, wf, rs, rl, o⟩ => hr ds ws σ H1 G m μ Q wf rl o
theorem ped_callB (hc : CallD X W (.builtin id) g) (hg : Gl X x) (hm : X.mg x = none) (hv : bootBuiltins x = some (.builtin id)) (ha : PA X (e :: es) (TDs X.K W fl)) (hn : x ≠ "__name__" := by decide) (hdb : (x == ("__debug__" : Str)) = false := by decide)
    (he : starEach (e :: es) X.env = (false, eval e X.env) :: starEach es X.env := by rfl) (hpl : (backTo pos (starEach es X.env)).any (·.1) = false := by rfl) : PE X (.Call (.Name x p) (e :: es) [] pos) (TD X.K W (callB g fl)) :=
  let ⟨_, h1, h2⟩ := hc
  PE_imp (pe_callB h1 hg hm hv ha hn hdb he hpl) (callB_imp h2)
theorem ped_callTy (hc : CallD X W (.type T) g) (hg : Gl X x) (hm : X.mg x = none) (hv : bootBuiltins x = some (.type T)) (ha : PA X (e :: es) (TDs X.K W fl)) (hn : x ≠ "__name__" := by decide) (hdb : (x == ("__debug__" : Str)) = false := by decide)
    (he : starEach (e :: es) X.env = (false, eval e X.env) :: starEach es X.env := by rfl) (hpl : (backTo pos (starEach es X.env)).any (·.1) = false := by rfl) : PE X (.Call (.Name x p) (e :: es) [] pos) (TD X.K W (callB g fl)) :=
  let ⟨_, h1, h2⟩ := hc
  PE_imp (pe_callTy h1 hg hm hv ha hn hdb he hpl) (callB_imp h2)
theorem pef_callB (hc : CallF X W (.builtin id) g) (hg : Gl X x) (hm : X.mg x = none) (hv : bootBuiltins x = some (.builtin id)) (ha : PA X (e :: es) (TDs X.K W fl)) (hn : x ≠ "__name__" := by decide) (hdb : (x == ("__debug__" : Str)) = false := by decide)
    (he : starEach (e :: es) X.env = (false, eval e X.env) :: starEach es X.env := by rfl) (hpl : (backTo pos (starEach es X.env)).any (·.1) = false := by rfl) : PE X (.Call (.Name x p) (e :: es) [] pos) (TF X.K W (callB g fl)) :=
  let ⟨_, h1, h2⟩ := hc
  PE_imp (pe_callB h1 hg hm hv ha hn hdb he hpl) (callF_imp h2)
theorem pef_callTy (hc : CallF X W (.type T) g) (hg : Gl X x) (hm : X.mg x = none) (hv : bootBuiltins x = some (.type T)) (ha : PA X (e :: es) (TDs X.K W fl)) (hn : x ≠ "__name__" := by decide) (hdb : (x == ("__debug__" : Str)) = false := by decide)
    (he : starEach (e :: es) X.env = (false, eval e X.env) :: starEach es X.env := by rfl) (hpl : (backTo pos (starEach es X.env)).any (·.1) = false := by rfl) : PE X (.Call (.Name x p) (e :: es) [] pos) (TF X.K W (callB g fl)) :=
  let ⟨_, h1, h2⟩ := hc
  PE_imp (pe_callTy h1 hg hm hv ha hn hdb he hpl) (callF_imp h2)
end
/-! built-ins -/
def dcLen : DC := fun ds μ => match ds with
  | [.str x] => if x.length ≤ sizeLine then ok (.int x.length) μ else none
  | [d] => match seqOf μ d with
    | some xs => ok (.int xs.length) μ
    | none => none
  | _ => none
def dcAbs : DC := fun ds μ => match ds with
  | [.int i] => ok (.int (if i < 0 then -i else i)) μ
  | _ => none
def dcMax2 : DC := fun ds μ => match ds with
  | [.int i, .int j] => ok (.int (if j > i then j else i)) μ
  | _ => none
def dcMin2 : DC := fun ds μ => match ds with
  | [.int i, .int j] => ok (.int (if j < i then j else i)) μ
  | _ => none
def dcInt : DC := fun ds μ => match ds with
  | [.int i] => ok (.int i) μ
  | [.bl b] => ok (.int (if b then 1 else 0)) μ
  | _ => none
def dcGcd : DC := fun ds μ => match ds with
  | [.int a, .int b] => ok (.int ((Nat.gcd a.natAbs b.natAbs : Nat) : Int)) μ
  | _ => none
def intsOf : List D → Option (List Int)
  | [] => some []
  | .int i :: r => (intsOf r).map (i :: ·)
  | _ :: _ => none
def blsOf : List D → Option (List Bool)
  | [] => some []
  | .bl b :: r => (blsOf r).map (b :: ·)
  | _ :: _ => none
theorem intsOf_rep {K : PySem.W.Frag} {G : Hp} {m : List Addr} : ∀ {ds : List D} {vs : List V} {ns : List Int}, intsOf ds = some ns → RepL K G m ds vs → vs = ns.map V.int
  | [], _, _, h, r => by cases h; cases r; rfl
  | d :: ds, _, ns, h, r => by
    obtain ⟨v, w, rfl, r1, r2⟩ := r
    cases d with
    | int i =>
      unfold intsOf at h
      cases e : intsOf ds with
      | none => rw [e] at h; cases h
      | some q =>
        rw [e] at h; cases h
        cases r1
        rw [intsOf_rep e r2]; rfl
    | _ => cases h
theorem blsOf_rep {K : PySem.W.Frag} {G : Hp} {m : List Addr} : ∀ {ds : List D} {vs : List V} {ns : List Bool}, blsOf ds = some ns → RepL K G m ds vs → vs = ns.map V.bl
  | [], _, _, h, r => by cases h; cases r; rfl
  | d :: ds, _, ns, h, r => by
    obtain ⟨v, w, rfl, r1, r2⟩ := r
    cases d with
    | bl i =>
      unfold blsOf at h
      cases e : blsOf ds with
      | none => rw [e] at h; cases h
      | some q =>
        rw [e] at h; cases h
        cases r1
        rw [blsOf_rep e r2]; rfl
    | _ => cases h
def dcSum : DC := fun ds μ => match ds with
  | [d] => match (lstOf μ d).bind intsOf with
    | some ns => ok (.int ns.sum) μ
    | none => none
  | _ => none
def dcAny : DC := fun ds μ => match ds with
  | [d] => match (lstOf μ d).bind blsOf with
    | some bs => ok (.bl (bs.any id)) μ
    | none => none
  | _ => none
def dcAll : DC := fun ds μ => match ds with
  | [d] => match (lstOf μ d).bind blsOf with
    | some bs => ok (.bl (bs.all id)) μ
    | none => none
  | _ => none
def dcTuple : DC := fun ds μ => match ds with
  | [d] => match seqOf μ d with
    | some xs => ok (.tup xs) μ
    | none => none
  | _ => none
/-- list(x) of a list, a tuple -/
def dcList : DC := fun ds μ => match ds with
  | [d] => match seqOf μ d with
    | some xs => ok (.lst xs) μ
    | none => none
  | _ => none
section
variable {X : Cx} {W : WX}
theorem repL1 {K : PySem.W.Frag} {G : Hp} {m : List Addr} {d : D} {vs : List V} (r : RepL K G m [d] vs) : ∃ v, vs = [v] ∧ RepV K G m d v := by
  obtain ⟨v, w, rfl, r1, r2⟩ := r
  cases r2
  exact ⟨v, rfl, r1⟩
theorem repL2 {K : PySem.W.Frag} {G : Hp} {m : List Addr} {d e : D} {vs : List V} (r : RepL K G m [d, e] vs) : ∃ v w, vs = [v, w] ∧ RepV K G m d v ∧ RepV K G m e w := by
  obtain ⟨v, w, rfl, r1, r2⟩ := r
  obtain ⟨u, rfl, r3⟩ := repL1 r2
  exact ⟨v, u, rfl, r1, r3⟩
theorem cd_len : CallD X W (.builtin "len") dcLen := ⟨_, call_len, fun ds vs σ H G m μ Q wf rl o => by
  unfold dcLen at o
  split at o
  · rename_i x
    obtain ⟨v, rfl, r⟩ := repL1 rl
    split at o
    · rename_i hz
      have r : v = .str x := r
      subst r
      exact ⟨_, x.length, rfl, ⟨hz, rfl⟩, okA.get (a := D.int _) o wf rfl⟩
    · exact o.elim
  · rename_i d hd
    obtain ⟨v, rfl, r⟩ := repL1 rl
    split at o
    · rename_i xs e
      obtain ⟨a, ws, rfl, q, l⟩ := seqOf_rep wf e r
      refine ⟨_, ws.length, rfl, ?_, ?_⟩
      · rcases q with q | q
        · exact .inl ⟨ws, q, rfl⟩
        · exact .inr ⟨ws, q, rfl⟩
      · rw [l.length]; exact okA.get (a := D.int _) o wf rfl
    · exact o.elim
  · exact o.elim⟩
theorem cd_abs : CallD X W (.builtin "abs") dcAbs := ⟨_, call_abs, fun ds vs σ H G m μ Q wf rl o => by
  unfold dcAbs at o
  split at o
  · rename_i i
    obtain ⟨v, rfl, r⟩ := repL1 rl
    cases r
    exact ⟨i, rfl, okA.get (a := D.int _) o wf rfl⟩
  · exact o.elim⟩
theorem cd_max2 (hc : X.calm = true) : CallD X W (.builtin "max") dcMax2 := ⟨_, call_max2 hc, fun ds vs σ H G m μ Q wf rl o => by
  unfold dcMax2 at o
  split at o
  · rename_i i j
    obtain ⟨v, w, rfl, r, r'⟩ := repL2 rl
    cases r; cases r'
    exact ⟨i, j, rfl, okA.get (a := D.int _) o wf rfl⟩
  · exact o.elim⟩
theorem cd_min2 (hc : X.calm = true) : CallD X W (.builtin "min") dcMin2 := ⟨_, call_min2 hc, fun ds vs σ H G m μ Q wf rl o => by
  unfold dcMin2 at o
  split at o
  · rename_i i j
    obtain ⟨v, w, rfl, r, r'⟩ := repL2 rl
    cases r; cases r'
    exact ⟨i, j, rfl, okA.get (a := D.int _) o wf rfl⟩
  · exact o.elim⟩
theorem cd_int : CallD X W (.type "int") dcInt := ⟨_, call_int1, fun ds vs σ H G m μ Q wf rl o => by
  unfold dcInt at o
  split at o
  · rename_i i
    obtain ⟨v, rfl, r⟩ := repL1 rl
    cases r
    exact .inl ⟨i, rfl, okA.get (a := D.int _) o wf rfl⟩
  · rename_i b
    obtain ⟨v, rfl, r⟩ := repL1 rl
    cases r
    exact .inr ⟨b, rfl, okA.get (a := D.int _) o wf rfl⟩
  · exact o.elim⟩
theorem cd_gcd : CallD X W (.builtin "math.gcd") dcGcd := ⟨_, cr_gcd, fun ds vs σ H G m μ Q wf rl o => by
  unfold dcGcd at o
  split at o
  · rename_i i j
    obtain ⟨v, w, rfl, r, r'⟩ := repL2 rl
    cases r; cases r'
    exact ⟨i, j, rfl, okA.get (a := D.int _) o wf rfl⟩
  · exact o.elim⟩
theorem lst_bind {α : Type} {f : List D → Option α} {o : Option (List D)} {r : α} (h : o.bind f = some r) : ∃ ds, o = some ds ∧ f ds = some r := by
  cases o with
  | none => cases h
  | some ds => exact ⟨ds, rfl, h⟩
theorem cd_sum (hc : X.calm = true) : CallD X W (.builtin "sum") dcSum := ⟨_, cr_sum hc, fun ds vs σ H G m μ Q wf rl o => by
  unfold dcSum at o
  split at o
  · rename_i d
    obtain ⟨v, rfl, r⟩ := repL1 rl
    split at o
    · rename_i ns e
      obtain ⟨xs, e1, e2⟩ := lst_bind e
      obtain ⟨a, ws, rfl, q, l⟩ := lstOf_rep wf e1 r
      have := intsOf_rep e2 l
      subst this
      exact ⟨a, ns, rfl, q, okA.get (a := D.int _) o wf rfl⟩
    · exact o.elim
  · exact o.elim⟩
theorem cd_any (hc : X.calm = true) : CallD X W (.builtin "any") dcAny := ⟨_, cr_any hc, fun ds vs σ H G m μ Q wf rl o => by
  unfold dcAny at o
  split at o
  · rename_i d
    obtain ⟨v, rfl, r⟩ := repL1 rl
    split at o
    · rename_i ns e
      obtain ⟨xs, e1, e2⟩ := lst_bind e
      obtain ⟨a, ws, rfl, q, l⟩ := lstOf_rep wf e1 r
      have := blsOf_rep e2 l
      subst this
      exact ⟨a, ns, rfl, q, okA.get (a := D.bl _) o wf rfl⟩
    · exact o.elim
  · exact o.elim⟩
theorem cd_all (hc : X.calm = true) : CallD X W (.builtin "all") dcAll := ⟨_, cr_all hc, fun ds vs σ H G m μ Q wf rl o => by
  unfold dcAll at o
  split at o
  · rename_i d
    obtain ⟨v, rfl, r⟩ := repL1 rl
    split at o
    · rename_i ns e
      obtain ⟨xs, e1, e2⟩ := lst_bind e
      obtain ⟨a, ws, rfl, q, l⟩ := lstOf_rep wf e1 r
      have := blsOf_rep e2 l
      subst this
      exact ⟨a, ns, rfl, q, okA.get (a := D.bl _) o wf rfl⟩
    · exact o.elim
  · exact o.elim⟩
theorem seqOf_rep' {K : PySem.W.Frag} {H G : Hp} {m : List Addr} {μ : Mu} (wf : Wf K H G m μ) {d : D} {v : V} {ds : List D} (h : seqOf μ d = some ds) (r : RepV K G m d v) : ∃ a vs, v = .ref a ∧ RepL K G m ds vs ∧ (SqL K H a vs ∨ (SqT K H a vs ∧ RepV K G m (.tup ds) v)) := by
  cases d with
  | tup xs =>
    cases h
    obtain ⟨a, vs, e, q, l⟩ := r
    exact ⟨a, vs, e, l, .inr ⟨wf.sub.sqT q, ⟨a, vs, e, q, l⟩⟩⟩
  | lst xs =>
    obtain ⟨a, vs, e, q, l⟩ := lstOf_rep wf (d := .lst xs) h r
    exact ⟨a, vs, e, l, .inl q⟩
  | ref l =>
    obtain ⟨a, vs, e, q, l⟩ := lstOf_rep wf (d := .ref l) h r
    exact ⟨a, vs, e, l, .inl q⟩
  | _ => cases h
theorem cd_tuple : CallD X W (.type "tuple") dcTuple := ⟨_, call_tuple_of, fun ds vs σ H G m μ Q wf rl o => by
  unfold dcTuple at o
  split at o
  · rename_i d
    obtain ⟨v, rfl, r⟩ := repL1 rl
    split at o
    · rename_i xs e
      obtain ⟨a, ws, rfl, l, q⟩ := seqOf_rep' wf e r
      refine ⟨a, ws, rfl, ?_⟩
      rcases q with q | ⟨q, rt⟩
      · refine .inl ⟨q, fun p hp => ?_⟩
        exact o (.ref p) _ (upd G p (.tup ws)) m (wf.laid hp) (Step.laid wf hp) ⟨p, ws, rfl, .inl (.inl upd_same), l.laid (wf.gnone hp)⟩
      · exact .inr ⟨q, okA.get (a := D.tup xs) o wf rt⟩
    · exact o.elim
  · exact o.elim⟩
theorem cf_list : CallF X W (.type "list") dcList := ⟨_, call_list_of, fun ds vs σ H G m μ Q wf rl o => by
  unfold dcList at o
  split at o
  · rename_i d
    obtain ⟨v, rfl, r⟩ := repL1 rl
    split at o
    · rename_i xs e
      obtain ⟨a, ws, rfl, q, l⟩ := seqOf_rep wf e r
      exact ⟨a, ws, rfl, q, okF.lst o wf l⟩
    · exact o.elim
  · exact o.elim⟩
end
end Pd
end
section
namespace Pd
open PySem PySem.Spec L2

/-! ### dicts as data -/
def keyOf : D → Option Key
  | .int i => some (.inl i)
  | .str x => some (.inr x)
  | _ => none
def keyD : Key → D
  | .inl i => .int i
  | .inr x => .str x
theorem keyOf_rep {K : PySem.W.Frag} {G : Hp} {m : List Addr} {d : D} {k : Key} {v : V} (h : keyOf d = some k) (r : RepV K G m d v) : v = kV k := by
  cases d with
  | int i => cases h; exact r
  | str x => cases h; exact r
  | _ => cases h
theorem keyD_rep {K : PySem.W.Frag} {G : Hp} {m : List Addr} (k : Key) : RepV K G m (keyD k) (kV k) := by cases k <;> exact rfl
def dicOf (μ : Mu) : D → Option (List Key × List D)
  | .dic ks ds => some (ks, ds)
  | .ref l => match μ[l]? with
    | some (some (.dic ks ds)) => some (ks, ds)
    | _ => none
  | _ => none
theorem dicOf_rep {K : PySem.W.Frag} {H G : Hp} {m : List Addr} {μ : Mu} (wf : Wf K H G m μ) {d : D} {v : V} {ks : List Key} {ds : List D} (h : dicOf μ d = some (ks, ds)) (r : RepV K G m d v) :
    ∃ a vs, v = .ref a ∧ Rd H a (.dK (ks.zip vs)) ∧ ks.length = ds.length ∧ RepL K G m ds vs := by
  cases d with
  | dic xs ys =>
    cases h
    obtain ⟨a, vs, e, q, z, l⟩ := r
    exact ⟨a, vs, e, wf.sub.rd q, z, l⟩
  | ref l =>
    unfold dicOf at h
    dsimp only at h
    split at h
    · rename_i xs ys e
      cases h
      obtain ⟨a, e1, _, _, vs, q, z, rl⟩ := wf.live_get e r
      exact ⟨a, vs, e1, .inl q, z, rl⟩
    · cases h
  | _ => cases h
section
variable {α β : Type} {κ : Type} [DecidableEq κ]
def dgetA : List κ → List α → κ → Option α
  | k' :: ks, x :: xs, k => if k' = k then some x else dgetA ks xs k
  | _, _, _ => none
def replA : List κ → List α → κ → α → List α
  | k' :: ks, x :: xs, k, y => (if k' = k then y else x) :: replA ks xs k y
  | _, xs, _, _ => xs
def putKs (ks : List κ) (k : κ) : List κ := if k ∈ ks then ks else ks ++ [k]
def putXs (ks : List κ) (xs : List α) (k : κ) (y : α) : List α := if k ∈ ks then replA ks xs k y else xs ++ [y]
theorem replA_length : ∀ (ks : List κ) (xs : List α) (k : κ) (y : α), (replA ks xs k y).length = xs.length
  | [], xs, _, _ => by cases xs <;> rfl
  | _ :: _, [], _, _ => rfl
  | k' :: ks, x :: xs, k, y => by simp [replA, replA_length ks xs k y]
theorem putLen {ks : List κ} {xs : List α} (h : ks.length = xs.length) (k : κ) (y : α) : (putKs ks k).length = (putXs ks xs k y).length := by
  unfold putKs putXs
  split
  · rw [replA_length]; exact h
  · simp [h]
end
section
variable {κ : Type} [DecidableEq κ] {K : PySem.W.Frag} {G : Hp} {m : List Addr}
theorem valV_zip (k : κ) : ∀ (ks : List κ) (vs : List V), valV (ks.zip vs) k = dgetA ks vs k
  | [], _ => rfl
  | _ :: _, [] => rfl
  | k' :: ks, v :: vs => by
    by_cases e : k' = k
    · rw [List.zip_cons_cons, valV_pos (p := (k', v)) e]; simp [dgetA, e]
    · rw [List.zip_cons_cons, valV_neg (p := (k', v)) e, valV_zip k ks vs]; simp [dgetA, e]
theorem dget_rep (k : κ) : ∀ {ks : List κ} {ds : List D} {vs : List V}, RepL K G m ds vs → match dgetA ks ds k with
    | some d => ∃ v, dgetA ks vs k = some v ∧ RepV K G m d v
    | none => dgetA ks vs k = none
  | [], _, _, _ => by simp [dgetA]
  | k' :: ks, [], _, r => by cases r; simp [dgetA]
  | k' :: ks, d :: ds, _, r => by
    obtain ⟨v, w, rfl, r1, r2⟩ := r
    unfold dgetA
    by_cases e : k' = k
    · simp only [e, if_true]; exact ⟨v, rfl, r1⟩
    · simp only [e, if_false]; exact dget_rep k r2
theorem repl_rep (k : κ) {d : D} {v : V} (rv : RepV K G m d v) : ∀ {ks : List κ} {ds : List D} {vs : List V}, RepL K G m ds vs → RepL K G m (replA ks ds k d) (replA ks vs k v)
  | [], ds, vs, r => by cases ds <;> cases vs <;> exact r
  | k' :: ks, [], _, r => by cases r; exact rfl
  | k' :: ks, d' :: ds, _, r => by
    obtain ⟨v', w, rfl, r1, r2⟩ := r
    refine ⟨_, _, rfl, ?_, repl_rep k rv r2⟩
    by_cases e : k' = k
    · simp only [e, if_true]; exact rv
    · simp only [e, if_false]; exact r1
theorem put_rep (k : κ) {d : D} {v : V} (rv : RepV K G m d v) {ks : List κ} {ds : List D} {vs : List V} (r : RepL K G m ds vs) : RepL K G m (putXs ks ds k d) (putXs ks vs k v) := by
  unfold putXs
  split
  · exact repl_rep k rv r
  · exact r.app ⟨v, [], rfl, rv, rfl⟩
theorem zip_any (k : κ) : ∀ (ks : List κ) (vs : List V), ks.length = vs.length → ((ks.zip vs).any fun kv => decide (kv.1 = k)) = decide (k ∈ ks)
  | [], _, _ => by simp
  | k' :: ks, v :: vs, h => by
    rw [List.zip_cons_cons, List.any_cons, zip_any k ks vs (by simpa using h)]
    by_cases e : k' = k
    · simp [e]
    · have : ¬ k = k' := fun z => e z.symm
      simp [e, this]
  | _ :: _, [], h => by simp at h
theorem zip_repl (k : κ) (v : V) : ∀ (ks : List κ) (vs : List V), ks.length = vs.length → (ks.zip vs).map (fun kv => if kv.1 = k then (kv.1, v) else kv) = ks.zip (replA ks vs k v)
  | [], _, _ => rfl
  | k' :: ks, v' :: vs, h => by
    rw [List.zip_cons_cons, List.map_cons, zip_repl k v ks vs (by simpa using h)]
    by_cases e : k' = k <;> simp [replA, e]
  | _ :: _, [], h => by simp at h
theorem putK_zip (k : κ) (v : V) (ks : List κ) (vs : List V) (h : ks.length = vs.length) : putK (ks.zip vs) k v = (putKs ks k).zip (putXs ks vs k v) := by
  unfold putK putKs putXs
  rw [zip_any k ks vs h]
  by_cases e : k ∈ ks
  · simp only [e, decide_true, if_true]; exact zip_repl k v ks vs h
  · simp only [e, decide_false, if_false]
    rw [List.zip_append h]; rfl
end

/-! ### subscripts -/
def ixD : D2 := fun x y μ => match y with
  | .int i => match seqOf μ x with
    | some ds => match atI ds i with
      | some d => ok d μ
      | none => none
    | none => match x with
      | .str z => if z.length ≤ sizeLine then match atI z.cps.toList i with
          | some c => ok (.str ⟨#[c]⟩) μ
          | none => none
        else none
      | _ => match dicOf μ x with
        | some (ks, ds) => match dgetA ks ds (.inl i) with
          | some d => ok d μ
          | none => none
        | none => none
  | .str z => match dicOf μ x with
    | some (ks, ds) => match dgetA ks ds (.inr z) with
      | some d => ok d μ
      | none => none
    | none => none
  | _ => none
def rIxDic : R2 := fun x y H Q => ∃ a v, x = .ref a ∧ DGet H a y (some v) ∧ Q v H
theorem ix_dic {X : Cx} (hu : X.A.units + 1 < cLine) : IxR X rIxDic := by
  intro value slice pins s σ H x y v u Q I rx ry ⟨a, z, ex, g, q⟩ hs
  subst ex
  cases (show v = Value.ref a from rx)
  have go : wpAny (model X.prog X.w) X.A (subscripted slice false (.ref a) u) (fun r s₃ => wpAny (model X.prog X.w) X.A (letTemporaryGo value (.ref a) r >>= fun _ => pure r) (EP X pins σ Q) X.xe s₃) X.xe s := by
    rw [hs]
    exact wpAny_operating (thn (d_getItem hu I g ry fun w' s' I' rw' => (⟨z, H, I', rw', q⟩ : EP X pins σ Q w' s')) fun r s3 h3 => wpAny_bind (wpAny_letTemporaryGo (wpAny_pure h3)))
  have ty := dict_typeIs I g
  unfold PyProof.Rows.subscriptTail
  refine wpAny_bind ?_
  rw [getitemInPython_of_ne ty.not_modules]
  refine wpAny_bind (wpAny_specialOf ty PySem.F.slot_dict_getitem.lookup ?_)
  exact wpAny_pure (wpAny_bind go)
theorem RepL.atI {K : PySem.W.Frag} {G : Hp} {m : List Addr} {ds : List D} {vs : List V} (l : RepL K G m ds vs) {i : Int} {d : D} (h : L2.atI ds i = some d) : ∃ v, L2.atI vs i = some v ∧ RepV K G m d v := by
  unfold L2.atI at h ⊢
  rw [l.length]
  cases e : ixN ds.length i with
  | none => rw [e] at h; cases h
  | some j => rw [e] at h; exact l.get h
section
variable {X : Cx} {W : WX} {pos : Pos} {a b : Expr} {fa fb : DE}
theorem ped_ix (hu : X.A.units + 1 < cLine) (ha : PE X a (TD X.K W fa)) (hb : PE X b (TD X.K W fb)) (hs : PlainIx b) : PE X (.Subscript a b pos) (TD X.K W (binD ixD fa fb)) :=
  PE_imp (pe_ix (IxR.or ix_seq (ix_dic hu)) ha hb hs) (bin_imp fun dx dy vx vy σ H G m μ Q wf rx ry o => by
    unfold ixD at o
    split at o
    · rename_i i
      have ry : vy = .int i := ry
      split at o
      · rename_i ds e
        split at o
        · rename_i d e2
          obtain ⟨p, ws, rfl, q, l⟩ := seqOf_rep wf e rx
          obtain ⟨v, h1, h2⟩ := l.atI e2
          rcases q with q | q
          · exact .inl (.inl ⟨p, ws, i, v, rfl, ry, q, h1, o.get wf h2⟩)
          · exact .inl (.inr (.inl ⟨p, ws, i, v, rfl, ry, q, h1, o.get wf h2⟩))
        · exact o.elim
      · split at o
        · rename_i z _
          split at o
          · rename_i hz
            split at o
            · rename_i c e2
              exact .inl (.inr (.inr ⟨z, i, c, rx, ry, hz, e2, okA.get (a := D.str _) o wf rfl⟩))
            · exact o.elim
          · exact o.elim
        · split at o
          · rename_i ks ds e
            split at o
            · rename_i d e2
              obtain ⟨p, ws, rfl, q, hz, l⟩ := dicOf_rep wf e rx
              have g := dget_rep (K := X.K) (G := G) (m := m) (Sum.inl i : Key) (ks := ks) l
              rw [e2] at g
              obtain ⟨v, h1, h2⟩ := g
              exact .inr ⟨p, v, rfl, .inl ⟨_, .inl i, q, ry, by rw [valV_zip]; exact h1.symm⟩, o.get wf h2⟩
            · exact o.elim
          · exact o.elim
    · rename_i z
      have ry : vy = .str z := ry
      split at o
      · rename_i ks ds e
        split at o
        · rename_i d e2
          obtain ⟨p, ws, rfl, q, hz, l⟩ := dicOf_rep wf e rx
          have g := dget_rep (K := X.K) (G := G) (m := m) (Sum.inr z : Key) (ks := ks) l
          rw [e2] at g
          obtain ⟨v, h1, h2⟩ := g
          exact .inr ⟨p, v, rfl, .inl ⟨_, .inr z, q, ry, by rw [valV_zip]; exact h1.symm⟩, o.get wf h2⟩
        · exact o.elim
      · exact o.elim
    · exact o.elim)
end

/-! ### slices -/
def cutD (ds : List D) (lo hi : Option Int) : List D := (ds.drop (HT.sIx ds.length 0 lo)).take (HT.sIx ds.length ds.length hi - HT.sIx ds.length 0 lo)
theorem RepL.cut {K : PySem.W.Frag} {G : Hp} {m : List Addr} {ds : List D} {vs : List V} (l : RepL K G m ds vs) (lo hi : Option Int) : RepL K G m (cutD ds lo hi) (cutV vs lo hi) := by
  unfold cutD cutV
  rw [l.length]
  exact (l.drop _).take _
/-- one end of a slice -/
abbrev DO := Sl → Mu → R (Option Int)
def noO : DO := fun _ μ => ok none μ
def someO (f : DE) : DO := fun sl μ => bindR (f sl μ) fun d μ1 => match d with
  | .int i => ok (some i) μ1
  | _ => none
abbrev repO : Hp → List Addr → Option Int → Option Int → Prop := fun _ _ a b => a = b
abbrev TOD (K : PySem.W.Frag) (W : WX) (f : DO) : TO := T repO K W [] [] f
def slD (x : D) (lo hi : Option Int) (μ : Mu) : R D := match x with
  | .str z => if z.length ≤ sizeLine then ok (.str (cutS z lo hi)) μ else none
  | .tup ds => ok (.tup (cutD ds lo hi)) μ
  | d => match lstOf μ d with
    | some ds => ok (.lst (cutD ds lo hi)) μ
    | none => none
def sliceD (f : DE) (l h : DO) : DE := fun sl μ => bindR (f sl μ) fun d μ1 => bindR (l sl μ1) fun lo μ2 => bindR (h sl μ2) fun hi μ3 => slD d lo hi μ3
/-- a list's slice alone: a new list -/
def sliceL (f : DE) (l h : DO) : DE := fun sl μ => bindR (f sl μ) fun d μ1 => bindR (l sl μ1) fun lo μ2 => bindR (h sl μ2) fun hi μ3 => match lstOf μ3 d with
  | some ds => ok (.lst (cutD ds lo hi)) μ3
  | none => none
section
variable {X : Cx} {W : WX} {pos p2 : Pos} {e : Expr} {lo hi : Option Expr} {fe : DE} {fl fh : DO}
theorem pod_none : PO X none (TOD X.K W noO) := ⟨fun pins s σ H Q I ⟨G, m, μ, sl, wf, rs, rl, o⟩ => po_none.run pins s σ H Q I (okA.get (a := (none : Option Int)) o wf rfl)⟩
theorem pod_some {x : Expr} (h : PE X x (TD X.K W fe)) : PO X (some x) (TOD X.K W (someO fe)) := ⟨fun pins s σ H Q I q => (po_some h).run pins s σ H Q I ((T.bindV q).imp fun v H1 ⟨d, G, m, μ, sl, wf, rs, r, o⟩ => by
  cases d with
  | int i => exact ⟨i, r, okA.get (a := some i) o wf rfl⟩
  | _ => exact o.elim)⟩
theorem T.bindO {K : PySem.W.Frag} {α β : Type} {rep : Hp → List Addr → α → β → Prop} {ds : List D} {vs : List V} {fa : DO} {k : Sl → Option Int → Mu → R α} {σ : L2.St} {H : Hp} {Q : β → Hp → Prop} (h : T rep K W ds vs (fun sl μ => bindR (fa sl μ) (k sl)) σ H Q) :
    TOD K W fa σ H (fun b H1 => T rep K W ds vs (fun sl μ => k sl b μ) σ H1 Q) :=
  (T.bind (rep := repO) h).imp fun b H1 ⟨a, G, m, μ, sl, wf, rs, rl, e, o⟩ => by
    have e : a = b := e
    subst e
    exact ⟨G, m, μ, sl, wf, rs, rl, o⟩
theorem ped_slice (he : PE X e (TD X.K W fe)) (hl : PO X lo (TOD X.K W fl)) (hh : PO X hi (TOD X.K W fh)) : PE X (.Subscript e (.Slice lo hi none p2) pos) (TD X.K W (sliceD fe fl fh)) :=
  PE_imp (pe_slice (SlR.or sl_str (SlR.or sl_tupA sl_list)) he hl hh) fun σ H Q h => (T.bindD h).imp fun v H1 ⟨d, h1⟩ => (T.bindO h1).imp fun l H2 h2 => (T.bindO h2).imp fun u H3 ⟨G, m, μ, sl, wf, rs, ⟨w1, l1, e1, r, e2⟩, o⟩ => by
    cases e1; cases e2
    dsimp only at o
    unfold slD at o
    split at o
    · rename_i z _
      split at o
      · rename_i hz
        exact .inl ⟨z, r, hz, okA.get (a := D.str _) o wf rfl⟩
      · exact o.elim
    · rename_i ds _
      obtain ⟨a, ws, e1, q, rl⟩ := r
      refine .inr (.inl ⟨a, ws, e1, wf.sub.sqT q, fun ⟨z1, z2⟩ => ?_, fun _ p hp => ?_⟩)
      · have e3 : cutD ds l u = ds := by
          unfold cutD
          rw [rl.length] at z1 z2
          rw [z1, z2]
          simp
        rw [e3] at o
        exact okA.get (a := D.tup ds) o wf ⟨a, ws, rfl, q, rl⟩
      · exact o (.ref p) _ (upd G p (.tup (cutV ws l u))) m (wf.laid hp) (Step.laid wf hp) ⟨p, _, rfl, .inl (.inl upd_same), (rl.cut l u).laid (wf.gnone hp)⟩
    · split at o
      · rename_i ds e3
        obtain ⟨a, ws, e1, q, rl⟩ := lstOf_rep wf e3 r
        refine .inr (.inr ⟨a, ws, e1, q, fun p hp => ?_⟩)
        exact o (.ref p) _ (upd G p (.lst (cutV ws l u))) m (wf.laid hp) (Step.laid wf hp) ⟨p, _, rfl, .inl (.inl upd_same), (rl.cut l u).laid (wf.gnone hp)⟩
      · exact o.elim
end
section
variable {K : PySem.W.Frag} {W : WX} {σ : L2.St} {H : Hp} {Q : VK} {α β : Type}
/-- fresh outcomes behind anything -/
theorem okF.bind {rep : Hp → List Addr → α → β → Prop} {G : Hp} {m : List Addr} {μ : Mu} {r : R α} {k : α → Mu → R D} (h : okF K W σ H G m μ (bindR r k) Q) :
    okA rep K W σ H G m μ r (fun b H1 => ∃ a G1 m1 μ1, Wf K H1 G1 m1 μ1 ∧ Step H G m μ H1 G1 m1 μ1 ∧ rep G1 m1 a b ∧ okF K W σ H1 G1 m1 μ1 (k a μ1) Q) := by
  revert h
  cases r with
  | none => exact fun z => z
  | some q =>
    cases q with
    | exc x μ1 => exact fun z => z
    | ok a μ1 =>
      intro o b H1 G1 m1 wf1 st1 q
      refine ⟨a, G1, m1, μ1, wf1, st1, q, ?_⟩
      have o : okF K W σ H G m μ (k a μ1) Q := o
      revert o
      cases k a μ1 with
      | none => exact fun z => z
      | some q2 =>
        cases q2 with
        | exc x μ2 => exact fun o c dd H2 G2 m2 wf2 st2 q => o c dd H2 G2 m2 wf2 (st1.trans st2) q
        | ok d μ2 =>
          cases d with
          | lst ds => exact fun o p vs H2 G2 m2 wf2 st2 hp l => o p vs H2 G2 m2 wf2 (st1.trans st2) hp l
          | dic ks ds => exact fun o p vs H2 G2 m2 wf2 st2 hp hk l => o p vs H2 G2 m2 wf2 (st1.trans st2) hp hk l
          | dit ks ds => exact fun o p vs H2 G2 m2 wf2 st2 hp hk l => o p vs H2 G2 m2 wf2 (st1.trans st2) hp hk l
          | _ => exact fun z => z
/-- .. with temporaries -/
def TFs (K : PySem.W.Frag) (W : WX) (ds : List D) (vs : List V) (f : DE) : TE := fun σ H Q => ∃ G m μ sl, Wf K H G m μ ∧ RepS K G m sl σ ∧ RepL K G m ds vs ∧ okF K W σ H G m μ (f sl μ) Q
theorem TF.s {f : DE} (h : TF K W f σ H Q) : TFs K W [] [] f σ H Q := let ⟨G, m, μ, sl, wf, rs, o⟩ := h; ⟨G, m, μ, sl, wf, rs, rfl, o⟩
theorem TFs.bindD {ds : List D} {vs : List V} {fa : DE} {k : Sl → D → Mu → R D} (h : TFs K W ds vs (fun sl μ => bindR (fa sl μ) (k sl)) σ H Q) : TD K W fa σ H (fun v H1 => ∃ d, TFs K W (d :: ds) (v :: vs) (fun sl μ => k sl d μ) σ H1 Q) := by
  obtain ⟨G, m, μ, sl, wf, rs, rl, o⟩ := h
  exact ⟨G, m, μ, sl, wf, rs, rfl, (okF.bind (rep := repV K) o).imp fun b H1 ⟨a, G1, m1, μ1, wf1, st, q, o1⟩ => ⟨a, G1, m1, μ1, sl, wf1, st.repS rs, ⟨b, vs, rfl, q, st.repL rl⟩, o1⟩⟩
theorem TFs.bindO {ds : List D} {vs : List V} {fa : DO} {k : Sl → Option Int → Mu → R D} (h : TFs K W ds vs (fun sl μ => bindR (fa sl μ) (k sl)) σ H Q) : TOD K W fa σ H (fun b H1 => TFs K W ds vs (fun sl μ => k sl b μ) σ H1 Q) := by
  obtain ⟨G, m, μ, sl, wf, rs, rl, o⟩ := h
  refine ⟨G, m, μ, sl, wf, rs, rfl, (okF.bind (rep := repO) o).imp fun b H1 ⟨a, G1, m1, μ1, wf1, st, q, o1⟩ => ?_⟩
  have q : a = b := q
  subst q
  exact ⟨G1, m1, μ1, sl, wf1, st.repS rs, st.repL rl, o1⟩
end
section
variable {X : Cx} {W : WX} {pos p2 : Pos} {e a b : Expr} {lo hi : Option Expr} {fe fa fb : DE} {fl fh : DO}
theorem pef_slice (he : PE X e (TD X.K W fe)) (hl : PO X lo (TOD X.K W fl)) (hh : PO X hi (TOD X.K W fh)) : PE X (.Subscript e (.Slice lo hi none p2) pos) (TF X.K W (sliceL fe fl fh)) :=
  PE_imp (pe_slice sl_list he hl hh) fun σ H Q h => (TFs.bindD h.s).imp fun v H1 ⟨d, h1⟩ => (TFs.bindO h1).imp fun l H2 h2 => (TFs.bindO h2).imp fun u H3 ⟨G, m, μ, sl, wf, rs, ⟨w1, l1, e1, r, e2⟩, o⟩ => by
    cases e1; cases e2
    dsimp only at o
    split at o
    · rename_i ds e3
      obtain ⟨a, ws, e1, q, rl⟩ := lstOf_rep wf e3 r
      exact ⟨a, ws, e1, q, okF.lst o wf (rl.cut l u)⟩
    · exact o.elim
/-- + of two lists: a new list -/
theorem pef_cat (ha : PE X a (TD X.K W fa)) (hb : PE X b (TD X.K W fb)) : PE X (.BinOp a .Add b pos) (TF X.K W (binD addL fa fb)) :=
  PE_imp (pe_op op_catX ha hb) fun σ H Q h => (TFs.bindD h.s).imp fun v H1 ⟨d, h1⟩ => (TFs.bindD h1).imp fun v2 H2 ⟨d2, G, m, μ, sl, wf, rs, ⟨w1, l1, e1, r2, w2, l2, e2, r1, e3⟩, o⟩ => by
    cases e1; cases e2
    dsimp only at o
    unfold addL at o
    split at o
    · rename_i xs ys e1 e2
      split at o
      · rename_i hz
        obtain ⟨a, vs, e3, q1, l1⟩ := lstOf_rep wf e1 r1
        obtain ⟨b, ws, e4, q2, l2⟩ := lstOf_rep wf e2 r2
        exact ⟨a, b, vs, ws, e3, e4, q1, q2, by rw [l1.length, l2.length]; exact hz, okF.lst o wf (l1.app l2)⟩
      · exact o.elim
    · exact o.elim
end
end Pd
end
section
namespace Pd
open PySem PySem.Spec L2
open PySem.Sem (wp)
/-! ### zip(.., strict=b): calling it -/
abbrev kwS (b : Bool) : List (Str × Value) := [(Str.ofString "strict", .bool b)]
abbrev ZRec (h : Heap) (z TI TO : Addr) (f0 : Value) (b : Bool) : Prop := h.get? z = some { cls := .type "zip", dict := none, data := .fields #[f0, .bool false, .bool b, .ref TI, .ref TO], slots := #[] }
theorem zs_tc (b : Bool) (x y : Value) : checkTypeCall "zip" ⟨[x, y], kwS b⟩ = pure () := by kernel_rfl
theorem zs_nc (b : Bool) (x y : Value) : checkBuiltinCall "zip.__new__" ⟨[.type "zip", x, y], kwS b⟩ = pure () := by kernel_rfl
theorem zs_oc (b : Bool) (o x y : Value) : argsOk "object.__init__" ⟨[o, x, y], kwS b⟩ := by
  unfold argsOk; rw [signature?_of (id := "object.__init__") (n := ['_', '_', 't', 'i', 'n', 'i', '_', '_']) (o := ['t', 'c', 'e', 'j', 'b', 'o']) (by kernel_rfl) F.owner_object]; kernel_rfl
theorem zs_init {self : Value} {rest : List Value} {kw : List (Str × Value)} : Meets (Builtin.«object.__init__» ⟨self :: rest, kw⟩) (fun _ R s => s.TypeIs self "zip" ∧ R (.ok (.ret .none)) s) := by
  refine Meets.of_wp fun prog w A R s hs => ?_
  obtain ⟨hT, hq⟩ := hs
  have hl := F.called_zip.init.lookup
  have hm := F.called_zip.made
  have hne : (some "zip.__new__" != some "object.__new__") = true := by decide
  cases rest with
  | nil =>
    cases kw with
    | nil => exact wpAny_pure ⟨_, rfl, hq⟩
    | cons a kw =>
      repeat (any_goals (first | assumption | wp_step))
      exact ⟨_, rfl, hq⟩
  | cons a rest =>
    repeat (any_goals (first | assumption | wp_step))
    exact ⟨_, rfl, hq⟩
abbrev gyT (h : Heap) (o1 o2 : Obj) : Heap := ((h.push o1).push o2).push { cls := .type "tuple", data := .seq #[.ref h.objs.size, .ref (h.push o1).objs.size] }
abbrev gyO (h : Heap) (o1 o2 : Obj) : Heap := (gyT h o1 o2).push { cls := .type "tuple", data := .seq #[.none, .none] }
abbrev gyZ (h : Heap) (o1 o2 : Obj) (b : Bool) : Heap := (gyO h o1 o2).push { cls := .type "zip", data := .fields #[.none, .bool false, .bool b, .ref ((h.push o1).push o2).objs.size, .ref (gyT h o1 o2).objs.size] }
theorem zs_new {v1 v2 : Value} {o1 o2 : Obj} {J1 J2 : Heap → Prop} (b : Bool) (B1 : Begins v1 o1 J1) (B2 : Begins v2 o2 J2) :
    Meets (Builtin.«zip.__new__» ⟨[.type "zip", v1, v2], kwS b⟩) (fun _ R s => (J1 s.heap ∧ J2 s.heap) ∧ R (.ok (.ret (.ref (gyO s.heap o1 o2).objs.size))) { s with heap := gyZ s.heap o1 o2 b }) :=
  .of_wp fun prog w A R s hy => by
    obtain ⟨hp, g, d, tk, os⟩ := s; obtain ⟨⟨h1, h2⟩, hy⟩ := hy
    have hsub := sub_zip
    have q1 : ∀ {A' : Around} {E : Value → Shared → Prop} {Q : Value → Shared → Prop}, Q (.ref hp.objs.size) ⟨(hp.push o1), g, d, tk, os⟩ → wpAny (model prog w) A' (pyIter v1) Q E ⟨hp, g, d, tk, os⟩ :=
      fun q => B1.iter prog w _ _ ⟨hp, g, d, tk, os⟩ _ h1 q
    have q2 : ∀ {A' : Around} {E : Value → Shared → Prop} {Q : Value → Shared → Prop}, Q (.ref (hp.push o1).objs.size) ⟨((hp.push o1).push o2), g, d, tk, os⟩ → wpAny (model prog w) A' (pyIter v2) Q E ⟨(hp.push o1), g, d, tk, os⟩ :=
      fun q => B2.iter prog w _ _ ⟨(hp.push o1), g, d, tk, os⟩ _ (B2.keeps _ _ h2 fun b o' e => Heap.get?_push_of_some _ e) q
    have ht : ∀ {A' : Around} {E : Value → Shared → Prop} {Q : Bool → Shared → Prop} {s' : Shared}, Q b s' → wpAny (model prog w) A' (truthy (.bool b)) Q E s' := fun q => wpAny_pure q
    have hk : (Str.ofString "strict" != ("strict" : Str)) = false := by decide +kernel
    wp_walk using q1, q2, ht, hk
    exact ⟨_, rfl, hy⟩

section
variable {prog : Program} {w : World} {A : Around} {E : Value → Shared → Prop} {s : Shared}
theorem zs_call0 {Bn : Builtin} {args : List Value} {kw : List (Str × Value)} {S : PySem.Spec} {Q : Value → Shared → Prop} (ft : TypeCalled "zip" "zip.__new__" "object.__init__")
    (hct : checkTypeCall "zip" ⟨args, kw⟩ = pure ()) (hcn : checkBuiltinCall "zip.__new__" ⟨.type "zip" :: args, kw⟩ = pure ())
    (hoc : ∀ o, argsOk "object.__init__" ⟨o :: args, kw⟩) (eN : entryFor table "zip.__new__" = some Bn) (gN : Meets (Bn ⟨.type "zip" :: args, kw⟩) S)
    (hS : S A.in1 (wants (fun obj s1 => s1.TypeIs obj "zip" ∧ Q obj s1) E) s) : wpAny (model prog w) A (call (.type "zip") args kw) Q E s := by
  obtain ⟨c, tl, hmro⟩ := ft.mro
  have hmade := ft.made
  have hsub := ft.sub
  refine wpAny_call (codeAny_of_tree ?_)
  show wpAny _ _ (callAny (.type "zip") _) _ _ _
  refine wpAny_pure ⟨Code.quiet_builtin _ (by decide +kernel), codeAny_builtin F.entry_type_call ?_⟩
  rw [Around.under_plain rfl rfl]
  have n1 := ft.notType
  have n2 := ft.canCreate
  repeat (any_goals (first | assumption | wp_step))
  refine codeAny_mono (codeAny_call_builtin ft.plain eN (wpAny_of_eq hcn (gN prog w A.in1 _ s hS))) fun r s1 hr => ?_
  cases r with
  | error e => exact hr
  | ok fl =>
    cases fl with
    | ret obj =>
      obtain ⟨hT, hq⟩ := hr
      have hli := ft.init.lookup
      have hbi := ft.init.bind obj
      repeat (any_goals (first | assumption | wp_step))
      refine codeAny_mono (codeAny_call_builtin ft.init.plain F.entry_object_init (ft.init.check _ _ _ _ _ _ _ _ hT (hoc obj) (zs_init prog w A.in1 (wants (fun r s2 => r = .none ∧ Q obj s2) E) s1 ⟨hT, rfl, hq⟩))) fun r2 s2 hr2 => ?_
      cases r2 with
      | error e => exact hr2
      | ok fl2 =>
        cases fl2 with
        | ret r =>
          obtain ⟨rfl, hq⟩ := hr2
          repeat (any_goals (first | assumption | wp_step))
        | _ => exact hr2.elim
    | _ => exact hr.elim
theorem zs_call {v1 v2 : Value} {o1 o2 : Obj} {J1 J2 : Heap → Prop} {Q : Value → Shared → Prop} (b : Bool) (B1 : Begins v1 o1 J1) (B2 : Begins v2 o2 J2) (h1 : J1 s.heap) (h2 : J2 s.heap)
    (h : ∀ h', ZRec h' (s.heap.objs.size + 4) (s.heap.objs.size + 2) (s.heap.objs.size + 3) .none b → IsTupOf2 h' (s.heap.objs.size + 2) (.ref s.heap.objs.size) (.ref (s.heap.objs.size + 1)) →
      IsTupOf2 h' (s.heap.objs.size + 3) .none .none → h'.get? s.heap.objs.size = some o1 → h'.get? (s.heap.objs.size + 1) = some o2 → h'.objs.size = s.heap.objs.size + 5 →
      (∀ c o, s.heap.get? c = some o → h'.get? c = some o) → Q (.ref (s.heap.objs.size + 4)) { s with heap := h' }) :
    wpAny (model prog w) A (call (.type "zip") [v1, v2] (kwS b)) Q E s := by
  refine zs_call0 F.called_zip (zs_tc b v1 v2) (zs_nc b v1 v2) (fun o => zs_oc b o v1 v2) F.entry_zip_new (zs_new b B1 B2) ⟨⟨h1, h2⟩, ?_⟩
  have y1 : (s.heap.push o1).objs.size = s.heap.objs.size + 1 := by rw [Heap.size_push]
  have y2 : ((s.heap.push o1).push o2).objs.size = s.heap.objs.size + 2 := by rw [Heap.size_push, y1]
  have yT : (gyT s.heap o1 o2).objs.size = s.heap.objs.size + 3 := by rw [Heap.size_push, y2]
  have yO : (gyO s.heap o1 o2).objs.size = s.heap.objs.size + 4 := by rw [Heap.size_push, yT]
  have yZ : (gyZ s.heap o1 o2 b).objs.size = s.heap.objs.size + 5 := by rw [Heap.size_push, yO]
  have p1 {h : Heap} {o : Obj} {c : Addr} {x : Obj} (e : h.get? c = some x) : (h.push o).get? c = some x := Heap.get?_push_of_some _ e
  have gZ := Heap.get?_push_size (gyO s.heap o1 o2) (o := { cls := .type "zip", data := .fields #[.none, .bool false, .bool b, .ref ((s.heap.push o1).push o2).objs.size, .ref (gyT s.heap o1 o2).objs.size] }) rfl
  have gO := p1 (o := { cls := .type "zip", data := .fields #[.none, .bool false, .bool b, .ref ((s.heap.push o1).push o2).objs.size, .ref (gyT s.heap o1 o2).objs.size] }) (Heap.get?_push_size (gyT s.heap o1 o2) (o := { cls := .type "tuple", data := .seq #[.none, .none] }) rfl)
  have gT : (gyZ s.heap o1 o2 b).get? ((s.heap.push o1).push o2).objs.size = some { cls := .type "tuple", data := .seq #[.ref s.heap.objs.size, .ref (s.heap.push o1).objs.size] } := p1 (p1 (Heap.get?_push_size _ rfl))
  have g1 : (gyZ s.heap o1 o2 b).get? s.heap.objs.size = some o1 := p1 (p1 (p1 (p1 (Heap.get?_push_size _ B1.free))))
  have g2 : (gyZ s.heap o1 o2 b).get? (s.heap.push o1).objs.size = some o2 := p1 (p1 (p1 (Heap.get?_push_size _ B2.free)))
  have gZ : (gyZ s.heap o1 o2 b).get? (gyO s.heap o1 o2).objs.size = some { cls := .type "zip", data := .fields #[.none, .bool false, .bool b, .ref ((s.heap.push o1).push o2).objs.size, .ref (gyT s.heap o1 o2).objs.size] } := gZ
  have gO : (gyZ s.heap o1 o2 b).get? (gyT s.heap o1 o2).objs.size = some { cls := .type "tuple", data := .seq #[.none, .none] } := gO
  rw [yO, yT, y2] at gZ
  rw [yT] at gO
  rw [y2, y1] at gT
  rw [y1] at g2
  show _ ∧ _
  rw [yO]
  exact ⟨⟨_, gZ, rfl⟩, h _ gZ gT gO g1 g2 yZ fun c o e => p1 (p1 (p1 (p1 (p1 e))))⟩

/-! ### a turn of it -/
theorem nextOr_item {it : Addr} {fp : List Addr} {n i : Nat} {P : Nat → Value → Prop} {St : Nat → Heap → Prop} {Q : Option Value → Shared → Prop} (D : Draws prog w A it fp n P St) (hi : i < n) (st : St i s.heap)
    (hQ : ∀ x h' tk, P i x → St (i + 1) h' → Heap.SameBut it s.heap h' → Q (some x) { s with heap := h', toks := tk }) : wpAny (model prog w) A (Builtin.SmallTypes.nextOrEnd (.ref it)) Q E s := by
  unfold Builtin.SmallTypes.nextOrEnd
  exact wpAny_bind (wpAny_attempt (D.item i s _ _ hi st fun x h' tk a b c => wpAny_pure (hQ x h' tk a b c)))
theorem nextOr_end {it : Addr} {fp : List Addr} {n : Nat} {P : Nat → Value → Prop} {St : Nat → Heap → Prop} {Q : Option Value → Shared → Prop} (D : Draws prog w A it fp n P St) (st : St n s.heap)
    (hQ : ∀ h', Heap.ExtBut it s.heap h' → Q none { s with heap := h' }) : wpAny (model prog w) A (Builtin.SmallTypes.nextOrEnd (.ref it)) Q E s := by
  unfold Builtin.SmallTypes.nextOrEnd
  refine wpAny_bind (wpAny_attempt (D.done s _ _ st fun h' x he hx => ?_))
  obtain ⟨o, ho, hc⟩ := hx
  exact wpAny_bind (wpAny_isInstance (T := "StopIteration") (b := true) ⟨o, ho, hc⟩ isSubtype_stop (wpAny_pure (hQ _ he)))
variable {z TI TO i1 i2 : Addr} {fp1 fp2 : List Addr} {n1 n2 i : Nat} {P1 P2 : Nat → Value → Prop} {St1 St2 : Nat → Heap → Prop} {a1 a2 : Value}
theorem zs_item0 {Q : Value → Shared → Prop} (S : ZipSep2 z TI TO i1 i2 fp1 fp2) (D1 : Draws prog w A i1 fp1 n1 P1 St1) (D2 : Draws prog w A i2 fp2 n2 P2 St2)
    (hz : ZRec s.heap z TI TO .none true) (hTI : IsTupOf2 s.heap TI (.ref i1) (.ref i2)) (hTO : IsTupOf2 s.heap TO a1 a2) (st1 : St1 i s.heap) (st2 : St2 i s.heap) (lt1 : i < n1) (lt2 : i < n2)
    (hQ : ∀ x1 x2 h' tk, P1 i x1 → P2 i x2 → ZRec h' z TI TO (rawInt s.heap.objs.size) true → IsTupOf2 h' TO x1 x2 → St1 (i + 1) h' → St2 (i + 1) h' → IsTupOf2 h' s.heap.objs.size x1 x2 → h'.objs.size = s.heap.objs.size + 1 →
      (∀ c o, c ≠ z → c ≠ TO → c ≠ i1 → c ≠ i2 → s.heap.get? c = some o → h'.get? c = some o) → Q (.ref s.heap.objs.size) { s with heap := h', toks := tk }) :
    wpAny (model prog w) A (Builtin.«zip.__next__» ⟨[.ref z], []⟩) (fun fin s' => ∃ v, fin = .done (.ret v) ∧ Q v s') E s := by
  obtain ⟨hp, g, d, tk0, os⟩ := s
  show wpAny _ _ (field (.ref z) 2 >>= _) _ _ _
  apply wpAny_bind
  refine wpAny_field hz rfl (x := .bool true) rfl ?_
  show wpAny _ _ (field (.ref z) 3 >>= _) _ _ _
  apply wpAny_bind
  refine wpAny_field hz rfl (x := .ref TI) rfl ?_
  apply wpAny_bind
  refine wpAny_seqItems hTI rfl ?_
  show wpAny _ _ (Builtin.SmallTypes.ownedTupleIsFree (.ref z) >>= _) _ _ _
  apply wpAny_bind
  unfold Builtin.SmallTypes.ownedTupleIsFree
  apply wpAny_bind
  refine wpAny_field hz rfl (x := .none) rfl (wpAny_pure ?_)
  simp only [if_true]
  apply wpAny_bind
  apply wpAny_rule
  apply wpAny_bind
  refine wpAny_field hz rfl (x := .ref TO) rfl ?_
  apply wpAny_bind
  refine wpAny_setField_rec hz (by simp) fun g0 hz0 hs0 => ?_
  replace hz0 : ZRec g0 z TI TO .ellipsis true := hz0
  replace hs0 : Heap.SameBut z hp g0 := hs0
  apply wpAny_bind
  simp only [List.zipIdx_cons, List.zipIdx_nil, List.forIn_cons, List.forIn_nil]
  apply wpAny_bind
  apply wpAny_bind
  apply wpAny_onRaise
  show wpAny _ _ (Builtin.SmallTypes.nextOrEnd (.ref i1)) _ _ ⟨g0, g, d, tk0, os⟩
  refine nextOr_item D1 lt1 (D1.over st1 hs0 S.zf1) fun x1 p1 tk1 hx1 sn1 hp1 => ?_
  replace hp1 : Heap.SameBut i1 g0 p1 := hp1
  have hU1 : IsTupOf2 p1 TO a1 a2 := hp1.extBut _ _ S.Ti1 (hs0.extBut _ _ S.TOz hTO)
  apply wpAny_bind
  refine wpAny_seqItems (s := ⟨p1, g, d, tk1, os⟩) hU1 rfl ?_
  apply wpAny_bind
  refine updateSeq_IsTupOf2 (s := ⟨p1, g, d, tk1, os⟩) hU1 fun g1 hT1 hs1 => ?_
  replace hT1 : IsTupOf2 g1 TO x1 a2 := hT1
  replace hs1 : Heap.SameBut TO p1 g1 := hs1
  apply wpAny_bind
  refine wpAny_letGo (wpAny_pure ?_)
  apply wpAny_bind
  apply wpAny_bind
  apply wpAny_onRaise
  show wpAny _ _ (Builtin.SmallTypes.nextOrEnd (.ref i2)) _ _ ⟨g1, g, d, tk1, os⟩
  refine nextOr_item D2 lt2 (D2.over (D2.over (D2.over st2 hs0 S.zf2) hp1 S.sep1_2) hs1 S.Tf2) fun x2 p2 tk2 hx2 sn2 hp2 => ?_
  replace hp2 : Heap.SameBut i2 g1 p2 := hp2
  have hU2 : IsTupOf2 p2 TO x1 a2 := hp2.extBut _ _ S.Ti2 hT1
  apply wpAny_bind
  refine wpAny_seqItems (s := ⟨p2, g, d, tk2, os⟩) hU2 rfl ?_
  apply wpAny_bind
  refine updateSeq_IsTupOf2 (s := ⟨p2, g, d, tk2, os⟩) hU2 fun g2 hT2 hs2 => ?_
  replace hT2 : IsTupOf2 g2 TO x1 x2 := hT2
  replace hs2 : Heap.SameBut TO p2 g2 := hs2
  apply wpAny_bind
  refine wpAny_letGo (wpAny_pure (wpAny_pure ?_))
  apply wpAny_bind
  refine wpAny_seqItems (s := ⟨g2, g, d, tk2, os⟩) hT2 rfl ?_
  apply wpAny_bind
  refine wpAny_newTuple ?_
  have hsz : g2.objs.size = hp.objs.size := by rw [hs2.1, hp2.1, hs1.1, hp1.1, hs0.1]
  have hzz : ZRec g2 z TI TO .ellipsis true := hs2.extBut _ _ S.TOz.symm (hp2.extBut _ _ S.zi2 (hs1.extBut _ _ S.TOz.symm (hp1.extBut _ _ S.zi1 hz0)))
  have hkk : ∀ c o, c ≠ z → c ≠ TO → c ≠ i1 → c ≠ i2 → hp.get? c = some o → g2.get? c = some o := fun c o ez eT e1 e2 e =>
    hs2.extBut _ _ eT (hp2.extBut _ _ e2 (hs1.extBut _ _ eT (hp1.extBut _ _ e1 (hs0.extBut _ _ ez e))))
  have hj1 : St1 (i + 1) g2 := D1.over (D1.over (D1.over sn1 hs1 S.Tf1) hp2 S.sep2_1) hs2 S.Tf1
  have hj2 : St2 (i + 1) g2 := D2.over sn2 hs2 S.Tf2
  have hzlt : z < g2.objs.size := Heap.lt_size hzz
  show wpAny _ _ (Builtin.SmallTypes.ownedTupleHandOut (.ref z) (.ref g2.objs.size) >>= _) _ _ ⟨g2.push { cls := .type "tuple", data := .seq #[x1, x2] }, g, d, tk2, os⟩
  apply wpAny_bind
  unfold Builtin.SmallTypes.ownedTupleHandOut
  have hz6 : ZRec (g2.push { cls := .type "tuple", data := .seq #[x1, x2] }) z TI TO .ellipsis true := Heap.get?_push_of_some _ hzz
  apply wpAny_bind
  refine wpAny_setField_rec hz6 (by simp) fun h7 hz7 hs7 => ?_
  replace hz7 : ZRec h7 z TI TO (rawInt g2.objs.size) true := hz7
  refine wpAny_setField_rec hz7 (by simp) fun h8 hz8 hs8 => ?_
  replace hz8 : ZRec h8 z TI TO (rawInt g2.objs.size) true := hz8
  replace hs7 : Heap.SameBut z (g2.push { cls := .type "tuple", data := .seq #[x1, x2] }) h7 := hs7
  replace hs8 : Heap.SameBut z h7 h8 := hs8
  have up : ∀ c o, c ≠ z → g2.get? c = some o → h8.get? c = some o := fun c o c1 e => hs8.extBut _ _ c1 (hs7.extBut _ _ c1 (Heap.get?_push_of_some _ e))
  have hT8 : IsTupOf2 h8 g2.objs.size x1 x2 := hs8.extBut _ _ (Nat.ne_of_gt hzlt) (hs7.extBut _ _ (Nat.ne_of_gt hzlt) (Heap.get?_push_size _ rfl))
  have hl8 : h8.objs.size = g2.objs.size + 1 := by rw [hs8.1, hs7.1, Heap.size_push]
  rw [hsz] at hz8 hT8 hl8
  refine wpAny_pure ⟨_, rfl, ?_⟩
  show Q (.ref g2.objs.size) ⟨h8, g, d, tk2, os⟩
  rw [hsz]
  exact hQ x1 x2 h8 tk2 hx1 hx2 hz8 (up _ _ S.TOz hT2) (D1.frame _ _ _ hj1 fun b hb o e => up b o (fun q => S.zf1 (q ▸ hb)) e) (D2.frame _ _ _ hj2 fun b hb o e => up b o (fun q => S.zf2 (q ▸ hb)) e) hT8 hl8 fun c o ez eT e1 e2 e => up c o ez (hkk c o ez eT e1 e2 e)
theorem zs_end0 {Q : PySem.Fin → Shared → Prop} (hh : A.handled = none) (S : ZipSep2 z TI TO i1 i2 fp1 fp2) (D1 : Draws prog w A i1 fp1 i P1 St1) (D2 : Draws prog w A i2 fp2 i P2 St2)
    (hz : ZRec s.heap z TI TO .none true) (hTI : IsTupOf2 s.heap TI (.ref i1) (.ref i2)) (hTO : IsTupOf2 s.heap TO a1 a2) (st1 : St1 i s.heap) (st2 : St2 i s.heap)
    (hE : ∀ h' tk e, (∀ c o, c ≠ z → c ≠ TO → c ≠ i1 → c ≠ i2 → s.heap.get? c = some o → h'.get? c = some o) → (∃ o, h'.get? e = some o ∧ o.cls = .type "StopIteration") → E (.ref e) { s with heap := h', toks := tk }) :
    wpAny (model prog w) A (Builtin.«zip.__next__» ⟨[.ref z], []⟩) Q E s := by
  obtain ⟨hp, g, d, tk0, os⟩ := s
  show wpAny _ _ (field (.ref z) 2 >>= _) _ _ _
  apply wpAny_bind
  refine wpAny_field hz rfl (x := .bool true) rfl ?_
  show wpAny _ _ (field (.ref z) 3 >>= _) _ _ _
  apply wpAny_bind
  refine wpAny_field hz rfl (x := .ref TI) rfl ?_
  apply wpAny_bind
  refine wpAny_seqItems hTI rfl ?_
  show wpAny _ _ (Builtin.SmallTypes.ownedTupleIsFree (.ref z) >>= _) _ _ _
  apply wpAny_bind
  unfold Builtin.SmallTypes.ownedTupleIsFree
  apply wpAny_bind
  refine wpAny_field hz rfl (x := .none) rfl (wpAny_pure ?_)
  simp only [if_true]
  apply wpAny_bind
  apply wpAny_rule
  apply wpAny_bind
  refine wpAny_field hz rfl (x := .ref TO) rfl ?_
  apply wpAny_bind
  refine wpAny_setField_rec hz (by simp) fun g0 hz0 hs0 => ?_
  replace hz0 : ZRec g0 z TI TO .ellipsis true := hz0
  replace hs0 : Heap.SameBut z hp g0 := hs0
  apply wpAny_bind
  simp only [List.zipIdx_cons, List.zipIdx_nil, List.forIn_cons, List.forIn_nil]
  apply wpAny_bind
  apply wpAny_bind
  apply wpAny_onRaise
  show wpAny _ _ (Builtin.SmallTypes.nextOrEnd (.ref i1)) _ _ ⟨g0, g, d, tk0, os⟩
  refine nextOr_end D1 (D1.over st1 hs0 S.zf1) fun q1 hq1 => ?_
  replace hq1 : Heap.ExtBut i1 g0 q1 := hq1
  have hzq : ZRec q1 z TI TO .ellipsis true := hq1 _ _ S.zi1 hz0
  apply wpAny_bind
  refine wpAny_setField_rec (s := ⟨q1, g, d, tk0, os⟩) hzq (by simp) fun q2 _ hq2 => ?_
  replace hq2 : Heap.SameBut z q1 q2 := hq2
  have st2' : St2 i q2 := D2.over (D2.frame _ _ _ (D2.over st2 hs0 S.zf2) fun b hb o e => hq1 b o (fun q => S.sep1_2 (q ▸ hb)) e) hq2 S.zf2
  apply wpAny_bind
  apply wpAny_bind
  simp only [List.drop_succ_cons, List.drop_zero, List.zipIdx_cons, List.zipIdx_nil, List.forIn_cons, List.forIn_nil]
  apply wpAny_bind
  apply wpAny_bind
  refine nextOr_end D2 st2' fun q3 hq3 => ?_
  replace hq3 : Heap.ExtBut i2 q2 q3 := hq3
  refine wpAny_pure (wpAny_pure ?_)
  apply wpAny_bind
  apply wpAny_rule
  show wpAny _ _ (newExc (.type "StopIteration") [] >>= _) _ _ _
  apply wpAny_bind
  simp only [newExc, newTuple]
  apply wpAny_bind
  refine wpAny_newObj_type ?_ (by size_fits)
  refine wpAny_bind (m := firstArgMember _ _) (wpAny_of_eq (a := Value.none) (by simp only [firstArgMember]; rfl) ?_)
  refine wpAny_newObj_type ?_ (by size_fits)
  simp only [raiseNew]
  apply wpAny_bind
  apply wpAny_handled
  rw [hh]
  refine wpAny_bind (wpAny_pure (wpAny_throw ?_))
  exact hE _ tk0 _ (fun c o ez eT e1 e2 e => Heap.get?_push_of_some _ (Heap.get?_push_of_some _ (hq3 _ _ e2 (hq2.extBut _ _ ez (hq1 _ _ e1 (hs0.extBut _ _ ez e)))))) ⟨_, Heap.get?_push_size _ rfl, rfl⟩
end
end Pd
end
section
namespace Pd
open PySem PySem.Spec L2

/-! ### targets -/
inductive Tg where
  | nm (i : Nat) | tp (ts : List Tg)
mutual
def bindT (μ : Mu) : Tg → D → Sl → Option Sl
  | .nm i, d, sl => some (sl.set i (some d))
  | .tp ts, d, sl => match seqOf μ d with
    | some ds => bindTs μ ts ds sl
    | none => none
def bindTs (μ : Mu) : List Tg → List D → Sl → Option Sl
  | [], [], sl => some sl
  | t :: ts, d :: ds, sl => match bindT μ t d sl with
    | some sl1 => bindTs μ ts ds sl1
    | none => none
  | _, _, _ => none
end
mutual
def namesT : Tg → List Nat
  | .nm i => [i]
  | .tp ts => namesTs ts
def namesTs : List Tg → List Nat
  | [] => []
  | t :: ts => namesT t ++ namesTs ts
end
/-- what a target's store gives -/
def TG' (K : PySem.W.Frag) (t : Tg) : TG := fun v σ H Q => ∃ G m μ sl d, Wf K H G m μ ∧ RepS K G m sl σ ∧ RepV K G m d v ∧ match bindT μ t d sl with
  | some sl' => ∀ σ', RepS K G m sl' σ' → (∀ vs : List Nat, (∀ i ∈ namesT t, i ∈ vs) → wipe σ' vs = wipe σ vs) → Q σ' H
  | none => False
def TGs' (K : PySem.W.Frag) (ts : List Tg) : TGs := fun ws σ H Q => ∃ G m μ sl ds, Wf K H G m μ ∧ RepS K G m sl σ ∧ RepL K G m ds ws ∧ match bindTs μ ts ds sl with
  | some sl' => ∀ σ', RepS K G m sl' σ' → (∀ vs : List Nat, (∀ i ∈ namesTs ts, i ∈ vs) → wipe σ' vs = wipe σ vs) → Q σ' H
  | none => False
theorem wipe_set {σ : L2.St} {i : Nat} {v : Option V} : ∀ {vs : List Nat}, i ∈ vs → wipe (σ.set i v) vs = wipe σ vs
  | [], h => by simp at h
  | j :: vs, h => by
    unfold wipe
    by_cases hi : i ∈ vs
    · rw [wipe_set hi]
    · have e : i = j := by
        rcases List.mem_cons.mp h with h | h
        · exact h
        · exact absurd h hi
      subst e
      clear h
      have key : ∀ (us : List Nat), i ∉ us → wipe (σ.set i v) us = (wipe σ us).set i v := by
        intro us
        induction us with
        | nil => intro _; rfl
        | cons u us ih =>
          intro hu
          have h1 : i ≠ u := fun e => hu (by simp [e])
          have h2 : i ∉ us := fun e => hu (by simp [e])
          show (wipe (σ.set i v) us).set u none = ((wipe σ us).set u none).set i v
          rw [ih h2, List.set_comm _ _ h1]
      rw [key vs hi, List.set_set]
theorem PG_imp {X : Cx} {tg : Expr} {t t' : TG} (h : PG X tg t') (w : ∀ v σ H Q, t v σ H Q → t' v σ H Q) : PG X tg t := ⟨fun pins s σ H v u Q I r q => h.run pins s σ H v u Q I r (w v σ H Q q)⟩
theorem PGs_imp {X : Cx} {tg : List Expr} {t t' : TGs} (h : PGs X tg t') (w : ∀ v σ H Q, t v σ H Q → t' v σ H Q) : PGs X tg t := ⟨fun pins s σ H v u Q I r q => h.run pins s σ H v u Q I r (w v σ H Q q)⟩
section
variable {X : Cx} {pos : Pos}
theorem pgd_name {i : Nat} {x : Str} (hN : X.N.Nodup) (hi : X.N[i]? = some x) (hx : Loc X.env.scope x) (hf : X.fn x = true ∨ X.env.scope.names.lookup x = some .local) : PG X (.Name x pos) (TG' X.K (.nm i)) :=
  PG_imp (pg_name hN hi hx hf) fun v σ H Q ⟨G, m, μ, sl, d, wf, rs, r, q⟩ => q _ (rs.set r i) fun vs h => wipe_set (h i (by simp [namesT]))
theorem pgsd_nil : PGs X [] (TGs' X.K []) := PGs_imp pgs_nil fun ws σ H Q ⟨G, m, μ, sl, ds, wf, rs, r, q⟩ => by
  cases ds with
  | nil => cases r; exact ⟨rfl, q σ rs fun _ _ => rfl⟩
  | cons d ds => exact q.elim
theorem pgsd_cons {e : Expr} {es : List Expr} {t : Tg} {ts : List Tg} (h1 : PG X e (TG' X.K t)) (h2 : PGs X es (TGs' X.K ts)) (hs : (assignEach (e :: es) X.env).map (·.2) = assign e X.env :: (assignEach es X.env).map (·.2) := by rfl) : PGs X (e :: es) (TGs' X.K (t :: ts)) :=
  PGs_imp (pgs_cons h1 h2 hs) fun ws σ H Q ⟨G, m, μ, sl, ds, wf, rs, r, q⟩ => by
    cases ds with
    | nil => exact q.elim
    | cons d ds =>
      obtain ⟨v, w, rfl, r1, r2⟩ := r
      refine ⟨v, w, rfl, G, m, μ, sl, d, wf, rs, r1, ?_⟩
      unfold bindTs at q
      cases e1 : bindT μ t d sl with
      | none => rw [e1] at q; exact q.elim
      | some sl1 =>
        rw [e1] at q
        intro σ1 rs1 hw1
        refine ⟨G, m, μ, sl1, ds, wf, rs1, r2, ?_⟩
        dsimp only at q
        revert q
        cases bindTs μ ts ds sl1 with
        | none => exact fun z => z
        | some sl2 =>
          intro q σ2 rs2 hw2
          refine q σ2 rs2 fun vs h => ?_
          rw [hw2 vs fun i hi => h i (by simp [namesTs, hi]), hw1 vs fun i hi => h i (by simp [namesTs, hi])]
theorem pgd_tup {es : List Expr} {k : Nat} {ts : List Tg} {n : Nat} (hc : X.calm = true) (h : PGs X es (TGs' X.K ts)) (hlen : ∀ ds sl sl' μ, bindTs μ ts ds sl = some sl' → ds.length = n)
    (hn : (assignEach es X.env).length = n := by rfl) (hst : (assignEach es X.env).findIdx? (·.1) = none := by rfl) : PG X (.Tuple es k pos) (TG' X.K (.tp ts)) := by
  have ht := pg_tup (X := X) (k := k) (pos := pos) hc h hn hst
  have hl := pg_lst (X := X) (k := k) (pos := pos) hc h hn hst
  refine ⟨fun pins s σ H v u Q I r ⟨G, m, μ, sl, d, wf, rs, rv, q⟩ => ?_⟩
  unfold bindT at q
  cases e : seqOf μ d with
  | none => rw [e] at q; exact q.elim
  | some ds =>
    rw [e] at q
    dsimp only at q
    have hz : ds.length = n := by
      cases e2 : bindTs μ ts ds sl with
      | none => rw [e2] at q; exact q.elim
      | some sl' => exact hlen _ _ _ _ e2
    obtain ⟨a, ws, e1, s1, l⟩ := seqOf_rep wf e rv
    have want : TGs' X.K ts ws σ H Q := by
      refine ⟨G, m, μ, sl, ds, wf, rs, l, ?_⟩
      revert q
      cases bindTs μ ts ds sl with
      | none => exact fun z => z
      | some sl' => exact fun q => q
    rcases s1 with s1 | s1
    · exact hl.run pins s σ H v u Q I r ⟨a, ws, e1, s1, by rw [l.length]; exact hz, want⟩
    · exact ht.run pins s σ H v u Q I r ⟨a, ws, e1, s1, by rw [l.length]; exact hz, want⟩
end
theorem bindTs_len : ∀ {μ : Mu} {ts : List Tg} {ds : List D} {sl sl' : Sl}, bindTs μ ts ds sl = some sl' → ds.length = ts.length
  | _, [], [], _, _, _ => rfl
  | _, [], _ :: _, _, _, h => by cases h
  | _, _ :: _, [], _, _, h => by cases h
  | μ, t :: ts, d :: ds, sl, sl', h => by
    unfold bindTs at h
    cases e : bindT μ t d sl with
    | none => rw [e] at h; cases h
    | some sl1 => rw [e] at h; simp [bindTs_len h]

/-! ### what is walked -/
/-- the items, and what must hold of the store at each turn -/
inductive Src where
  | st (ds : List D) | ck (ds : List D) (c : Mu → Prop)
def Src.ds : Src → List D
  | .st ds => ds
  | .ck ds _ => ds
def Src.chk : Src → Mu → Prop
  | .st _, _ => True
  | .ck _ c, μ => c μ
/-- b: what is walked can't change -/
def mkSrc (b : Bool) (ds : List D) (c : Mu → Prop) : Src := match b with
  | true => .st ds
  | false => .ck ds c
def SrcOk (K : PySem.W.Frag) (G : Hp) (m : List Addr) (s : Src) (J : It) : Prop := ∀ H' G' m' μ', Wf K H' G' m' μ' → Le G G' → (∃ r, m' = m ++ r) → s.chk μ' →
  (∀ i d, s.ds[i]? = some d → J.go i H' ∧ ∀ x H2, J.yld i H' x H2 → ∃ G2, Wf K H2 G2 m' μ' ∧ Step H' G' m' μ' H2 G2 m' μ' ∧ RepV K G2 m' d x) ∧ J.stop s.ds.length H'
abbrev TIs (K : PySem.W.Frag) (W : WX) (f : Sl → Mu → R Src) : TI := T (fun G m s J => SrcOk K G m s J) K W [] [] f
theorem PI_imp {X : Cx} {tg e : Expr} {t t' : TI} (h : PI X tg e t') (w : ∀ σ H Q, t σ H Q → t' σ H Q) : PI X tg e t := ⟨fun pins s σ H Q I q => h.run pins s σ H Q I (w σ H Q q)⟩
theorem SrcOk.mono {K : PySem.W.Frag} {G G' : Hp} {m m' : List Addr} {s : Src} {J : It} (h : SrcOk K G m s J) (hg : Le G G') (hm : ∃ r, m' = m ++ r) : SrcOk K G' m' s J := fun H2 G2 m2 μ2 wf le ⟨r, e⟩ c => by
  obtain ⟨r', e'⟩ := hm
  exact h H2 G2 m2 μ2 wf (hg.trans le) ⟨r' ++ r, by rw [e, e', List.append_assoc]⟩ c
theorem SrcOk.mk {K : PySem.W.Frag} {G : Hp} {m : List Addr} {b : Bool} {ds : List D} {c : Mu → Prop} {J : It} (h : SrcOk K G m (.ck ds c) J) (hb : b = true → ∀ μ, c μ) : SrcOk K G m (mkSrc b ds c) J := by
  cases b with
  | false => exact h
  | true => exact fun H2 G2 m2 μ2 wf le e _ => h H2 G2 m2 μ2 wf le e (hb rfl μ2)
theorem Rd.lst_inj {H : Hp} {a : Addr} {xs ys : List V} (h : Rd H a (.lst xs)) (h' : Rd H a (.lst ys)) : xs = ys := by
  rcases h with h | ⟨o, h⟩ <;> rcases h' with h' | ⟨o', h'⟩
  · rw [h] at h'; cases h'; rfl
  · rw [h] at h'; cases h'
  · rw [h] at h'; cases h'
  · rw [h] at h'; cases h'; rfl
theorem getE_last {α : Type} {l : List α} {i : Nat} {x : α} (h : l[i]? = some x) : i < l.length := (List.getElem?_eq_some_iff.mp h).1
/-- over a text, sign by sign -/
def strSrc (f : DE) : Sl → Mu → R Src := fun sl μ => bindR (f sl μ) fun d μ1 => match d with
  | .str x => ok (.st (x.cps.toList.map fun c => .str ⟨#[c]⟩)) μ1
  | _ => none
def rngD (lo : Int) (n : Nat) : List D := (List.range n).map fun i => .int (lo + (i : Nat))
def rngSrc1 (f : DL) : Sl → Mu → R Src := fun sl μ => bindR (f sl μ) fun ds μ1 => match ds with
  | [.int j] => if j < 2 ^ 62 ∧ -(2 ^ 62) ≤ j then ok (.st (rngD 0 j.toNat)) μ1 else none
  | _ => none
def rngSrc2 (f : DL) : Sl → Mu → R Src := fun sl μ => bindR (f sl μ) fun ds μ1 => match ds with
  | [.int i, .int j] => if (-(2 ^ 62) ≤ i ∧ i < 2 ^ 62) ∧ -(2 ^ 62) ≤ j ∧ j < 2 ^ 62 then ok (.st (rngD i (j - i).toNat)) μ1 else none
  | _ => none
theorem rngD_get {lo : Int} {n i : Nat} {d : D} (h : (rngD lo n)[i]? = some d) : i < n ∧ d = .int (lo + (i : Nat)) := by
  unfold rngD at h
  rw [List.getElem?_map] at h
  by_cases hi : i < n
  · rw [List.getElem?_range hi] at h
    cases h
    exact ⟨hi, rfl⟩
  · rw [List.getElem?_eq_none (by simpa using hi)] at h
    cases h
theorem rng_ok {K : PySem.W.Frag} {G : Hp} {m : List Addr} (lo : Int) (n : Nat) : SrcOk K G m (.st (rngD lo n)) (Itr lo n) := fun H' G' m' μ' wf le hm _ => by
  refine ⟨fun i d h => ?_, ?_⟩
  · obtain ⟨hi, e⟩ := rngD_get h
    subst e
    refine ⟨hi, fun x H2 y => ?_⟩
    obtain ⟨e1, e2⟩ := y
    subst e1
    exact ⟨G', wf, Step.refl, e2⟩
  · show n ≤ (rngD lo n).length
    simp [rngD]
section
variable {X : Cx} {W : WX} {tg e a b : Expr} {fe : DE} {fl : DL} {p pos : Pos}
theorem pid_range1 (hg : Gl X "range") (hm : X.mg "range" = none) (ha : PA X [a] (TDs X.K W fl)) (hs : starEach [a] X.env = [(false, eval a X.env)] := by rfl) : PI X tg (.Call (.Name "range" p) [a] [] pos) (TIs X.K W (rngSrc1 fl)) :=
  PI_imp (pi_range1 hg hm ha hs) fun σ H Q h => (T.bindL h).imp fun ws H1 ⟨ds, G, m, μ, sl, wf, rs, _, rl, o⟩ => by
    split at o
    · rename_i j
      obtain ⟨v, rfl, r⟩ := repL1 rl
      split at o
      · rename_i hz
        cases r
        exact ⟨j, rfl, hz.2, hz.1, okA.get (a := Src.st (rngD 0 j.toNat)) o wf (rng_ok 0 j.toNat)⟩
      · exact o.elim
    · exact o.elim
theorem pid_range2 (hg : Gl X "range") (hm : X.mg "range" = none) (ha : PA X [a, b] (TDs X.K W fl)) (hs : starEach [a, b] X.env = [(false, eval a X.env), (false, eval b X.env)] := by rfl) (hs2 : starEach [b] X.env = [(false, eval b X.env)] := by rfl) : PI X tg (.Call (.Name "range" p) [a, b] [] pos) (TIs X.K W (rngSrc2 fl)) :=
  PI_imp (pi_range2 hg hm ha hs hs2) fun σ H Q h => (T.bindL h).imp fun ws H1 ⟨ds, G, m, μ, sl, wf, rs, _, rl, o⟩ => by
    split at o
    · rename_i i j
      obtain ⟨v, w, rfl, r, r'⟩ := repL2 rl
      split at o
      · rename_i hz
        cases r; cases r'
        exact ⟨i, j, rfl, ⟨hz.1.1, hz.1.2, hz.2.1, hz.2.2⟩, okA.get (a := Src.st (rngD i (j - i).toNat)) o wf (rng_ok i (j - i).toNat)⟩
      · exact o.elim
    · exact o.elim
theorem pid_str (he : PE X e (TD X.K W fe)) : PI X tg e (TIs X.K W (strSrc fe)) :=
  PI_imp (pi_str he) fun σ H Q h => (T.bindV h).imp fun v H1 ⟨d, G, m, μ, sl, wf, rs, r, o⟩ => by
    cases d with
    | str x =>
      refine ⟨x, r, okA.get (a := Src.st (x.cps.toList.map fun c => .str ⟨#[c]⟩)) o wf fun H' G' m' μ' wf' le hm _ => ⟨fun i d h => ?_, ?_⟩⟩
      · have h : (x.cps.toList.map fun c => D.str ⟨#[c]⟩)[i]? = some d := h
        rw [List.getElem?_map] at h
        cases ec : x.cps.toList[i]? with
        | none => rw [ec] at h; cases h
        | some c =>
          rw [ec] at h; cases h
          have ea : x.cps[i]? = some c := by simpa using ec
          refine ⟨(Array.getElem?_eq_some_iff.mp ea).1, fun y H2 z => ?_⟩
          obtain ⟨e1, c', e2, e3⟩ := z
          rw [ea] at e2; cases e2
          subst e1 e3
          exact ⟨G', wf', Step.refl, rfl⟩
      · show x.cps.size ≤ (x.cps.toList.map fun c => D.str ⟨#[c]⟩).length
        simp
    | _ => exact o.elim
end
end Pd
end
section
namespace Pd
open PySem PySem.Spec L2
open PySem.Sem (wp)
/-! ### lists and tuples alike: true a tuple, false a list -/
def ItK (t : Bool) (h : Heap) (it a : Addr) (i : Nat) : Prop := match t with
  | true => h.IsTupleIter it a i
  | false => h.IsListIter it a i
def IsK (t : Bool) (h : Heap) (a : Addr) (xs : Array Value) : Prop := match t with
  | true => h.IsTuple a xs
  | false => h.IsList a xs
def SqK (t : Bool) (K : PySem.W.Frag) (H : Hp) (a : Addr) (xs : List V) : Prop := match t with
  | true => SqT K H a xs
  | false => SqL K H a xs
def objK (t : Bool) (a : Addr) : Obj := { cls := .type (if t then "tuple_iterator" else "list_iterator"), data := .fields #[.ref a, .int 0 0] }
theorem ItK.obj {t : Bool} {h : Heap} {it a : Addr} {i : Nat} (x : ItK t h it a i) : ∃ o, h.get? it = some o ∧ ∀ v, o.data ≠ .cell v := by
  cases t <;> exact let ⟨o, e, _, d⟩ := x; ⟨o, e, fun v z => by rw [d] at z; cases z⟩
theorem ItK.at {t : Bool} {h h' : Heap} {it a : Addr} {i : Nat} (x : ItK t h it a i) (k : ∀ o, h.get? it = some o → h'.get? it = some o) : ItK t h' it a i := by
  cases t
  · exact Heap.IsListIter.at x k
  · exact Heap.IsTupleIter.at x k
theorem IsK.at {t : Bool} {h h' : Heap} {a : Addr} {xs : Array Value} (x : IsK t h a xs) (k : ∀ o, h.get? a = some o → h'.get? a = some o) : IsK t h' a xs := by
  cases t
  · exact Heap.IsList.at x k
  · exact Heap.IsTuple.at x k
theorem drawsK {prog : Program} {w : World} {A : Around} (t : Bool) (hh : A.handled = none) (it a : Addr) (hne : a ≠ it) (items : Array Value) :
    Draws prog w A it [it, a] items.size (fun i v => items[i]? = some v) (fun i h => ItK t h it a i ∧ IsK t h a items) := by
  cases t
  · exact Draws.list hh it a hne items
  · exact Draws.tuple hh it a hne items
theorem beginsK (t : Bool) (a : Addr) (items : Array Value) : Begins (.ref a) (objK t a) fun h => IsK t h a items := by
  cases t
  · exact begins_list a items
  · exact begins_tuple a items
theorem objK_it (t : Bool) {h : Heap} {it a : Addr} (e : h.get? it = some (objK t a)) : ItK t h it a 0 := by
  cases t
  · exact ⟨_, e, rfl, rfl⟩
  · exact ⟨_, e, rfl, rfl⟩
section
variable {X : Cx} {pins : List (Addr × Obj)} {σ : L2.St} {H : Hp} {s : Shared}
theorem inv_sq {t : Bool} (I : Inv X pins σ H s) {a : Addr} {xs : List V} (q : SqK t X.K H a xs) : ∃ its : List Value, Vals xs its ∧ IsK t s.heap a its.toArray ∧ a < s.heap.objs.size ∧ xs.length ≤ sizeLine := by
  cases t
  · obtain ⟨its, r, p, z⟩ := I.list q
    exact ⟨its, r, p.isList, p.lt, z⟩
  · obtain ⟨its, r, p, z⟩ := I.tuple q
    have p' : s.heap.IsTuple a its.toArray := p
    exact ⟨its, r, p', by obtain ⟨_, e, _⟩ := p'; exact Heap.lt_size e, z⟩
theorem inv_sq_inj {t : Bool} (I : Inv X pins σ H s) {a : Addr} {xs ys : List V} (h : SqK t X.K H a xs) (h' : SqK t X.K H a ys) : xs = ys := by
  cases t
  · exact I.list_inj h h'
  · exact I.tuple_inj h h'
end
theorem SqK_of {K : PySem.W.Frag} {H : Hp} {a : Addr} {xs : List V} (h : SqL K H a xs ∨ SqT K H a xs) : ∃ t, SqK t K H a xs := h.elim (fun h => ⟨false, h⟩) fun h => ⟨true, h⟩

/-! ### zip -/
def Izk (K : PySem.W.Frag) (t1 t2 : Bool) (b : Bool) (a1 a2 : Addr) : It :=
  ⟨fun i H => ∃ (xs ys : List V) (x y : V), SqK t1 K H a1 xs ∧ SqK t2 K H a2 ys ∧ xs[i]? = some x ∧ ys[i]? = some y,
    fun i H v H' => ∃ T x y, v = .ref T ∧ H T = none ∧ H' = upd H T (.tup [x, y]) ∧ (∀ xs, SqK t1 K H a1 xs → xs[i]? = some x) ∧ ∀ ys, SqK t2 K H a2 ys → ys[i]? = some y,
    fun i H => ∃ xs ys : List V, SqK t1 K H a1 xs ∧ SqK t2 K H a2 ys ∧ i ≤ xs.length ∧ i ≤ ys.length ∧ (if b = true then xs.length = i ∧ ys.length = i else xs.length = i ∨ ys.length = i)⟩
section
variable {prog : Program} {w : World} {A : Around} {E : Value → Shared → Prop} {s : Shared} {z TI TO i1 i2 : Addr} {fp1 fp2 : List Addr} {n1 n2 i : Nat} {P1 P2 : Nat → Value → Prop} {St1 St2 : Nat → Heap → Prop} {a1 a2 : Value}
theorem zb_item {Q : Option Value → Shared → Prop} (b : Bool) (S : ZipSep2 z TI TO i1 i2 fp1 fp2) (D1 : Draws prog w A.in1 i1 fp1 n1 P1 St1) (D2 : Draws prog w A.in1 i2 fp2 n2 P2 St2)
    (hz : ZRec s.heap z TI TO .none b) (hTI : IsTupOf2 s.heap TI (.ref i1) (.ref i2)) (hTO : IsTupOf2 s.heap TO a1 a2) (st1 : St1 i s.heap) (st2 : St2 i s.heap) (lt1 : i < n1) (lt2 : i < n2)
    (hQ : ∀ x1 x2 h' tk, P1 i x1 → P2 i x2 → ZRec h' z TI TO (rawInt s.heap.objs.size) b → IsTupOf2 h' TO x1 x2 → St1 (i + 1) h' → St2 (i + 1) h' → IsTupOf2 h' s.heap.objs.size x1 x2 → h'.objs.size = s.heap.objs.size + 1 →
      (∀ c o, c ≠ z → c ≠ TO → c ≠ i1 → c ≠ i2 → s.heap.get? c = some o → h'.get? c = some o) → Q (some (.ref s.heap.objs.size)) { s with heap := h', toks := tk }) :
    wpAny (model prog w) A (pyNext (.ref z)) Q E s := by
  cases b with
  | false => exact wpAny_pyNext_zipD2_item S D1 D2 hz hTI hTO st1 st2 lt1 lt2 hQ
  | true =>
    have hT : s.TypeIs (.ref z) "zip" := ⟨_, hz, rfl⟩
    unfold pyNext
    apply wpAny_bind
    apply wpAny_attempt
    refine wpAny_callSpecial?_slot (name := Str.ofString "__next__") hT F.slot_zip_next (wpAny_call_entry F.slot_zip_next hT F.entry_zip_next ?_ (F.args_zip_next_1 _))
    exact zs_item0 S D1 D2 hz hTI hTO st1 st2 lt1 lt2 fun x1 x2 h' tk y1 y2 b1 b2 d1 d2 b5 b6 b7 => wpAny_pure (hQ x1 x2 h' tk y1 y2 b1 b2 d1 d2 b5 b6 b7)
theorem zb_end {Q : Option Value → Shared → Prop} (b : Bool) (hh : A.handled = none) (S : ZipSep2 z TI TO i1 i2 fp1 fp2) (D1 : Draws prog w A.in1 i1 fp1 n1 P1 St1) (D2 : Draws prog w A.in1 i2 fp2 n2 P2 St2)
    (hz : ZRec s.heap z TI TO .none b) (hTI : IsTupOf2 s.heap TI (.ref i1) (.ref i2)) (hTO : IsTupOf2 s.heap TO a1 a2) (st1 : St1 i s.heap) (st2 : St2 i s.heap) (le1 : i ≤ n1) (le2 : i ≤ n2) (hend : if b = true then n1 = i ∧ n2 = i else n1 = i ∨ n2 = i)
    (hQ : ∀ h' tk, (∀ c o, c ≠ z → c ≠ TO → c ≠ i1 → c ≠ i2 → s.heap.get? c = some o → h'.get? c = some o) → Q none { s with heap := h', toks := tk }) : wpAny (model prog w) A (pyNext (.ref z)) Q E s := by
  cases b with
  | false => exact wpAny_pyNext_zipD2_end S D1 D2 hz hTI hTO st1 st2 le1 le2 (hend.imp Eq.symm Eq.symm) hQ
  | true =>
    obtain ⟨rfl, rfl⟩ := hend
    have hT : s.TypeIs (.ref z) "zip" := ⟨_, hz, rfl⟩
    unfold pyNext
    apply wpAny_bind
    apply wpAny_attempt
    refine wpAny_callSpecial?_slot (name := Str.ofString "__next__") hT F.slot_zip_next (wpAny_call_entry F.slot_zip_next hT F.entry_zip_next ?_ (F.args_zip_next_1 _))
    refine zs_end0 (A := A.in1) hh S D1 D2 hz hTI hTO st1 st2 fun h' tk e hk he => ?_
    obtain ⟨o, ho, hc⟩ := he
    exact wpAny_bind (wpAny_isInstance (T := "StopIteration") (b := true) ⟨o, ho, hc⟩ isSubtype_stop (wpAny_pure (hQ _ tk hk)))
theorem zb_go {elts : List Expr} {x1} {pos : Pos} {T : Addr} {b : Bool} {Q : Unit → Shared → Prop} (hz : ZRec s.heap z TI TO (rawInt T) b)
    (hQ : ∀ h', ZRec h' z TI TO .none b → Heap.SameBut z s.heap h' → Q () { s with heap := h' }) :
    wpAny (model prog w) A (letOwnedTupleGo (.Tuple elts x1 pos) (.ref z) (.ref T)) Q E s := by
  unfold letOwnedTupleGo
  apply wpAny_bind
  refine wpAny_load hz ?_
  show wpAny _ _ (if (_ && (#[rawInt T, .bool false, .bool b, .ref TI, .ref TO] : Array Value)[0]? == some (rawInt T)) = true then _ else _) Q E s
  rw [if_pos (by simp)]
  apply wpAny_bind
  apply wpAny_rule
  show wpAny _ _ (setField (.ref z) 0 .none) Q E s
  exact wpAny_setField_rec hz (by simp) fun h' hz' hs' => hQ h' hz' hs'
theorem zb_self {f0 : Value} {b : Bool} {Q : Value → Shared → Prop} (hz : ZRec s.heap z TI TO f0 b) (h : Q (.ref z) s) : wpAny (model prog w) A (pyIter (.ref z)) Q E s := by
  have hT : s.TypeIs (.ref z) "zip" := ⟨_, hz, rfl⟩
  refine wpAny_pyIter_slot hT F.slot_zip_iter (wpAny_call_entry F.slot_zip_iter hT F.entry_zip_iter ?_ (F.args_zip_iter_1 _))
  show wpAny _ _ (ret (.ref z)) _ _ s
  exact wpAny_pure ⟨_, rfl, "zip", _, hT, F.slot_zip_next.lookup, h⟩
end
theorem getE_arr {xs : List V} {its : List Value} (r : Vals xs its) {i : Nat} {x : V} (h : xs[i]? = some x) : ∃ u, its.toArray[i]? = some u ∧ RelV x u := by
  obtain ⟨u, hu, ru⟩ := r.get h
  exact ⟨u, by simpa using hu, ru⟩
theorem turn_zk {P : Program} {w : World} {K : PySem.W.Frag} {elts : List Expr} {kk : Nat} {tpos : Pos} {t1 t2 b : Bool} {a1 a2 z TI TO i1 i2 : Addr} (S : ZipSep2 z TI TO i1 i2 [i1, a1] [i2, a2]) (d1 : a1 ≠ i1) (d2 : a2 ≠ i2) :
    Turn P w K (.Tuple elts kk tpos) (Izk K t1 t2 b a1 a2) [z, TI, TO, i1, i2] z (fun i h => ZRec h z TI TO .none b ∧ IsTupOf2 h TI (.ref i1) (.ref i2) ∧ (∃ x y, IsTupOf2 h TO x y) ∧ ItK t1 h i1 a1 i ∧ ItK t2 h i2 a2 i) where
  mem := by simp
  obj := fun i h st c hc => by
    obtain ⟨hz, hTI, ⟨x, y, hTO⟩, p1, p2⟩ := st
    have e' : c = z ∨ c = TI ∨ c = TO ∨ c = i1 ∨ c = i2 := by simpa using hc
    rcases e' with q | q | q | q | q
    · rw [q]; exact ⟨_, hz, fun v q => nomatch q⟩
    · rw [q]; exact ⟨_, hTI, fun v q => nomatch q⟩
    · rw [q]; exact ⟨_, hTO, fun v q => nomatch q⟩
    · rw [q]; exact p1.obj
    · rw [q]; exact p2.obj
  keep := fun i h h' st k => by
    obtain ⟨hz, hTI, ⟨x, y, hTO⟩, p1, p2⟩ := st
    exact ⟨k z (by simp) _ hz, k TI (by simp) _ hTI, ⟨x, y, k TO (by simp) _ hTO⟩, p1.at fun o q => k i1 (by simp) o q, p2.at fun o q => k i2 (by simp) o q⟩
  item := by
    intro X hP hw hK hc i pins s σ H E I hf st hg
    subst hP hw hK
    obtain ⟨hz, hTI, ⟨x0, y0, hTO⟩, p1, p2⟩ := st
    obtain ⟨xs, ys, x, y, qx, qy, hx, hy⟩ := hg
    obtain ⟨its, rv, s1, _⟩ := inv_sq I qx
    obtain ⟨its2, rv2, s2, _⟩ := inv_sq I qy
    obtain ⟨u, hu, ru⟩ := getE_arr rv hx
    obtain ⟨u2, hu2, ru2⟩ := getE_arr rv2 hy
    have hzl : z < s.heap.objs.size := Heap.lt_size hz
    have lt1 : i < its.toArray.size := (Array.getElem?_eq_some_iff.mp hu).1
    have lt2 : i < its2.toArray.size := (Array.getElem?_eq_some_iff.mp hu2).1
    have D1 := drawsK (prog := X.prog) (w := X.w) (A := X.A.in1) t1 (I.ok.hd hc) i1 a1 d1 its.toArray
    have D2 := drawsK (prog := X.prog) (w := X.w) (A := X.A.in1) t2 (I.ok.hd hc) i2 a2 d2 its2.toArray
    refine zb_item b S D1 D2 hz hTI hTO ⟨p1, s1⟩ ⟨p2, s2⟩ lt1 lt2 fun v1 v2 h' tk y1 y2 z' TO' j1 j2 hT hsz hk => ?_
    rw [hu] at y1; cases y1
    rw [hu2] at y2; cases y2
    refine ⟨_, rfl, zb_go (s := { s with heap := h', toks := tk }) z' fun h'' z'' sb => ?_⟩
    have hT2 : h''.get? s.heap.objs.size = some { cls := .type "tuple", data := .seq #[u, u2] } := (sb.2 _ (Nat.ne_of_gt hzl)).trans hT
    have new : ObjOk X.prog X.w (upd H s.heap.objs.size (.tup [x, y])) h'' s.heap.objs.size (.tup [x, y]) :=
      ⟨by show 2 ≤ sizeLine; decide, [u, u2], .cons ru (.cons ru2 .nil), ⟨_, hT2, rfl, _, rfl⟩⟩
    have I1 : Inv X pins σ (upd H s.heap.objs.size (.tup [x, y])) { s with heap := h'', toks := tk } :=
      I.turnedNew (t' := tk) (ch := [z, TI, TO, i1, i2]) (fun c o hb q => (sb.2 c (fun q' => hb (by simp [q']))).trans (hk c o (fun q' => hb (by simp [q'])) (fun q' => hb (by simp [q'])) (fun q' => hb (by simp [q'])) (fun q' => hb (by simp [q'])) q)) hf (Nat.le_refl _) new
    have keep : ∀ c, c ≠ z → ∀ o, h'.get? c = some o → h''.get? c = some o := fun c h o q => (sb.2 _ h).trans q
    refine ⟨.ref s.heap.objs.size, _, I1, rfl, ⟨_, x, y, rfl, I.hok.fresh (Nat.le_refl _), rfl, fun l hl => by rw [inv_sq_inj I hl qx]; exact hx, fun l hl => by rw [inv_sq_inj I hl qy]; exact hy⟩, ⟨z'', ?_, ⟨u, u2, keep _ S.TOz _ TO'⟩, j1.1.at fun o q => keep _ S.zi1.symm _ q, j2.1.at fun o q => keep _ S.zi2.symm _ q⟩, fun c hcm => ?_⟩
    · exact keep _ S.TIz _ (hk _ _ S.TIz S.TITO S.TIi1 S.TIi2 hTI)
    · have hlt : c < s.heap.objs.size := by
        have e' : c = z ∨ c = TI ∨ c = TO ∨ c = i1 ∨ c = i2 := by simpa using hcm
        rcases e' with q | q | q | q | q
        · rw [q]; exact hzl
        · rw [q]; exact Heap.lt_size hTI
        · rw [q]; exact Heap.lt_size hTO
        · rw [q]; obtain ⟨_, e1, _⟩ := p1.obj; exact Heap.lt_size e1
        · rw [q]; obtain ⟨_, e2, _⟩ := p2.obj; exact Heap.lt_size e2
      rw [upd_ne (Nat.ne_of_lt hlt)]
      exact (hf c hcm).1
  done := by
    intro X hP hw hK hc i pins s σ H E I hf st hg
    subst hP hw hK
    obtain ⟨hz, hTI, ⟨x0, y0, hTO⟩, p1, p2⟩ := st
    obtain ⟨xs, ys, qx, qy, le1, le2, hend⟩ := hg
    obtain ⟨its, rv, s1, _⟩ := inv_sq I qx
    obtain ⟨its2, rv2, s2, _⟩ := inv_sq I qy
    have l1 : its.toArray.size = xs.length := by rw [List.size_toArray, rv.length]
    have l2 : its2.toArray.size = ys.length := by rw [List.size_toArray, rv2.length]
    have D1 := drawsK (prog := X.prog) (w := X.w) (A := X.A.in1) t1 (I.ok.hd hc) i1 a1 d1 its.toArray
    have D2 := drawsK (prog := X.prog) (w := X.w) (A := X.A.in1) t2 (I.ok.hd hc) i2 a2 d2 its2.toArray
    refine zb_end b (I.ok.hd hc) S D1 D2 hz hTI hTO ⟨p1, s1⟩ ⟨p2, s2⟩ (by omega) (by omega) (by rw [l1, l2]; exact hend) fun h' tk hk => ⟨rfl, I.turnedL (t' := tk) (ch := [z, TI, TO, i1, i2]) (fun c o hb q =>
      hk c o (fun q' => hb (by simp [q'])) (fun q' => hb (by simp [q'])) (fun q' => hb (by simp [q'])) (fun q' => hb (by simp [q'])) q) hf⟩
  self := fun A i s Q E st h => zb_self st.1 h
end Pd
end
section
namespace Pd
open PySem PySem.Spec L2
open PySem.Sem (wp)
/-! ### enumerate -/
abbrev enO : Addr → Obj := fun i => { cls := .type "enumerate", data := .fields #[.none, .bool false, .ref i, rawInt 0, .none, .none] }
theorem en_new {v : Value} {o : Obj} {J : Heap → Prop} (B : Begins v o J) :
    Meets (Builtin.«enumerate.__new__» ⟨[.type "enumerate", v], []⟩) (fun _ R s => J s.heap ∧ R (.ok (.ret (.ref (s.heap.push o).objs.size))) { s with heap := (s.heap.push o).push (enO s.heap.objs.size) }) :=
  .of_wp fun prog w A R s hy => by
    obtain ⟨hp, g, d, tk, os⟩ := s; obtain ⟨h1, hy⟩ := hy
    have hsub := sub_enumerate
    have q1 : ∀ {A' : Around} {E : Value → Shared → Prop} {Q : Value → Shared → Prop}, Q (.ref hp.objs.size) ⟨hp.push o, g, d, tk, os⟩ → wpAny (model prog w) A' (pyIter v) Q E ⟨hp, g, d, tk, os⟩ :=
      fun q => B.iter prog w _ _ ⟨hp, g, d, tk, os⟩ _ h1 q
    wp_walk using q1
    refine wpAny_stack_any fun st => wpAny_pure ?_
    split
    · rename_i c _ _ _ _ _
      cases (c == Value.type "enumerate") <;> (wp_walk using q1) <;> exact ⟨_, rfl, hy⟩
    · wp_walk using q1
      exact ⟨_, rfl, hy⟩
section
variable {prog : Program} {w : World} {A : Around} {E : Value → Shared → Prop} {s : Shared}
theorem en_call {v : Value} {o : Obj} {J : Heap → Prop} {Q : Value → Shared → Prop} (B : Begins v o J) (h1 : J s.heap)
    (h : ∀ h', IsEnum h' (s.heap.objs.size + 1) s.heap.objs.size 0 .none → h'.get? s.heap.objs.size = some o → (∀ b o, s.heap.get? b = some o → h'.get? b = some o) → Q (.ref (s.heap.objs.size + 1)) { s with heap := h' }) :
    wpAny (model prog w) A (call (.type "enumerate") [v]) Q E s := by
  refine callType_new F.called_enumerate (by decide) (F.typeCall_enumerate_1 _) (F.newCall_enumerate_1 _) (fun obj => F.args_object_init_2 obj _) F.entry_enumerate_new (en_new B) ⟨h1, ?_⟩
  have hz : (s.heap.push o).objs.size = s.heap.objs.size + 1 := Heap.size_push ..
  have he : IsEnum ((s.heap.push o).push (enO s.heap.objs.size)) (s.heap.objs.size + 1) s.heap.objs.size 0 .none := by
    have := Heap.get?_push_size (s.heap.push o) (o := enO s.heap.objs.size) rfl
    rw [hz] at this; exact this
  show _ ∧ _
  rw [hz]
  exact ⟨⟨_, he, rfl⟩, h _ he (Heap.get?_push_of_some _ (Heap.get?_push_size _ B.free)) fun b o x => Heap.get?_push_of_some _ (Heap.get?_push_of_some _ x)⟩
end
def Iek (K : PySem.W.Frag) (t : Bool) (a : Addr) : It :=
  ⟨fun i H => ∃ (xs : List V) (x : V), SqK t K H a xs ∧ xs[i]? = some x,
    fun i H v H' => ∃ T x, v = .ref T ∧ H T = none ∧ H' = upd H T (.tup [.int (i : Nat), x]) ∧ ∀ xs, SqK t K H a xs → xs[i]? = some x,
    fun i H => ∃ xs : List V, SqK t K H a xs ∧ xs.length = i⟩
theorem turn_ek {P : Program} {w : World} {K : PySem.W.Frag} {elts : List Expr} {kk : Nat} {tpos : Pos} {t : Bool} {a e it : Addr} (hne : e ≠ it) (hea : e ≠ a) (hai : a ≠ it) :
    Turn P w K (.Tuple elts kk tpos) (Iek K t a) [e, it] e (fun i h => (∃ old, IsEnum h e it ((i : Nat) : Int) old) ∧ ItK t h it a i) where
  mem := by simp
  obj := fun i h st b hb => by
    obtain ⟨⟨old, he⟩, p⟩ := st
    have e' : b = e ∨ b = it := by simpa using hb
    rcases e' with z | z
    · rw [z]; exact ⟨_, he, fun v q => nomatch q⟩
    · rw [z]; exact p.obj
  keep := fun i h h' st k => let ⟨⟨old, he⟩, p⟩ := st; ⟨⟨old, k e (by simp) _ he⟩, p.at fun o q => k it (by simp) o q⟩
  item := by
    intro X hP hw hK hc i pins s σ H E I hf st hg
    subst hP hw hK
    obtain ⟨⟨old, he⟩, p⟩ := st
    obtain ⟨xs, x, qx, hx⟩ := hg
    obtain ⟨its, rv, s1, _⟩ := inv_sq I qx
    obtain ⟨u, hu, ru⟩ := getE_arr rv hx
    have hel : e < s.heap.objs.size := Heap.lt_size he
    have hil : it < s.heap.objs.size := by obtain ⟨_, q, _⟩ := p.obj; exact Heap.lt_size q
    have lt1 : i < its.toArray.size := (Array.getElem?_eq_some_iff.mp hu).1
    have D1 := drawsK (prog := X.prog) (w := X.w) (A := X.A.in1) t (I.ok.hd hc) it a hai its.toArray
    refine wpAny_pyNext_enum_itemD D1 he ⟨p, s1⟩ lt1 hne (by simp [hne, hea]) fun v h' tk y ho j hT hsz hk => ?_
    rw [hu] at y; cases y
    refine ⟨_, rfl, wpAny_letOwnedTupleGo_enum (s := { s with heap := h', toks := tk + 1 }) ho fun h'' he' sb => ?_⟩
    have hT2 : h''.get? s.heap.objs.size = some { cls := .type "tuple", data := .seq #[.int i tk, u] } := (sb.2 _ (Nat.ne_of_gt hel)).trans hT
    have new : ObjOk X.prog X.w (upd H s.heap.objs.size (.tup [.int (i : Nat), x])) h'' s.heap.objs.size (.tup [.int (i : Nat), x]) :=
      ⟨by show 2 ≤ sizeLine; decide, [.int i tk, u], .cons ⟨_, rfl⟩ (.cons ru .nil), ⟨_, hT2, rfl, _, rfl⟩⟩
    have I1 : Inv X pins σ (upd H s.heap.objs.size (.tup [.int (i : Nat), x])) { s with heap := h'', toks := tk + 1 } :=
      I.turnedNew (ch := [e, it]) (fun b ob hb q => (sb.2 b (fun z => hb (by simp [z]))).trans (hk b ob (fun z => hb (by simp [z])) (fun z => hb (by simp [z])) q)) hf (Nat.le_refl _) new
    refine ⟨.ref s.heap.objs.size, _, I1, rfl, ⟨_, x, rfl, I.hok.fresh (Nat.le_refl _), rfl, fun l hl => by rw [inv_sq_inj I hl qx]; exact hx⟩, ⟨⟨u, ?_⟩, j.1.at fun o q => (sb.2 it hne.symm).trans q⟩, fun b hb => ?_⟩
    · have e1 : ((i + 1 : Nat) : Int) = (i : Int) + 1 := by omega
      rw [e1]; exact he'
    · have hb' : b < s.heap.objs.size := by
        have e' : b = e ∨ b = it := by simpa using hb
        rcases e' with z | z
        · rw [z]; exact hel
        · rw [z]; exact hil
      rw [upd_ne (Nat.ne_of_lt hb')]
      exact (hf b hb).1
  done := by
    intro X hP hw hK hc i pins s σ H E I hf st hg
    subst hP hw hK
    obtain ⟨⟨old, he⟩, p⟩ := st
    obtain ⟨xs, qx, hx⟩ := hg
    obtain ⟨its, rv, s1, _⟩ := inv_sq I qx
    obtain ⟨f0, f1, f2, f3, f4, f5⟩ := hf it (by simp)
    have l1 : its.toArray.size = i := by rw [List.size_toArray, ← rv.length]; exact hx
    have D1 := drawsK (prog := X.prog) (w := X.w) (A := X.A.in1) t (I.ok.hd hc) it a hai its.toArray
    rw [l1] at D1
    exact wpAny_pyNext_enum_endD D1 he ⟨p, s1⟩ fun h' eb => ⟨rfl, I.turned (t' := s.toks) (fun b o hb q => eb b o hb q) f0 f1 f3 f4 f5⟩
  self := fun A i s Q E st h => let ⟨⟨_, he⟩, _⟩ := st; wpAny_pyIter_enum he h

/-! ### as sources -/
def ckS (d : D) (ds : List D) : Mu → Prop := fun μ => seqOf μ d = some ds
/-- what the store does not touch -/
def fixD : D → Bool
  | .ref _ => false
  | _ => true
theorem fixD.ck {d : D} {ds : List D} {μ : Mu} (h : fixD d = true) (e : seqOf μ d = some ds) (μ' : Mu) : ckS d ds μ' := by
  cases d with
  | ref l => cases h
  | _ => exact e
/-- over a list or a tuple -/
def seqSrc' (f : DE) : Sl → Mu → R Src := fun sl μ => bindR (f sl μ) fun d μ1 => match seqOf μ1 d with
  | some ds => ok (mkSrc (fixD d) ds (ckS d ds)) μ1
  | none => none
def zipD (xs ys : List D) : List D := List.zipWith (fun x y => D.tup [x, y]) xs ys
def zipSrc (b : Bool) (f : DL) : Sl → Mu → R Src := fun sl μ => bindR (f sl μ) fun ds μ1 => match ds with
  | [x, y] => match seqOf μ1 x, seqOf μ1 y with
    | some xs, some ys => if b = true → xs.length = ys.length then ok (mkSrc (fixD x && fixD y) (zipD xs ys) fun μ => ckS x xs μ ∧ ckS y ys μ) μ1 else none
    | _, _ => none
  | _ => none
def enumF : Nat → List D → List D
  | _, [] => []
  | i, d :: ds => .tup [.int (i : Nat), d] :: enumF (i + 1) ds
def enSrc (f : DE) : Sl → Mu → R Src := fun sl μ => bindR (f sl μ) fun d μ1 => match seqOf μ1 d with
  | some ds => ok (mkSrc (fixD d) (enumF 0 ds) (ckS d ds)) μ1
  | none => none
theorem enumF_get : ∀ {ds : List D} {k i : Nat}, (enumF k ds)[i]? = (ds[i]?).map fun d => D.tup [.int ((k + i : Nat) : Nat), d]
  | [], _, _ => rfl
  | d :: ds, k, 0 => rfl
  | d :: ds, k, i + 1 => by
    show (enumF (k + 1) ds)[i]? = _
    rw [enumF_get, List.getElem?_cons_succ]
    have : k + 1 + i = k + (i + 1) := by omega
    rw [this]
theorem enumF_len : ∀ {ds : List D} {k : Nat}, (enumF k ds).length = ds.length
  | [], _ => rfl
  | d :: ds, k => by simp [enumF, enumF_len]
section
variable {K : PySem.W.Frag} {H G : Hp} {m : List Addr} {μ : Mu}
theorem seqOf_k (wf : Wf K H G m μ) {d : D} {v : V} {ds : List D} (h : seqOf μ d = some ds) (r : RepV K G m d v) : ∃ t a vs, v = .ref a ∧ SqK t K H a vs ∧ RepL K G m ds vs := by
  obtain ⟨a, vs, e, q, l⟩ := seqOf_rep wf h r
  obtain ⟨t, q⟩ := SqK_of q
  exact ⟨t, a, vs, e, q, l⟩
/-- the kind is the datum's own -/
def kdOf : D → Bool
  | .tup _ => true
  | _ => false
theorem seqOf_kd (wf : Wf K H G m μ) {d : D} {a : Addr} {ds : List D} (h : seqOf μ d = some ds) (r : RepV K G m d (.ref a)) : ∃ vs, SqK (kdOf d) K H a vs ∧ RepL K G m ds vs := by
  cases d with
  | tup xs =>
    cases h
    obtain ⟨a', vs, e, q, l⟩ := r
    cases e
    exact ⟨vs, wf.sub.sqT q, l⟩
  | lst xs =>
    obtain ⟨a', vs, e, q, l⟩ := lstOf_rep wf (d := .lst xs) h r
    cases e
    exact ⟨vs, q, l⟩
  | ref l =>
    obtain ⟨a', vs, e, q, l⟩ := lstOf_rep wf (d := .ref l) h r
    cases e
    exact ⟨vs, q, l⟩
  | _ => cases h
theorem seqOf_ref (wf : Wf K H G m μ) {d : D} {v : V} {ds : List D} (h : seqOf μ d = some ds) (r : RepV K G m d v) : ∃ a, v = .ref a := by
  obtain ⟨a, vs, e, _⟩ := seqOf_rep wf h r
  exact ⟨a, e⟩
theorem step_pair (wf : Wf K H G m μ) {p : Addr} (hp : H p = none) {x y : D} {u v : V} (ru : RepV K G m x u) (rv : RepV K G m y v) :
    Wf K (upd H p (.tup [u, v])) (upd G p (.tup [u, v])) m μ ∧ Step H G m μ (upd H p (.tup [u, v])) (upd G p (.tup [u, v])) m μ ∧ RepV K (upd G p (.tup [u, v])) m (.tup [x, y]) (.ref p) := by
  refine ⟨wf.laid hp, Step.laid wf hp, p, [u, v], rfl, .inl (.inl upd_same), ?_⟩
  exact (show RepL K G m [x, y] [u, v] from ⟨u, [v], rfl, ru, v, [], rfl, rv, rfl⟩).laid (wf.gnone hp)
end
theorem getE_end {α : Type} {l : List α} {i : Nat} (h : i = l.length) : l[i]? = none := by rw [List.getElem?_eq_none_iff]; omega
section
variable {X : Cx} {W : WX} {tg e a b : Expr} {fe : DE} {fl : DL} {p pos tpos : Pos} {elts : List Expr} {kk : Nat}
theorem srcok_seq {K : PySem.W.Frag} {H G : Hp} {m : List Addr} {μ : Mu} {d : D} {ds : List D} {a : Addr} (r : RepV K G m d (.ref a)) (J : It) (hJ : (kdOf d = true ∧ J = Itt K a) ∨ (kdOf d = false ∧ J = Itl K a)) (inj : ∀ H xs ys, SqK (kdOf d) K H a xs → SqK (kdOf d) K H a ys → True) : SrcOk K G m (.ck ds (ckS d ds)) J := by
  intro H' G' m' μ' wf le ⟨r', em⟩ ck
  subst em
  have r2 : RepV K G' (m ++ r') d (.ref a) := r.mono le
  obtain ⟨vs, q, l⟩ := seqOf_kd wf ck r2
  have st : (∀ i x, vs[i]? = some x → J.go i H' ∧ ∀ y H2, J.yld i H' y H2 → H2 = H' ∧ y = x) ∧ J.stop vs.length H' := by
    rcases hJ with ⟨e, rfl⟩ | ⟨e, rfl⟩
    · rw [e] at q
      exact ⟨fun i x hx => ⟨⟨vs, x, q, hx⟩, fun y H2 z => ⟨z.1, by have := z.2 vs q; rw [hx] at this; cases this; rfl⟩⟩, ⟨vs, q, Nat.le_refl _⟩⟩
    · rw [e] at q
      exact ⟨fun i x hx => ⟨⟨vs, x, q, hx⟩, fun y H2 z => ⟨z.1, by have := z.2 vs q; rw [hx] at this; cases this; rfl⟩⟩, ⟨vs, q, Nat.le_refl _⟩⟩
  refine ⟨fun i d' hd => ?_, by show J.stop ds.length H'; rw [← l.length]; exact st.2⟩
  obtain ⟨x, hx, rx⟩ := l.get hd
  refine ⟨(st.1 i x hx).1, fun y H2 z => ?_⟩
  obtain ⟨e1, e2⟩ := (st.1 i x hx).2 y H2 z
  subst e1 e2
  exact ⟨G', wf, Step.refl, rx⟩
theorem pid_seq (he : PE X e (TD X.K W fe)) : PI X tg e (TIs X.K W (seqSrc' fe)) := by
  refine ⟨fun pins s σ H R I h => ?_⟩
  obtain ⟨G, m, μ, sl, wf, rs, rl, o⟩ := h
  have o : okA _ X.K W σ H G m μ (bindR (fe sl μ) _) R := o
  by_cases c : ∃ d μ1 ds, fe sl μ = some (.ok d μ1) ∧ seqOf μ1 d = some ds
  · obtain ⟨d, μ1, ds, e1, e2⟩ := c
    have key : ∀ v H' G' m', Wf X.K H' G' m' μ1 → Step H G m μ H' G' m' μ1 → RepV X.K G' m' d v → ∃ a, v = .ref a ∧ (∃ vs, SqK (kdOf d) X.K H' a vs) ∧ ∀ J : It, ((kdOf d = true ∧ J = Itt X.K a) ∨ (kdOf d = false ∧ J = Itl X.K a)) → R J H' := fun v H' G' m' wf' st r => by
      obtain ⟨a, rfl⟩ := seqOf_ref wf' e2 r
      obtain ⟨vs, q, l⟩ := seqOf_kd wf' e2 r
      refine ⟨a, rfl, ⟨vs, q⟩, fun J hJ => ?_⟩
      rw [e1] at o
      have o : okA _ X.K W σ H G m μ (match seqOf μ1 d with | some ds => ok (mkSrc (fixD d) ds (ckS d ds)) μ1 | none => none) R := o
      rw [e2] at o
      exact o J H' G' m' wf' st ((srcok_seq (H := H') (μ := μ1) r J hJ fun _ _ _ _ _ => trivial).mk fun h => fixD.ck h e2)
    cases ek : kdOf d with
    | true =>
      refine (pi_tup he).run pins s σ H R I ⟨G, m, μ, sl, wf, rs, rl, ?_⟩
      rw [e1]
      intro v H' G' m' wf' st r
      obtain ⟨a, rfl, ⟨vs, q⟩, k⟩ := key v H' G' m' wf' st r
      rw [ek] at q k
      exact ⟨a, rfl, ⟨vs, q⟩, k _ (.inl ⟨rfl, rfl⟩)⟩
    | false =>
      refine (pi_list he).run pins s σ H R I ⟨G, m, μ, sl, wf, rs, rl, ?_⟩
      rw [e1]
      intro v H' G' m' wf' st r
      obtain ⟨a, rfl, ⟨vs, q⟩, k⟩ := key v H' G' m' wf' st r
      rw [ek] at q k
      exact ⟨a, rfl, ⟨vs, q⟩, k _ (.inr ⟨rfl, rfl⟩)⟩
  · refine (pi_list he).run pins s σ H R I ⟨G, m, μ, sl, wf, rs, rl, ?_⟩
    revert o c
    cases fe sl μ with
    | none => exact fun z _ => z
    | some q =>
      cases q with
      | exc x μ1 => exact fun z _ => z
      | ok d μ1 =>
        intro o c
        have o : okA _ X.K W σ H G m μ (match seqOf μ1 d with | some ds => ok (mkSrc (fixD d) ds (ckS d ds)) μ1 | none => none) R := o
        cases e2 : seqOf μ1 d with
        | none => rw [e2] at o; exact o.elim
        | some ds => exact absurd ⟨d, μ1, ds, rfl, e2⟩ c

/-- zip of what two data are -/
theorem srcok_zip {K : PySem.W.Frag} {G : Hp} {m : List Addr} {b : Bool} {x y : D} {xs ys : List D} {a1 a2 : Addr} (hb : b = true → xs.length = ys.length) (r1 : RepV K G m x (.ref a1)) (r2 : RepV K G m y (.ref a2)) : SrcOk K G m (.ck (zipD xs ys) fun μ => ckS x xs μ ∧ ckS y ys μ) (Izk K (kdOf x) (kdOf y) b a1 a2) := by
  intro H' G' m' μ' wf le ⟨r', em⟩ ck
  subst em
  obtain ⟨us, q1, l1⟩ := seqOf_kd wf ck.1 (r1.mono (r := r') le)
  obtain ⟨ws, q2, l2⟩ := seqOf_kd wf ck.2 (r2.mono (r := r') le)
  refine ⟨fun i d hd => ?_, ⟨us, ws, q1, q2, ?_⟩⟩
  · have hd : (List.zipWith (fun x y => D.tup [x, y]) xs ys)[i]? = some d := hd
    rw [List.getElem?_zipWith] at hd
    cases ex : xs[i]? with
    | none => rw [ex] at hd; cases hd
    | some dx =>
      cases ey : ys[i]? with
      | none => rw [ex, ey] at hd; cases hd
      | some dy =>
        rw [ex, ey] at hd; cases hd
        obtain ⟨u, hu, ru⟩ := l1.get ex
        obtain ⟨w, hw, rw_⟩ := l2.get ey
        refine ⟨⟨us, ws, u, w, q1, q2, hu, hw⟩, fun v H2 z => ?_⟩
        obtain ⟨T, u', w', rfl, hT, rfl, f1, f2⟩ := z
        have e1 := f1 us q1
        have e2 := f2 ws q2
        rw [hu] at e1; cases e1
        rw [hw] at e2; cases e2
        exact ⟨_, step_pair wf hT ru rw_⟩
  · show (zipD xs ys).length ≤ _ ∧ (zipD xs ys).length ≤ _ ∧ _
    have e : (zipD xs ys).length = min xs.length ys.length := by simp [zipD]
    show _ ∧ _ ∧ (if b = true then us.length = (zipD xs ys).length ∧ ws.length = (zipD xs ys).length else us.length = (zipD xs ys).length ∨ ws.length = (zipD xs ys).length)
    rw [e, l1.length, l2.length]
    refine ⟨by omega, by omega, ?_⟩
    split
    · rename_i h
      have := hb h
      omega
    · omega
theorem srcok_en {K : PySem.W.Frag} {G : Hp} {m : List Addr} {x : D} {xs : List D} {a : Addr} (r1 : RepV K G m x (.ref a)) : SrcOk K G m (.ck (enumF 0 xs) (ckS x xs)) (Iek K (kdOf x) a) := by
  intro H' G' m' μ' wf le ⟨r', em⟩ ck
  subst em
  obtain ⟨us, q1, l1⟩ := seqOf_kd wf ck (r1.mono (r := r') le)
  refine ⟨fun i d hd => ?_, ⟨us, q1, by show us.length = (enumF 0 xs).length; rw [enumF_len, l1.length]⟩⟩
  have hd : (enumF 0 xs)[i]? = some d := hd
  rw [enumF_get] at hd
  cases ex : xs[i]? with
  | none => rw [ex] at hd; cases hd
  | some dx =>
    rw [ex] at hd; cases hd
    obtain ⟨u, hu, ru⟩ := l1.get ex
    refine ⟨⟨us, u, q1, hu⟩, fun v H2 z => ?_⟩
    obtain ⟨T, u', rfl, hT, rfl, f1⟩ := z
    have e1 := f1 us q1
    rw [hu] at e1; cases e1
    rw [Nat.zero_add]
    exact ⟨_, step_pair wf hT (x := D.int (i : Nat)) rfl ru⟩
theorem sep2 (n a b : Addr) (h1 : a < n) (h2 : b < n) : ZipSep2 (n + 4) (n + 2) (n + 3) n (n + 1) [n, a] [n + 1, b] := zip_sep2 (fp1 := [a]) (fp2 := [b]) (fun x hx => by simp at hx; subst hx; exact h1) (fun x hx => by simp at hx; subst hx; exact h2)
theorem zip_run {pins : List (Addr × Obj)} {σ : L2.St} {H : Hp} {s : Shared} {R : It → Hp → Prop} {t1 t2 b : Bool} {a1 a2 : Addr} {xs ys : List V} {kw : List (Str × Value)} (I : Inv X pins σ H s) (qx : SqK t1 X.K H a1 xs) (qy : SqK t2 X.K H a2 ys) (hkw : (b = false ∧ kw = []) ∨ kw = kwS b)
    (q : R (Izk X.K t1 t2 b a1 a2) H) : wpAny (model X.prog X.w) X.A (call (.type "zip") [.ref a1, .ref a2] kw) (fun v s1 => wpAny (model X.prog X.w) X.A (pyIter v) (PIE X pins σ (.Tuple elts kk tpos) R) X.xe s1) X.xe s := by
  obtain ⟨its, rv, p1, la, _⟩ := inv_sq I qx
  obtain ⟨its2, rv2, p2, lb, _⟩ := inv_sq I qy
  have fin : ∀ h', ZRec h' (s.heap.objs.size + 4) (s.heap.objs.size + 2) (s.heap.objs.size + 3) .none b → IsTupOf2 h' (s.heap.objs.size + 2) (.ref s.heap.objs.size) (.ref (s.heap.objs.size + 1)) →
      IsTupOf2 h' (s.heap.objs.size + 3) .none .none → h'.get? s.heap.objs.size = some (objK t1 a1) → h'.get? (s.heap.objs.size + 1) = some (objK t2 a2) → h'.objs.size = s.heap.objs.size + 5 →
      (∀ c o, s.heap.get? c = some o → h'.get? c = some o) → wpAny (model X.prog X.w) X.A (pyIter (.ref (s.heap.objs.size + 4))) (PIE X pins σ (.Tuple elts kk tpos) R) X.xe { s with heap := h' } := fun h' hz hTI hTO g1 g2 hsz hk => by
    refine zb_self (s := { s with heap := h' }) hz ?_
    have I2 : Inv X pins σ H { s with heap := h' } := I.kept (t' := s.toks) hk
    refine ⟨s.heap.objs.size + 4, [s.heap.objs.size + 4, s.heap.objs.size + 2, s.heap.objs.size + 3, s.heap.objs.size, s.heap.objs.size + 1], _, _, H, rfl, I2, turn_zk (sep2 _ a1 a2 la lb) (Nat.ne_of_lt la) (Nat.ne_of_lt (Nat.lt_succ_of_lt lb)), ⟨hz, hTI, ⟨_, _, hTO⟩, objK_it t1 g1, objK_it t2 g2⟩, fun c hcm => ?_, q⟩
    have e' : c = s.heap.objs.size + 4 ∨ c = s.heap.objs.size + 2 ∨ c = s.heap.objs.size + 3 ∨ c = s.heap.objs.size ∨ c = s.heap.objs.size + 1 := by simpa using hcm
    have hle : s.heap.objs.size ≤ c := by
      rcases e' with z | z | z | z | z <;> rw [z] <;> first | exact Nat.le_refl _ | exact Nat.le_add_right _ _
    exact I.fpOk hle (I.hok.fresh hle)
  rcases hkw with ⟨rfl, rfl⟩ | rfl
  · exact zip_begins2 (beginsK t1 a1 its.toArray) (beginsK t2 a2 its2.toArray) p1 p2 fin
  · exact zs_call b (beginsK t1 a1 its.toArray) (beginsK t2 a2 its2.toArray) p1 p2 fin
def iZk (K : PySem.W.Frag) (b : Bool) (ta : TA) : TI := fun σ H R => ta σ H fun vs H1 => ∃ t1 t2 a1 a2 xs ys, vs = [.ref a1, .ref a2] ∧ SqK t1 K H1 a1 xs ∧ SqK t2 K H1 a2 ys ∧ R (Izk K t1 t2 b a1 a2) H1
theorem pi_zk {ta : TA} {e2 : Expr} (hg : Gl X "zip") (hm : X.mg "zip" = none) (ha : PA X [e, e2] ta)
    (hs : starEach [e, e2] X.env = (false, eval e X.env) :: starEach [e2] X.env := by rfl) (hpl : (backTo pos (starEach [e2] X.env)).any (·.1) = false := by rfl) :
    PI X (.Tuple elts kk tpos) (.Call (.Name "zip" p) [e, e2] [] pos) (iZk X.K false ta) := by
  refine ⟨fun pins s σ H R I h => ?_⟩
  refine PyProof.Rows.Call_ (ld_blt I hg hm PyProof.Rows.boot_zip (PyProof.Rows.callWith_type1 (thn (ha.run pos pins s σ H _ I h) fun us s1 ⟨vs, H1, I1, r1, t1, t2, a1, a2, xs, ys, ex, qx, qy, q⟩ => ?_) hs hpl))
  subst ex
  obtain ⟨u1, u2, rfl, e1, e2⟩ := vals2 r1
  obtain rfl : u1 = Value.ref a1 := e1
  obtain rfl : u2 = Value.ref a2 := e2
  exact zip_run I1 qx qy (.inl ⟨rfl, rfl⟩) q
theorem zip_imp (b : Bool) (σ : L2.St) (H : Hp) (R : It → Hp → Prop) (h : TIs X.K W (zipSrc b fl) σ H R) : iZk X.K b (TDs X.K W fl) σ H R :=
  (T.bindL h).imp fun ws H1 ⟨ds, G, m, μ, sl, wf, rs, _, rl, o⟩ => by
    split at o
    · rename_i x y
      obtain ⟨v, w, rfl, r, r'⟩ := repL2 rl
      split at o
      · rename_i xs ys e1 e2
        split at o
        · rename_i hb
          obtain ⟨a1, rfl⟩ := seqOf_ref wf e1 r
          obtain ⟨a2, rfl⟩ := seqOf_ref wf e2 r'
          obtain ⟨us, q1, _⟩ := seqOf_kd wf e1 r
          obtain ⟨ws, q2, _⟩ := seqOf_kd wf e2 r'
          exact ⟨_, _, a1, a2, us, ws, rfl, q1, q2, okA.get o wf ((srcok_zip hb r r').mk fun h μ => by simp only [Bool.and_eq_true] at h; exact ⟨fixD.ck h.1 e1 μ, fixD.ck h.2 e2 μ⟩)⟩
        · exact o.elim
      · exact o.elim
    · exact o.elim
theorem pid_zip {e2 : Expr} (hg : Gl X "zip") (hm : X.mg "zip" = none) (ha : PA X [e, e2] (TDs X.K W fl))
    (hs : starEach [e, e2] X.env = (false, eval e X.env) :: starEach [e2] X.env := by rfl) (hpl : (backTo pos (starEach [e2] X.env)).any (·.1) = false := by rfl) :
    PI X (.Tuple elts kk tpos) (.Call (.Name "zip" p) [e, e2] [] pos) (TIs X.K W (zipSrc false fl)) := PI_imp (pi_zk hg hm ha hs hpl) (zip_imp false)
/-- .. with strict=True -/
theorem callWith_tyKw {M : Model} {A : Around} {E : Value → Shared → Prop} {s : Shared} {env : Env} {T : String} {rest : List Expr} {kws : List Keyword} {Q : Value → Shared → Prop}
    (h : wpAny M A (spliced (backTo pos (starEach (e :: rest) env))) (fun vs s1 => wpAny M A (evalAll ((backToKw pos (keywordEach kws env)).map (·.2)))
      (fun kvs s2 => wpAny M A (call (.type T) vs (((backToKw pos (keywordEach kws env)).filterMap (·.1)).zip kvs)) Q E s2) E s1) E s)
    (he : backTo pos (starEach (e :: rest) env) = (false, eval e env) :: backTo pos (starEach rest env) := by rfl) (hplain : (backTo pos (starEach (e :: rest) env)).any (·.1) = false := by rfl)
    (hall : (backToKw pos (keywordEach kws env)).all (·.1.isSome) = true := by rfl) (hkw : (backToKw pos (keywordEach kws env)).any (·.1.isNone) = false := by rfl) :
    wpAny M A (callWith pos (.type T) [] (backTo pos (starEach (e :: rest) env)) (backToKw pos (keywordEach kws env))) Q E s := by
  unfold callWith
  have h1 : wpAny M A (evalArgs (.type T) true (backTo pos (starEach (e :: rest) env)) (backToKw pos (keywordEach kws env))) (fun a s1 => wpAny M A (call (.type T) a.pos a.kw) Q E s1) E s := by
    rw [he] at h ⊢
    exact PyProof.Rows.evalArgs_kwB hall h
  refine wpAny_bind (wpAny_holding (wpAny_mono h1 (fun a s1 h2 => ?_) fun _ _ x => x))
  apply wpAny_bind
  refine wpAny_standAt ?_
  simp only [hplain, hkw, Bool.or_false]
  apply wpAny_bind
  refine wpAny_pure ?_
  exact wpAny_bind (wpAny_mono h2 (fun r s2 hr => wpAny_bind (wpAny_holding (wpAny_point (wpAny_pure hr)))) fun _ _ x => x)
theorem pid_zipS {e2 : Expr} {j} {p3 kp : Pos} (hg : Gl X "zip") (hm : X.mg "zip" = none) (ha : PA X [e, e2] (TDs X.K W fl))
    (he : backTo pos (starEach [e, e2] X.env) = (false, eval e X.env) :: backTo pos (starEach [e2] X.env) := by rfl) (hpl : (backTo pos (starEach [e, e2] X.env)).any (·.1) = false := by rfl) :
    PI X (.Tuple elts kk tpos) (.Call (.Name "zip" p) [e, e2] [⟨some (Str.ofString "strict"), .Constant (.bool true) j p3, kp⟩] pos) (TIs X.K W (zipSrc true fl)) := by
  refine ⟨fun pins s σ H R I h0 => ?_⟩
  have h := zip_imp true σ H R h0
  refine wpAny_Call_Name_kw (ld_blt I hg hm PyProof.Rows.boot_zip ?_)
  refine callWith_tyKw (thn (ha.run pos pins s σ H _ I h) fun us s1 ⟨vs, H1, I1, r1, t1, t2, a1, a2, xs, ys, ex, qx, qy, q⟩ => ?_) he hpl
  subst ex
  obtain ⟨u1, u2, rfl, e1, e2⟩ := vals2 r1
  obtain rfl : u1 = Value.ref a1 := e1
  obtain rfl : u2 = Value.ref a2 := e2
  refine PyProof.Rows.kws_cons ?_
  refine thn ((pe_bl (X := X) (b := true) (j := j) (pos := p3)).run pins s1 σ H1 (fun v H2 => v = .bl true ∧ H2 = H1) I1 ⟨rfl, rfl⟩) fun v s2 ⟨v', H2, I2, rv, ev, eH⟩ => ?_
  subst ev eH
  obtain rfl : v = Value.bool true := rv
  exact PyProof.Rows.kws_nil (zip_run I2 qx qy (.inr rfl) q)
/-- enumerate -/
theorem pid_en (hg : Gl X "enumerate") (hm : X.mg "enumerate" = none) (ha : PA X [e] (TDs X.K W (oneL fe))) (hs : starEach [e] X.env = [(false, eval e X.env)] := by rfl) :
    PI X (.Tuple elts kk tpos) (.Call (.Name "enumerate" p) [e] [] pos) (TIs X.K W (enSrc fe)) := by
  refine ⟨fun pins s σ H R I h => ?_⟩
  refine PyProof.Rows.Call_ (ld_blt I hg hm PyProof.Rows.boot_enumerate (PyProof.Rows.callWith_type1 (thn (ha.run pos pins s σ H (fun ws H1 => ∃ t a xs, ws = [.ref a] ∧ SqK t X.K H1 a xs ∧ R (Iek X.K t a) H1) I ?_) fun us s1 ⟨vs, H1, I1, r1, t, a, xs, ex, qx, q⟩ => ?_) hs rfl))
  · obtain ⟨G, m, μ, sl, wf, rs, rl, o⟩ := h
    have o : okA (fun G m s J => SrcOk X.K G m s J) X.K W σ H G m μ (bindR (fe sl μ) _) R := o
    have o2 : okA (fun G m s J => SrcOk X.K G m s J) X.K W σ H G m μ (bindR (oneL fe sl μ) fun ds μ1 => match ds with
      | [d] => (match seqOf μ1 d with
        | some ds => ok (mkSrc (fixD d) (enumF 0 ds) (ckS d ds)) μ1
        | none => none)
      | _ => none) R := by
      unfold oneL
      revert o
      cases fe sl μ with
      | none => exact fun z => z
      | some q =>
        cases q with
        | exc x μ1 => exact fun z => z
        | ok d μ1 => exact fun z => z
    refine ⟨G, m, μ, sl, wf, rs, rl, (okA.bind (rep := repL X.K) o2).imp fun ws H1 ⟨ds, G1, m1, μ1, wf1, st1, l1, o3⟩ => ?_⟩
    split at o3
    · rename_i d
      obtain ⟨v, rfl, r⟩ := repL1 l1
      split at o3
      · rename_i ds e2
        obtain ⟨a, rfl⟩ := seqOf_ref wf1 e2 r
        obtain ⟨us, q1, _⟩ := seqOf_kd wf1 e2 r
        exact ⟨_, a, us, rfl, q1, okA.get o3 wf1 ((srcok_en r).mk fun h => fixD.ck h e2)⟩
      · exact o3.elim
    · exact o3.elim
  · subst ex
    obtain ⟨u1, rfl, e1⟩ := vals1 r1
    obtain rfl : u1 = Value.ref a := e1
    obtain ⟨its, rv, p1, la, _⟩ := inv_sq I1 qx
    refine en_call (beginsK t a its.toArray) p1 fun h' he g1 hk => wpAny_pyIter_enum (s := { s1 with heap := h' }) he ?_
    have I2 : Inv X pins σ H1 { s1 with heap := h' } := I1.kept (t' := s1.toks) hk
    refine ⟨s1.heap.objs.size + 1, [s1.heap.objs.size + 1, s1.heap.objs.size], _, _, H1, rfl, I2, turn_ek (Nat.succ_ne_self _) (Nat.ne_of_gt (Nat.lt_succ_of_lt la)) (Nat.ne_of_lt la), ⟨⟨.none, he⟩, objK_it t g1⟩, fun c hcm => ?_, q⟩
    have e' : c = s1.heap.objs.size + 1 ∨ c = s1.heap.objs.size := by simpa using hcm
    have hle : s1.heap.objs.size ≤ c := by
      rcases e' with z | z <;> rw [z] <;> first | exact Nat.le_refl _ | exact Nat.le_add_right _ _
    exact I1.fpOk hle (I1.hok.fresh hle)
end
end Pd
end
section
namespace Pd
open PySem PySem.Spec L2
/-! ### list comprehensions -/
noncomputable def Src.g : Src → Mu → Bool
  | .st _, _ => true
  | .ck _ c, μ => @decide (c μ) (Classical.propDecidable _)
theorem Src.g_chk {s : Src} {μ : Mu} (h : s.g μ = true) : s.chk μ := by
  cases s with
  | st ds => trivial
  | ck ds c => exact @of_decide_eq_true _ (Classical.propDecidable _) h
theorem Src.g_of {ds : List D} {c : Mu → Prop} {μ : Mu} (h : c μ) : (Src.ck ds c).g μ = true := @decide_eq_true _ (Classical.propDecidable _) h
/-- no exception may leave -/
abbrev nW : WX := fun _ _ _ _ => False
def lcL (g : Mu → Bool) (t : Tg) (c : Sl → Mu → R Bool) (e : DE) (sl : Sl) : List D → List D → Mu → R D
  | [], acc, μ => if g μ = true then ok (.lst acc) μ else none
  | d :: ds, acc, μ => if g μ = true then
      (match bindT μ t d sl with
      | some sl1 => (match c sl1 μ with
        | some (.ok true μ1) => (match e sl1 μ1 with
          | some (.ok y μ2) => if acc.length < sizeLine then lcL g t c e sl ds (acc ++ [y]) μ2 else none
          | _ => none)
        | some (.ok false μ1) => lcL g t c e sl ds acc μ1
        | _ => none)
      | none => none)
    else none
def wipeD (sl : Sl) : List Nat → Sl
  | [] => sl
  | v :: vs => (wipeD sl vs).set v none
noncomputable def lcD (own : List Nat) (src : Sl → Mu → R Src) (t : Tg) (c : Sl → Mu → R Bool) (e : DE) : DE := fun sl μ => bindR (src sl μ) fun s μ1 => lcL s.g t c e (wipeD sl own) s.ds [] μ1
def yesB : Sl → Mu → R Bool := fun _ μ => ok true μ
theorem RepS.wipe {K : PySem.W.Frag} {G : Hp} {m : List Addr} {sl : Sl} {σ : L2.St} (h : RepS K G m sl σ) : ∀ vs : List Nat, RepS K G m (wipeD sl vs) (L2.wipe σ vs)
  | [] => h
  | v :: vs => by
    have ih := h.wipe vs
    refine ⟨by simp only [wipeD, L2.wipe, List.length_set]; exact ih.len, fun j d e => ?_⟩
    have e : ((wipeD sl vs).set v none)[j]? = some (some d) := e
    show ∃ u, ((L2.wipe σ vs).set v none)[j]? = some (some u) ∧ _
    by_cases z : v = j
    · subst z
      have hi : v < (wipeD sl vs).length := by
        have := (List.getElem?_eq_some_iff.mp e).1
        simpa using this
      rw [List.getElem?_set_self hi] at e
      cases e
    · rw [List.getElem?_set_ne z] at e ⊢
      exact ih.at_ j d e
/-- a thing taken out of sight -/
def del (H : Hp) (p : Addr) : Hp := fun a => if a = p then none else H a
theorem del_ne {H : Hp} {p a : Addr} (h : a ≠ p) : del H p a = H a := if_neg h
theorem del_same {H : Hp} {p : Addr} : del H p p = none := if_pos rfl
theorem upd_del {H : Hp} {p : Addr} {o : HO} (h : H p = some o) : upd (del H p) p o = H := by
  funext a
  by_cases e : a = p
  · subst e; rw [upd_same, h]
  · rw [upd_ne e, del_ne e]
section
variable {K : PySem.W.Frag} {H G H' G' H0 G0 : Hp} {m m' m0 : List Addr} {μ μ' μ0 : Mu} {p : Addr} {o : HO}
theorem Wf.del (wf : Wf K H G m μ) (g : G p = none) (nl : ¬ Live m μ p) : Wf K (del H p) G m μ := by
  refine ⟨fun a x e => ?_, wf.len, fun l c a h1 h2 => ?_, wf.inj⟩
  · rw [del_ne (fun z => by rw [z, g] at e; cases e)]
    exact wf.sub _ _ e
  · obtain ⟨q1, q2⟩ := wf.cell l c a h1 h2
    have ne : a ≠ p := fun z => nl ⟨l, c, h1, z ▸ h2⟩
    refine ⟨q1, ?_⟩
    have := q2.mono (r := []) (H' := Pd.del H p) (Le.refl G) (fun _ e => by rw [del_ne ne]; exact e)
    simpa using this
/-- the hidden thing at p through a step -/
structure Hid (K : PySem.W.Frag) (H G : Hp) (m : List Addr) (μ : Mu) (p : Addr) (o : HO) : Prop where
  g : G p = none
  nl : ¬ Live m μ p
  h : H p = some o
theorem Hid.step (x : Hid K H G m μ p o) (st : Step H G m μ H' G' m' μ') : Hid K H' G' m' μ' p o := by
  have hp := st.frame p o x.h x.nl
  refine ⟨?_, fun l => ?_, hp⟩
  · cases e : G' p with
    | none => rfl
    | some u =>
      rcases st.gnew p (by rw [e]; exact fun z => nomatch z) with q | q | q
      · exact absurd x.g q
      · rw [x.h] at q; cases q
      · exact absurd q x.nl
  · rcases st.lnew p l with q | q
    · exact x.nl q
    · rw [x.h] at q; cases q
/-- from before p was there to its being out of sight -/
theorem Step.del (h0 : H0 p = none) (st : Step H0 G0 m0 μ0 H G m μ) : Step H0 G0 m0 μ0 (Pd.del H p) G m μ := by
  refine ⟨st.gsub, fun a x e n => ?_, st.gnew, st.lnew, st.mext, fun a z => ?_⟩
  rotate_left
  · by_cases q : a = p
    · rw [q]; exact h0
    · rw [del_ne q] at z; exact st.kp a z
  have ne : a ≠ p := fun z => by rw [z, h0] at e; cases e
  rw [del_ne ne]; exact st.frame a x e n
theorem Wf.hset (wf : Wf K H G m μ) (x : Hid K H G m μ p o) (o' : HO) : Wf K (upd H p o') G m μ := by
  refine ⟨fun a y e => ?_, wf.len, fun l c a h1 h2 => ?_, wf.inj⟩
  · have ne : a ≠ p := fun z => by rw [z, x.g] at e; cases e
    rw [upd_ne ne]; exact wf.sub _ _ e
  · obtain ⟨q1, q2⟩ := wf.cell l c a h1 h2
    have ne : a ≠ p := fun z => x.nl ⟨l, c, h1, z ▸ h2⟩
    refine ⟨q1, ?_⟩
    have := q2.mono (r := []) (H' := upd H p o') (Le.refl G) (fun _ e => by rw [upd_ne ne]; exact e)
    simpa using this
theorem Step.hset (h0 : H0 p = none) (st : Step H0 G0 m0 μ0 H G m μ) (o' : HO) : Step H0 G0 m0 μ0 (upd H p o') G m μ := by
  refine ⟨st.gsub, fun a x e n => ?_, st.gnew, st.lnew, st.mext, fun a z => st.kp a (upd_none a z)⟩
  have ne : a ≠ p := fun z => by rw [z, h0] at e; cases e
  rw [upd_ne ne]; exact st.frame a x e n
end
theorem set_none_of_wipe {σ : L2.St} {vs : List Nat} {i : Nat} (h : i ∈ vs) (v : Option V) : L2.wipe (σ.set i v) vs = L2.wipe σ vs := wipe_set h
theorem wipe_idem {σ : L2.St} : ∀ {vs : List Nat} {i : Nat}, i ∈ vs → (L2.wipe σ vs).set i none = L2.wipe σ vs
  | [], _, h => by simp at h
  | v :: vs, i, h => by
    by_cases e : i = v
    · subst e
      show ((L2.wipe σ vs).set i none).set i none = _
      rw [List.set_set]; rfl
    · have h : i ∈ vs := by
        rcases List.mem_cons.mp h with h | h
        · exact absurd h e
        · exact h
      show ((L2.wipe σ vs).set v none).set i none = (L2.wipe σ vs).set v none
      rw [List.set_comm _ _ (fun q => e q.symm), wipe_idem h]
theorem wipe_wipe {σ : L2.St} {vs : List Nat} : ∀ {us : List Nat}, (∀ i ∈ us, i ∈ vs) → L2.wipe (L2.wipe σ vs) us = L2.wipe σ vs
  | [], _ => rfl
  | u :: us, h => by
    show (L2.wipe (L2.wipe σ vs) us).set u none = _
    rw [wipe_wipe (fun i hi => h i (List.mem_cons_of_mem _ hi)), wipe_idem (h u (List.mem_cons_self ..))]
section
variable {X : Cx} {W : WX} {elt tg iter : Expr} {ifs : List Expr} {scope : Scope} {own : List (Str × Nat)} {pos : Pos} {src : Sl → Mu → R Src} {t : Tg} {c : Sl → Mu → R Bool} {e : DE}
/-- the turns of a comprehension -/
theorem lc_turns {K : PySem.W.Frag} {Q : VK} {vs : List Nat} {σ : L2.St} {sl : Sl} {s : Src} {J : It} {H1 G1 : Hp} {m1 : List Addr} {μ1 : Mu} {p : Addr} (hv : ∀ i ∈ namesT t, i ∈ vs)
    (wf1 : Wf K H1 G1 m1 μ1) (rs1 : RepS K G1 m1 sl σ) (sr : SrcOk K G1 m1 s J) (hp : H1 p = none) (o : okF K W σ H1 G1 m1 μ1 (lcL s.g t c e (wipeD sl vs) s.ds [] μ1) Q) :
    ∃ Wn : Nat → Nat → Hp → Prop, (∃ n, Wn 0 n (upd H1 p (.lst []))) ∧ ∀ i n H, Wn i n H →
      (J.stop i H ∧ Q (.ref p) H) ∨ (J.go i H ∧ ∃ Nx : Hp → Prop, (∀ H', Nx H' → ∃ n', n' < n ∧ Wn (i + 1) n' H') ∧ ∀ x H', J.yld i H x H' → TG' K t x (L2.wipe σ vs) H' fun σ2 H2 => L2.wipe σ2 vs = L2.wipe σ vs ∧ TB K nW c σ2 H2 fun b H3 =>
        if b = true then TD K nW e σ2 H3 fun y H4 => ∃ acc, H4 p = some (.lst acc) ∧ acc.length < sizeLine ∧ Nx (upd H4 p (.lst (acc ++ [y]))) else Nx H3) := by
  let Inv := fun (i n : Nat) (H : Hp) => ∃ G m μ acc vacc, n = s.ds.length - i ∧ i ≤ s.ds.length ∧ Wf K H G m μ ∧ Step H1 G1 m1 μ1 H G m μ ∧ Hid K H G m μ p (.lst vacc) ∧ RepL K G m acc vacc ∧ okF K W σ H1 G1 m1 μ1 (lcL s.g t c e (wipeD sl vs) (s.ds.drop i) acc μ) Q
  refine ⟨Inv, ⟨s.ds.length, G1, m1, μ1, [], [], by simp, Nat.zero_le _, wf1.hid hp, Step.hid hp, ⟨wf1.gnone hp, wf1.dead hp, upd_same⟩, rfl, by simpa using o⟩, ?_⟩
  rintro i n H ⟨G, m, μ, acc, vacc, rfl, hi, wf, st, hd, la, o⟩
  have chk : s.g μ = true := by
    cases hg : s.g μ with
    | true => rfl
    | false =>
      exfalso
      revert o
      cases s.ds.drop i with
      | nil => unfold lcL; rw [hg]; exact fun z => z
      | cons d ds => unfold lcL; rw [hg]; exact fun z => z
  obtain ⟨s1, s2⟩ := sr H G m μ wf st.gsub st.mext (Src.g_chk chk)
  by_cases hlt : i < s.ds.length
  · have hx : s.ds[i]? = some s.ds[i] := List.getElem?_eq_getElem hlt
    obtain ⟨go, yl⟩ := s1 i _ hx
    have ed : s.ds.drop i = s.ds[i] :: s.ds.drop (i + 1) := List.drop_eq_getElem_cons hlt
    rw [ed] at o
    unfold lcL at o
    rw [if_pos chk] at o
    refine .inr ⟨go, fun H' => ∃ n', Inv (i + 1) n' H' ∧ n' < s.ds.length - i, fun H' ⟨n', q, l⟩ => ⟨n', l, q⟩, fun x H' y => ?_⟩
    obtain ⟨G2, wf2, st2, r2⟩ := yl x H' y
    have hd2 := hd.step st2
    have st12 := st.trans st2
    refine ⟨G2, m, μ, wipeD sl vs, s.ds[i], wf2, (st12.repS rs1).wipe vs, r2, ?_⟩
    cases eb : bindT μ t s.ds[i] (wipeD sl vs) with
    | none => rw [eb] at o; exact o.elim
    | some sl1 =>
      rw [eb] at o
      intro σ2 rs2 hw
      dsimp only at o
      refine ⟨by rw [hw vs hv, wipe_wipe fun i h => h], G2, m, μ, sl1, wf2, rs2, rfl, ?_⟩
      have fin : ∀ {Gx : Hp} {mx : List Addr} {μx : Mu} {Hx : Hp} {acc' : List D} {vacc' : List V}, Wf K Hx Gx mx μx → Step H1 G1 m1 μ1 Hx Gx mx μx → Hid K Hx Gx mx μx p (.lst vacc') → RepL K Gx mx acc' vacc' → okF K W σ H1 G1 m1 μ1 (lcL s.g t c e (wipeD sl vs) (s.ds.drop (i + 1)) acc' μx) Q → ∃ n', Inv (i + 1) n' Hx ∧ n' < s.ds.length - i :=
        fun {Gx mx μx Hx acc' vacc'} a b c d e => ⟨_, ⟨Gx, mx, μx, acc', vacc', rfl, hlt, a, b, c, d, e⟩, by omega⟩
      revert o
      cases c sl1 μ with
      | none => exact fun z => z
      | some ob =>
        cases ob with
        | exc x μ2 => exact fun z => z.elim
        | ok b μ2 =>
          cases b with
          | false =>
            intro o b' H3 G3 m3 wf3 st3 eb'
            have eb' : false = b' := eb'
            subst eb'
            exact iteF (fin wf3 (st12.trans st3) (hd2.step st3) ((st2.trans st3).repL la) o)
          | true =>
            intro o b' H3 G3 m3 wf3 st3 eb'
            have eb' : true = b' := eb'
            subst eb'
            refine iteT ⟨G3, m3, μ2, sl1, wf3, st3.repS rs2, rfl, ?_⟩
            dsimp only at o
            revert o
            cases e sl1 μ2 with
            | none => exact fun z => z
            | some oe =>
              cases oe with
              | exc x μ3 => exact fun z => z.elim
              | ok y μ3 =>
                intro o v H4 G4 m4 wf4 st4 ry
                dsimp only at o
                have hd4 := (hd2.step st3).step st4
                have la4 := ((st2.trans st3).trans st4).repL la
                split at o
                · rename_i hz
                  refine ⟨vacc, hd4.h, by rw [la4.length]; exact hz, ?_⟩
                  have wf5 := wf4.hset hd4 (.lst (vacc ++ [v]))
                  have st5 := ((st12.trans st3).trans st4).hset hp (.lst (vacc ++ [v]))
                  exact fin wf5 st5 ⟨hd4.g, hd4.nl, upd_same⟩ (la4.app (es := [y]) ⟨v, [], rfl, ry, rfl⟩) o
                · exact o.elim
  · have e' : i = s.ds.length := by omega
    subst e'
    have ed : s.ds.drop s.ds.length = [] := List.drop_length
    rw [ed] at o
    unfold lcL at o
    rw [if_pos chk] at o
    refine .inl ⟨s2, ?_⟩
    have := o p vacc (del H p) G m (wf.del hd.g hd.nl) (st.del hp) del_same la
    rw [upd_del hd.h] at this
    exact this
theorem lc_imp (hv : ∀ i ∈ namesT t, i ∈ own.map (·.2)) (σ : L2.St) (H : Hp) (Q : VK) (h : TF X.K W (lcD (own.map (·.2)) src t c e) σ H Q) : tLc (TIs X.K W src) (TG' X.K t) (TB X.K nW c) (TD X.K nW e) (own.map (·.2)) σ H Q := by
  obtain ⟨G, m, μ, sl, wf, rs, o⟩ := h
  refine ⟨G, m, μ, sl, wf, rs, rfl, (okF.bind (rep := fun G m s J => SrcOk X.K G m s J) o).imp fun J H1 ⟨s, G1, m1, μ1, wf1, st1, sr, o1⟩ => fun p hp => ?_⟩
  exact lc_turns hv wf1 (st1.repS rs) sr hp o1
theorem pef_lc (hc : X.calm = true) (hN : X.N.Nodup) (hi : PI X tg iter (TIs X.K W src)) (okb : BlkOk X.N X.env.scope scope own) (hv : ∀ i ∈ namesT t, i ∈ own.map (·.2))
    (hg : ∀ (s : Shared) (H : Hp) (C : Addr) (cl : List (Str × Addr)) (fp : List Addr), PG (X.blk s H scope (compEnvC scope cl C X.env) fp) tg (TG' X.K t)) (ht : ∀ (s : Shared) (H : Hp) (C : Addr) (cl : List (Str × Addr)) (fp : List Addr), PTs (X.blk s H scope (compEnvC scope cl C X.env) fp) ifs (TB X.K nW c))
    (he : ∀ (s : Shared) (H : Hp) (C : Addr) (cl : List (Str × Addr)) (fp : List Addr), PE (X.blk s H scope (compEnvC scope cl C X.env) fp) elt (TD X.K nW e)) (hs : ∀ x, foldedSetIterable iter X.env x = pure x := by intro _; rfl) :
    PE X (.ListComp elt [⟨tg, iter, ifs, 0⟩] scope pos) (TF X.K W (lcD (own.map (·.2)) src t c e)) := PE_imp (pe_lc hc hN hi okb hg ht he hs) (lc_imp hv)
theorem ptsd_nil : PTs X [] (TB X.K W yesB) := ⟨fun pins s σ H Q I ⟨G, m, μ, sl, wf, rs, rl, o⟩ => pts_nil.run pins s σ H Q I (okA.get (a := true) o wf rfl)⟩
theorem ptsd_one {x : Expr} (h : PT X x (TB X.K W c)) : PTs X [x] (TB X.K W c) := pts_one h
end
end Pd
end
section
namespace Pd
open PySem PySem.Spec L2
/-! ### statements -/
def okS (K : PySem.W.Frag) (W : WX) (D : Ends) (H G : Hp) (m : List Addr) (μ : Mu) (r : Option OutS) : Prop := match r with
  | some (.nx sl μ') => ∀ σ H' G' m', Wf K H' G' m' μ' → Step H G m μ H' G' m' μ' → RepS K G' m' sl σ → D.nx σ H'
  | some (.bk sl μ') => ∀ σ H' G' m', Wf K H' G' m' μ' → Step H G m μ H' G' m' μ' → RepS K G' m' sl σ → D.bk σ H'
  | some (.ct sl μ') => ∀ σ H' G' m', Wf K H' G' m' μ' → Step H G m μ H' G' m' μ' → RepS K G' m' sl σ → D.ct σ H'
  | some (.rt d μ') => ∀ v H' G' m', Wf K H' G' m' μ' → Step H G m μ H' G' m' μ' → RepV K G' m' d v → D.rt v H'
  | some (.exc x sl μ') => ∀ c dd σ H' G' m', Wf K H' G' m' μ' → Step H G m μ H' G' m' μ' → RepS K G' m' sl σ → ExcRep K H' G' m' x c dd → W c dd σ H'
  | none => False
def TDS (K : PySem.W.Frag) (W : WX) (f : DS) : TS := fun D σ H => ∃ G m μ sl, Wf K H G m μ ∧ RepS K G m sl σ ∧ okS K W D H G m μ (f sl μ)
/-- an expression first -/
def lifA {α : Type} (f : Sl → Mu → R α) (k : Sl → α → Mu → Option OutS) : DS := fun sl μ => match f sl μ with
  | some (.ok a μ1) => k sl a μ1
  | some (.exc x μ1) => some (.exc x sl μ1)
  | none => none
section
variable {K : PySem.W.Frag} {W : WX} {D D' : Ends} {σ : L2.St} {H G H1 G1 : Hp} {m m1 : List Addr} {μ μ1 : Mu} {α β : Type}
theorem okS.step {r : Option OutS} (h : okS K W D H G m μ r) (st : Step H G m μ H1 G1 m1 μ1) : okS K W D H1 G1 m1 μ1 r := by
  cases r with
  | none => exact h
  | some o =>
    cases o with
    | nx sl μ' => exact fun σ H' G' m' a b c => h σ H' G' m' a (st.trans b) c
    | bk sl μ' => exact fun σ H' G' m' a b c => h σ H' G' m' a (st.trans b) c
    | ct sl μ' => exact fun σ H' G' m' a b c => h σ H' G' m' a (st.trans b) c
    | rt d μ' => exact fun v H' G' m' a b c => h v H' G' m' a (st.trans b) c
    | exc x sl μ' => exact fun c dd σ H' G' m' a b e f => h c dd σ H' G' m' a (st.trans b) e f
theorem okS.lif {rep : Hp → List Addr → α → β → Prop} {f : Sl → Mu → R α} {k : Sl → α → Mu → Option OutS} {sl : Sl} (h : okS K W D H G m μ (lifA f k sl μ)) (rs : RepS K G m sl σ) :
    okA rep K W σ H G m μ (f sl μ) (fun b H1 => ∃ a G1 m1 μ1, Wf K H1 G1 m1 μ1 ∧ Step H G m μ H1 G1 m1 μ1 ∧ RepS K G1 m1 sl σ ∧ rep G1 m1 a b ∧ okS K W D H1 G1 m1 μ1 (k sl a μ1)) := by
  unfold lifA at h
  revert h
  cases f sl μ with
  | none => exact fun z => z
  | some o =>
    cases o with
    | exc x μ1 => exact fun z c dd H' G' m' wf st er => z c dd σ H' G' m' wf st (st.repS rs) er
    | ok a μ1 => exact fun z b H1 G1 m1 wf st r => ⟨a, G1, m1, μ1, wf, st, st.repS rs, r, okS.step z st⟩
theorem TDS.lif {rep : Hp → List Addr → α → β → Prop} {f : Sl → Mu → R α} {k : Sl → α → Mu → Option OutS} (h : TDS K W (lifA f k) D σ H) :
    T rep K W [] [] f σ H (fun b H1 => ∃ a G m μ sl, Wf K H1 G m μ ∧ RepS K G m sl σ ∧ rep G m a b ∧ okS K W D H1 G m μ (k sl a μ)) := by
  obtain ⟨G, m, μ, sl, wf, rs, o⟩ := h
  exact ⟨G, m, μ, sl, wf, rs, rfl, (okS.lif (rep := rep) o rs).imp fun b H1 ⟨a, G1, m1, μ1, wf1, st, rs1, r, o1⟩ => ⟨a, G1, m1, μ1, sl, wf1, rs1, r, o1⟩⟩
theorem okS.nx {sl : Sl} (h : okS K W D H G m μ (some (.nx sl μ))) (wf : Wf K H G m μ) (rs : RepS K G m sl σ) : D.nx σ H := h σ H G m wf Step.refl rs
/-- later statements -/
def seqS (f g : DS) : DS := fun sl μ => match f sl μ with
  | some (.nx sl1 μ1) => g sl1 μ1
  | o => o
def nxS : DS := fun sl μ => some (.nx sl μ)
theorem TDS.seq {f g : DS} (h : TDS K W (seqS f g) D σ H) : tSeq (TDS K W f) (TDS K W g) D σ H := by
  obtain ⟨G, m, μ, sl, wf, rs, o⟩ := h
  refine ⟨G, m, μ, sl, wf, rs, ?_⟩
  unfold seqS at o
  revert o
  cases f sl μ with
  | none => exact fun z => z
  | some q =>
    cases q with
    | nx sl1 μ1 => exact fun o σ1 H1 G1 m1 wf1 st1 rs1 => ⟨G1, m1, μ1, sl1, wf1, rs1, okS.step o st1⟩
    | bk sl1 μ1 => exact fun o => o
    | ct sl1 μ1 => exact fun o => o
    | rt d μ1 => exact fun o => o
    | exc x sl1 μ1 => exact fun o => o
theorem TDS.nxt (h : TDS K W nxS D σ H) : D.nx σ H := by
  obtain ⟨G, m, μ, sl, wf, rs, o⟩ := h
  exact okS.nx o wf rs
end
section
variable {X : Cx} {W : WX} {st : Stmt} {rest a b : List Stmt} {f g : DS} {e : Expr} {fe : DE} {pos : Pos} {bt : Sl → Mu → R Bool} {tg : Expr} {t : Tg}
theorem pssd_nil : PSs X [] (TDS X.K W nxS) := PSs_imp pss_nil fun D σ H h => TDS.nxt h
theorem pssd_cons (h1 : PS X st (TDS X.K W f)) (h2 : PSs X rest (TDS X.K W g)) : PSs X (st :: rest) (TDS X.K W (seqS f g)) := PSs_imp (pss_cons h1 h2) fun D σ H h => TDS.seq h
theorem pssd_one (h1 : PS X st (TDS X.K W f)) : PSs X [st] (TDS X.K W f) := pss_one h1
theorem psd_pass : PS X (.Pass pos) (TDS X.K W nxS) := PS_imp ps_pass fun D σ H h => TDS.nxt h
def bkS : DS := fun sl μ => some (.bk sl μ)
def ctS : DS := fun sl μ => some (.ct sl μ)
theorem psd_break : PS X (.Break pos) (TDS X.K W bkS) := PS_imp ps_break fun D σ H ⟨G, m, μ, sl, wf, rs, o⟩ => o σ H G m wf Step.refl rs
theorem psd_cont : PS X (.Continue pos) (TDS X.K W ctS) := PS_imp ps_continue fun D σ H ⟨G, m, μ, sl, wf, rs, o⟩ => o σ H G m wf Step.refl rs
theorem psd_doc {x j pos pos'} : PS X (.Expr (.Constant (.str x) j pos) pos') (TDS X.K W nxS) := PS_imp ps_doc fun D σ H h => TDS.nxt h
def retS (e : DE) : DS := lifA e fun _ d μ => some (.rt d μ)
def retN : DS := fun _ μ => some (.rt .non μ)
theorem psd_ret (he : PE X e (TD X.K W fe)) : PS X (.Return (some e) pos) (TDS X.K W (retS fe)) :=
  PS_imp (ps_ret he) fun D σ H h => (TDS.lif (rep := repV X.K) h).imp fun v H1 ⟨d, G, m, μ, sl, wf, rs, r, o⟩ => o v H1 G m wf Step.refl r
theorem psd_retN : PS X (.Return none pos) (TDS X.K W retN) := PS_imp ps_retN fun D σ H ⟨G, m, μ, sl, wf, rs, o⟩ => o .non H G m wf Step.refl rfl
def expS (e : DE) : DS := lifA e fun sl _ μ => some (.nx sl μ)
theorem psd_expr (he : PE X e (TD X.K W fe)) (hs : swapsWith e none pos.line X.env = pure false := by rfl) : PS X (.Expr e pos) (TDS X.K W (expS fe)) :=
  PS_imp (ps_expr he hs) fun D σ H h => (TDS.lif (rep := repV X.K) h).imp fun v H1 ⟨d, G, m, μ, sl, wf, rs, r, o⟩ => okS.nx o wf rs
def ifS (c : Sl → Mu → R Bool) (f g : DS) : DS := lifA c fun sl b μ => if b = true then f sl μ else g sl μ
theorem psd_if {c : Expr} (hc : PT X c (TB X.K W bt)) (ha : PSs X a (TDS X.K W f)) (hb : PSs X b (TDS X.K W g)) : PS X (.If c a b pos) (TDS X.K W (ifS bt f g)) :=
  PS_imp (ps_if hc ha hb) fun D σ H h => (TDS.lif (rep := repB) h).imp fun k H1 ⟨d, G, m, μ, sl, wf, rs, r, o⟩ => by
    have r : d = k := r
    subst r
    cases d with
    | true => exact iteT ⟨G, m, μ, sl, wf, rs, o⟩
    | false => exact iteF ⟨G, m, μ, sl, wf, rs, o⟩
/-! assignments -/
def asgS (e : DE) (t : Tg) : DS := lifA e fun sl d μ => match bindT μ t d sl with
  | some sl1 => some (.nx sl1 μ)
  | none => none
theorem asg_imp {te : TE} {tt : TG} (hg : ∀ v σ H Q, TG' X.K t v σ H Q → tt v σ H Q) (he : ∀ σ H Q, TD X.K W fe σ H Q → te σ H Q) (D : Ends) (σ : L2.St) (H : Hp) (h : TDS X.K W (asgS fe t) D σ H) : tAsg te tt D σ H := by
  refine he σ H _ ((TDS.lif (rep := repV X.K) h).imp fun v H1 ⟨d, G, m, μ, sl, wf, rs, r, o⟩ => hg _ _ _ _ ⟨G, m, μ, sl, d, wf, rs, r, ?_⟩)
  cases eb : bindT μ t d sl with
  | none => rw [eb] at o; exact o.elim
  | some sl1 =>
    rw [eb] at o
    exact fun σ' rs' _ => okS.nx o wf rs'
theorem psd_asg (he : PE X e (TD X.K W fe)) (hg : PG X tg (TG' X.K t)) (hs : swapsWithSole [tg] e pos.line X.env = pure false := by rfl) (hw : swappedStores [tg] e X.env = pure none := by rfl)
    (h1 : (assignEach [tg] X.env).map (·.2) = [assign tg X.env] := by rfl) : PS X (.Assign [tg] e pos) (TDS X.K W (asgS fe t)) := PS_imp (ps_asg he hg hs hw h1) (asg_imp (fun _ _ _ _ h => h) fun _ _ _ h => h)
theorem gName_imp {K : PySem.W.Frag} {i : Nat} (v : V) (σ : L2.St) (H : Hp) (Q : L2.St → Hp → Prop) (h : TG' K (.nm i) v σ H Q) : gName i v σ H Q := by
  obtain ⟨G, m, μ, sl, d, wf, rs, r, q⟩ := h
  exact q _ (rs.set r i) fun vs h => wipe_set (h i (by simp [namesT]))
theorem psd_set {i : Nat} {x : Str} {pos' : Pos} (hN : X.N.Nodup) (hi : X.N[i]? = some x) (hx : Loc X.env.scope x) (he : PE X e (TD X.K W fe)) (hf : X.fn x = true ∨ X.env.scope.names.lookup x = some .local) (hs : swapsWith e (some (.Name x pos')) pos.line X.env = pure false := by rfl) :
    PS X (.Assign [.Name x pos'] e pos) (TDS X.K W (asgS fe (.nm i))) := PS_imp (ps_set hN hi hx he hs hf) (asg_imp (fun _ _ _ _ h => gName_imp _ _ _ _ h) fun _ _ _ h => h)
/-- name = [.. for ..], the name a plain local -/
theorem psd_setLc {i : Nat} {y : Str} {py spos : Pos} {elt tgc iter : Expr} {ifs : List Expr} {scope : Scope} {own : List (Str × Nat)} {src : Sl → Mu → R Src} {tc : Tg} {c : Sl → Mu → R Bool} {ee : DE} {md : DE → DE} (hc : X.calm = true) (hN : X.N.Nodup) (hy : X.N[i]? = some y) (hyl : X.env.scope.names.lookup y = some .local)
    (hmd : ∀ f σ H Q, TD X.K W (md f) σ H Q → TF X.K W f σ H Q)
    (hsw : swapsWith (.ListComp elt [⟨tgc, iter, ifs, 0⟩] scope pos) (some (.Name y py)) spos.line X.env = pure true) (hi : PI X tgc iter (TIs X.K W src)) (ok : BlkOk X.N X.env.scope scope own) (hv : ∀ i ∈ namesT tc, i ∈ own.map (·.2))
    (hg : ∀ (s : Shared) (H : Hp) (C : Addr) (cl : List (Str × Addr)) (fp : List Addr), PG (X.blk s H scope (compEnvC scope cl C X.env) fp) tgc (TG' X.K tc)) (ht : ∀ (s : Shared) (H : Hp) (C : Addr) (cl : List (Str × Addr)) (fp : List Addr), PTs (X.blk s H scope (compEnvC scope cl C X.env) fp) ifs (TB X.K nW c))
    (he : ∀ (s : Shared) (H : Hp) (C : Addr) (cl : List (Str × Addr)) (fp : List Addr), PE (X.blk s H scope (compEnvC scope cl C X.env) fp) elt (TD X.K nW ee)) (hs : ∀ x, foldedSetIterable iter X.env x = pure x := by intro _; rfl) :
    PS X (.Assign [.Name y py] (.ListComp elt [⟨tgc, iter, ifs, 0⟩] scope pos) spos) (TDS X.K W (asgS (md (lcD (own.map (·.2)) src tc c ee)) (.nm i))) :=
  PS_imp (ps_setLc hc hN hy hyl hsw hi ok hg ht he hs) (asg_imp (fun _ _ _ _ h => gName_imp _ _ _ _ h) fun σ H Q h => lc_imp hv σ H Q (hmd _ σ H Q h))
/-! a, b = .. with plain locals: stored from the right -/
def parS (is : List Nat) (f : DL) : DS := lifA f fun sl ds μ => match bindTs μ (is.map Tg.nm) ds sl with
  | some sl1 => some (.nx sl1 μ)
  | none => none
theorem psd_par {i j : Nat} {x y : Str} {a b : Expr} {fl : DL} {px py pt : Pos} {kt k2 pt2} (hc : X.calm = true) (hN : X.N.Nodup) (hi : X.N[i]? = some x) (hj : X.N[j]? = some y) (hij : i ≠ j)
    (hx : X.env.scope.names.lookup x = some .local) (hy : X.env.scope.names.lookup y = some .local) (ha : PA X [a, b] (TDs X.K W fl))
    (hw : swappedStores [.Tuple [.Name x px, .Name y py] kt pt] (.Tuple [a, b] k2 pt2) X.env = pure (some [x, y]))
    (hs : swapsWithSole [.Tuple [.Name x px, .Name y py] kt pt] (.Tuple [a, b] k2 pt2) pos.line X.env = pure false := by rfl) :
    PS X (.Assign [.Tuple [.Name x px, .Name y py] kt pt] (.Tuple [a, b] k2 pt2) pos) (TDS X.K W (parS [i, j] fl)) :=
  PS_imp (ps_par hc hN hi hj hij hx hy ha hw hs) fun D σ H h => (TDS.lif (rep := repL X.K) h).imp fun ws H1 ⟨ds, G, m, μ, sl, wf, rs, l, o⟩ => by
    cases ds with
    | nil => exact o.elim
    | cons d ds =>
      cases ds with
      | nil => exact o.elim
      | cons d' ds =>
        cases ds with
        | nil =>
          obtain ⟨v, w, rfl, r1, r2⟩ := repL2 l
          exact ⟨v, w, rfl, okS.nx o wf ((rs.set r1 i).set r2 j)⟩
        | cons _ _ => exact o.elim
theorem psd_par3 {i j l : Nat} {x y z : Str} {a b c : Expr} {fl : DL} {px py pz pt : Pos} {kt k2 pt2} (hc : X.calm = true) (hN : X.N.Nodup) (hi : X.N[i]? = some x) (hj : X.N[j]? = some y) (hl : X.N[l]? = some z) (hij : i ≠ j) (hil : i ≠ l) (hjl : j ≠ l)
    (hx : X.env.scope.names.lookup x = some .local) (hy : X.env.scope.names.lookup y = some .local) (hz : X.env.scope.names.lookup z = some .local) (ha : PA X [a, b, c] (TDs X.K W fl))
    (hw : swappedStores [.Tuple [.Name x px, .Name y py, .Name z pz] kt pt] (.Tuple [a, b, c] k2 pt2) X.env = pure (some [x, y, z]))
    (hs : swapsWithSole [.Tuple [.Name x px, .Name y py, .Name z pz] kt pt] (.Tuple [a, b, c] k2 pt2) pos.line X.env = pure false := by rfl) :
    PS X (.Assign [.Tuple [.Name x px, .Name y py, .Name z pz] kt pt] (.Tuple [a, b, c] k2 pt2) pos) (TDS X.K W (parS [i, j, l] fl)) :=
  PS_imp (ps_par3 hc hN hi hj hl hij hil hjl hx hy hz ha hw hs) fun D σ H h => (TDS.lif (rep := repL X.K) h).imp fun ws H1 ⟨ds, G, m, μ, sl, wf, rs, l, o⟩ => by
    match ds, l, o with
    | [], _, o => exact o.elim
    | [_], _, o => exact o.elim
    | [_, _], _, o => exact o.elim
    | [d1, d2, d3], l, o =>
      obtain ⟨v1, w, rfl, r1, l⟩ := l
      obtain ⟨v2, v3, rfl, r2, r3⟩ := repL2 l
      exact ⟨v1, v2, v3, rfl, okS.nx o wf (((rs.set r1 _).set r2 _).set r3 _)⟩
    | _ :: _ :: _ :: _ :: _, _, o => exact o.elim
/-! name op= e -/
def IpD (X : Cx) (W : WX) (op : Operator) (g : D2) : Prop := ∃ r : TIp, PIp X op r ∧ ∀ dx dy vx vy σ H G m μ Q, Wf X.K H G m μ → RepV X.K G m dx vx → RepV X.K G m dy vy → okA (repV X.K) X.K W σ H G m μ (g dx dy μ) Q → r vx vy H Q
/-- the name's value is read first -/
def augS (i : Nat) (g : D2) (e : DE) : DS := lifA (fun sl μ => bindR (varD i sl μ) fun x μ0 => bindR (e sl μ0) fun y μ1 => g x y μ1) fun sl d μ => some (.nx (sl.set i (some d)) μ)
theorem psd_aug {i : Nat} {x : Str} {op : Operator} {g : D2} {pos' : Pos} (hN : X.N.Nodup) (hi : X.N[i]? = some x) (hx : Loc X.env.scope x) (he : PE X e (TD X.K W fe)) (ho : IpD X W op g) (hf : X.fn x = true ∨ X.env.scope.names.lookup x = some .local) :
    PS X (.AugAssign (.Name x pos') op e pos) (TDS X.K W (augS i g fe)) :=
  let ⟨_, h1, h2⟩ := ho
  PS_imp (ps_aug hN hi hx he h1 hf) fun D σ H h => by
    obtain ⟨G, m, μ, sl, wf, rs, o⟩ := h
    have o1 := okS.lif (rep := repV X.K) (f := fun sl μ => bindR (varD i sl μ) fun x μ0 => bindR (fe sl μ0) fun y μ1 => g x y μ1) o rs
    unfold varD at o1
    cases ei : sl[i]? with
    | none => rw [ei] at o1; exact o1.elim
    | some od =>
      cases od with
      | none => rw [ei] at o1; exact o1.elim
      | some d =>
        rw [ei] at o1
        obtain ⟨v, hv, rv⟩ := rs.at_ i d ei
        refine ⟨v, hv, G, m, μ, sl, wf, rs, rfl, ?_⟩
        have o2 : okA (repV X.K) X.K W σ H G m μ (bindR (fe sl μ) fun y μ1 => g d y μ1) _ := o1
        refine (okA.bind (rep := repV X.K) o2).imp fun y H1 ⟨dy, G1, m1, μ1, wf1, st1, r1, o3⟩ => ?_
        refine h2 d dy v y σ H1 G1 m1 μ1 _ wf1 (st1.repV rv) r1 (o3.imp fun z H2 ⟨dz, G2, m2, μ2, wf2, st2, rs2, rz, o4⟩ => ?_)
        exact okS.nx o4 wf2 (rs2.set rz i)
/-! loops -/
def forL (g : Mu → Bool) (t : Tg) (body : DS) : List D → DS
  | [], sl, μ => if g μ = true then some (.nx sl μ) else none
  | d :: ds, sl, μ => if g μ = true then
      (match bindT μ t d sl with
      | some sl1 => (match body sl1 μ with
        | some (.nx sl2 μ2) => forL g t body ds sl2 μ2
        | some (.ct sl2 μ2) => forL g t body ds sl2 μ2
        | some (.bk sl2 μ2) => some (.nx sl2 μ2)
        | o => o)
      | none => none)
    else none
noncomputable def forS (src : Sl → Mu → R Src) (t : Tg) (body : DS) : DS := lifA src fun sl s μ => forL s.g t body s.ds sl μ
theorem forL_g {K : PySem.W.Frag} {E : Ends} {H G : Hp} {m : List Addr} {μ : Mu} {g : Mu → Bool} {ds : List D} {t : Tg} {body : DS} {sl : Sl} (o : okS K W E H G m μ (forL g t body ds sl μ)) : g μ = true := by
  cases hg : g μ with
  | true => rfl
  | false =>
    exfalso
    revert o
    cases ds with
    | nil => unfold forL; rw [hg]; exact fun z => z
    | cons d ds => unfold forL; rw [hg]; exact fun z => z
theorem psd_for {iter : Expr} {body : List Stmt} {src : Sl → Mu → R Src} (hp : PassesOwn (model X.prog X.w) X.A X.env X.xe) (hc : X.calm = true) (hi : PI X tg iter (TIs X.K W src)) (hg : PG X tg (TG' X.K t)) (hb : PSs X body (TDS X.K W f))
    (hs : ∀ x, foldedSetIterable iter X.env x = pure x := by intro _; rfl) : PS X (.For tg iter body [] pos) (TDS X.K W (forS src t f)) :=
  PS_imp (ps_for hp hc hi hg hb hs) fun D σ H h => (TDS.lif (rep := fun G m s J => SrcOk X.K G m s J) h).imp fun J H1 ⟨s, G1, m1, μ1, sl, wf1, rs1, sr, o⟩ => by
    refine ⟨fun i n σ H => ∃ G m μ sl, n = s.ds.length - i ∧ i ≤ s.ds.length ∧ Wf X.K H G m μ ∧ Step H1 G1 m1 μ1 H G m μ ∧ RepS X.K G m sl σ ∧ okS X.K W D H G m μ (forL s.g t f (s.ds.drop i) sl μ), ⟨s.ds.length, G1, m1, μ1, sl, by simp, Nat.zero_le _, wf1, Step.refl, rs1, by simpa using o⟩, ?_⟩
    rintro i n σ H ⟨G, m, μ, sl, rfl, hi, wf, st, rs, o⟩
    have chk := forL_g o
    obtain ⟨s1, s2⟩ := sr H G m μ wf st.gsub st.mext (Src.g_chk chk)
    by_cases hlt : i < s.ds.length
    · have hx : s.ds[i]? = some s.ds[i] := List.getElem?_eq_getElem hlt
      obtain ⟨go, yl⟩ := s1 i _ hx
      have ed : s.ds.drop i = s.ds[i] :: s.ds.drop (i + 1) := List.drop_eq_getElem_cons hlt
      rw [ed] at o
      unfold forL at o
      rw [if_pos chk] at o
      refine .inr ⟨go, fun σ' H' => ∃ G m μ sl, Wf X.K H' G m μ ∧ Step H1 G1 m1 μ1 H' G m μ ∧ RepS X.K G m sl σ' ∧ okS X.K W D H' G m μ (forL s.g t f (s.ds.drop (i + 1)) sl μ), fun σ' H' ⟨G', m', μ', sl', a, b, c, d⟩ => ⟨_, by omega, G', m', μ', sl', rfl, hlt, a, b, c, d⟩, fun x H' y => ?_⟩
      obtain ⟨G2, wf2, st2, r2⟩ := yl x H' y
      refine ⟨G2, m, μ, sl, s.ds[i], wf2, st2.repS rs, r2, ?_⟩
      cases eb : bindT μ t s.ds[i] sl with
      | none => rw [eb] at o; exact o.elim
      | some sl1 =>
        rw [eb] at o
        intro σ2 rs2 _
        dsimp only at o
        refine ⟨G2, m, μ, sl1, wf2, rs2, ?_⟩
        have o := okS.step o st2
        revert o
        cases f sl1 μ with
        | none => exact fun z => z
        | some q =>
          cases q with
          | nx sl3 μ3 => exact fun o σ3 H3 G3 m3 wf3 st3 rs3 => ⟨G3, m3, μ3, sl3, wf3, (st.trans st2).trans st3, rs3, okS.step o st3⟩
          | ct sl3 μ3 => exact fun o σ3 H3 G3 m3 wf3 st3 rs3 => ⟨G3, m3, μ3, sl3, wf3, (st.trans st2).trans st3, rs3, okS.step o st3⟩
          | bk sl3 μ3 => exact fun o => o
          | rt d μ3 => exact fun o => o
          | exc x sl3 μ3 => exact fun o => o
    · have e' : i = s.ds.length := by omega
      subst e'
      have ed : s.ds.drop s.ds.length = [] := List.drop_length
      rw [ed] at o
      unfold forL at o
      rw [if_pos chk] at o
      exact .inl ⟨s2, okS.nx o wf rs⟩
def whF (c : Sl → Mu → R Bool) (body : DS) : Nat → DS
  | 0, _, _ => none
  | n + 1, sl, μ => match c sl μ with
    | some (.ok true μ1) => (match body sl μ1 with
      | some (.nx sl2 μ2) => whF c body n sl2 μ2
      | some (.ct sl2 μ2) => whF c body n sl2 μ2
      | some (.bk sl2 μ2) => some (.nx sl2 μ2)
      | o => o)
    | some (.ok false μ1) => some (.nx sl μ1)
    | some (.exc x μ1) => some (.exc x sl μ1)
    | none => none
theorem whF_succ {c : Sl → Mu → R Bool} {body : DS} : ∀ {n : Nat} {sl : Sl} {μ : Mu} {o : OutS}, whF c body n sl μ = some o → whF c body (n + 1) sl μ = some o
  | 0, _, _, _, h => by cases h
  | n + 1, sl, μ, o, h => by
    unfold whF at h ⊢
    revert h
    cases c sl μ with
    | none => exact fun h => h
    | some ob =>
      cases ob with
      | exc x μ1 => exact fun h => h
      | ok b μ1 =>
        cases b with
        | false => exact fun h => h
        | true =>
          dsimp only
          cases body sl μ1 with
          | none => exact fun h => h
          | some q =>
            cases q with
            | nx sl2 μ2 => exact fun h => whF_succ h
            | ct sl2 μ2 => exact fun h => whF_succ h
            | bk sl2 μ2 => exact fun h => h
            | rt d μ2 => exact fun h => h
            | exc x sl2 μ2 => exact fun h => h
theorem whF_add {c : Sl → Mu → R Bool} {body : DS} {n : Nat} {sl : Sl} {μ : Mu} {o : OutS} (h : whF c body n sl μ = some o) : ∀ k, whF c body (n + k) sl μ = some o
  | 0 => h
  | k + 1 => whF_succ (whF_add h k)
theorem whF_inj {c : Sl → Mu → R Bool} {body : DS} {n n' : Nat} {sl : Sl} {μ : Mu} {o o' : OutS} (h : whF c body n sl μ = some o) (h' : whF c body n' sl μ = some o') : o = o' := by
  have a := whF_add h n'
  have b := whF_add h' n
  rw [Nat.add_comm] at b
  rw [a] at b
  exact Option.some.inj b
open Classical in
/-- the loop, however long it takes -/
noncomputable def whS (c : Sl → Mu → R Bool) (body : DS) : DS := fun sl μ => if h : ∃ o, ∃ n, whF c body n sl μ = some o then some h.choose else none
theorem whS_of {c : Sl → Mu → R Bool} {body : DS} {n : Nat} {sl : Sl} {μ : Mu} {o : OutS} (h : whF c body n sl μ = some o) : whS c body sl μ = some o := by
  have ex : ∃ o, ∃ n, whF c body n sl μ = some o := ⟨o, n, h⟩
  unfold whS
  rw [dif_pos ex]
  obtain ⟨n', h'⟩ := ex.choose_spec
  rw [whF_inj h' h]
theorem whS_some {c : Sl → Mu → R Bool} {body : DS} {sl : Sl} {μ : Mu} {o : OutS} (h : whS c body sl μ = some o) : ∃ n, whF c body n sl μ = some o := by
  unfold whS at h
  split at h
  · rename_i ex
    obtain ⟨n, h'⟩ := ex.choose_spec
    exact ⟨n, by rw [h']; exact h⟩
  · cases h
theorem psd_while {c : Expr} {body : List Stmt} (hp : PassesOwn (model X.prog X.w) X.A X.env X.xe) (hc : PT X c (TB X.K W bt)) (hb : PSs X body (TDS X.K W f)) : PS X (.While c body [] pos) (TDS X.K W (whS bt f)) :=
  PS_imp (ps_while hp hc hb) fun D σ H ⟨G, m, μ, sl, wf, rs, o⟩ => by
    cases e : whS bt f sl μ with
    | none => rw [e] at o; exact o.elim
    | some oo =>
      obtain ⟨n, hn⟩ := whS_some e
      rw [e] at o
      rw [← hn] at o
      refine ⟨fun k σ H => ∃ G m μ sl, Wf X.K H G m μ ∧ RepS X.K G m sl σ ∧ okS X.K W D H G m μ (whF bt f k sl μ), ⟨n, G, m, μ, sl, wf, rs, o⟩, ?_⟩
      rintro k σ H ⟨G, m, μ, sl, wf, rs, o⟩
      cases k with
      | zero => exact o.elim
      | succ k =>
        have o1 : okS X.K W D H G m μ (lifA bt (fun sl b μ1 => if b = true then (match f sl μ1 with
            | some (.nx sl2 μ2) => whF bt f k sl2 μ2
            | some (.ct sl2 μ2) => whF bt f k sl2 μ2
            | some (.bk sl2 μ2) => some (.nx sl2 μ2)
            | o => o) else some (.nx sl μ1)) sl μ) := by
          unfold whF at o
          unfold lifA
          revert o
          cases bt sl μ with
          | none => exact fun z => z
          | some ob =>
            cases ob with
            | exc x μ1 => exact fun z => z
            | ok b μ1 => cases b <;> exact fun z => z
        refine ⟨G, m, μ, sl, wf, rs, rfl, (okS.lif (rep := repB) o1 rs).imp fun b H1 ⟨b', G1, m1, μ1, wf1, st1, rs1, eb, o2⟩ => ?_⟩
        have eb : b' = b := eb
        subst eb
        cases b' with
        | false => exact iteF (okS.nx o2 wf1 rs1)
        | true =>
          refine iteT ⟨fun σ' H' => ∃ G m μ sl, Wf X.K H' G m μ ∧ RepS X.K G m sl σ' ∧ okS X.K W D H' G m μ (whF bt f k sl μ), fun σ' H' q => ⟨k, Nat.lt_succ_self _, q⟩, G1, m1, μ1, sl, wf1, rs1, ?_⟩
          have o2 : okS X.K W D H1 G1 m1 μ1 (match f sl μ1 with
            | some (.nx sl2 μ2) => whF bt f k sl2 μ2
            | some (.ct sl2 μ2) => whF bt f k sl2 μ2
            | some (.bk sl2 μ2) => some (.nx sl2 μ2)
            | o => o) := o2
          revert o2
          cases f sl μ1 with
          | none => exact fun z => z
          | some q =>
            cases q with
            | nx sl3 μ3 => exact fun o σ3 H3 G3 m3 wf3 st3 rs3 => ⟨G3, m3, μ3, sl3, wf3, rs3, okS.step o st3⟩
            | ct sl3 μ3 => exact fun o σ3 H3 G3 m3 wf3 st3 rs3 => ⟨G3, m3, μ3, sl3, wf3, rs3, okS.step o st3⟩
            | bk sl3 μ3 => exact fun o => o
            | rt d μ3 => exact fun o => o
            | exc x sl3 μ3 => exact fun o => o
end
end Pd
end
section
namespace Pd
open PySem PySem.Spec L2
/-! ### methods of built-in types -/
inductive Ty where
  | str | int | lst | dic
def Ty.nm : Ty → String
  | .str => "str"
  | .int => "int"
  | .lst => "list"
  | .dic => "dict"
def rawDic (μ : Mu) : D → Bool
  | .ref l => match μ[l]? with
    | some (some (.dic _ _)) => true
    | some (some (.dit _ _)) => true
    | _ => false
  | _ => false
def tyD (t : Ty) (μ : Mu) (d : D) : Bool := match t with
  | .str => match d with
    | .str _ => true
    | _ => false
  | .int => match d with
    | .int _ => true
    | _ => false
  | .lst => (lstOf μ d).isSome
  | .dic => rawDic μ d
theorem tyD_ok {K : PySem.W.Frag} {H G : Hp} {m : List Addr} {μ : Mu} (wf : Wf K H G m μ) {t : Ty} {d : D} {v : V} (h : tyD t μ d = true) (r : RepV K G m d v) : tyV K t.nm v H := by
  cases t with
  | str => cases d <;> first | (cases h; done) | (cases r; rfl)
  | int => cases d <;> first | (cases h; done) | (cases r; rfl)
  | lst =>
    have h : (lstOf μ d).isSome = true := h
    cases e : lstOf μ d with
    | none => rw [e] at h; cases h
    | some ds =>
      obtain ⟨a, vs, rfl, q, _⟩ := lstOf_rep wf e r
      exact .inl ⟨rfl, vs, q⟩
  | dic =>
    have h : rawDic μ d = true := h
    cases d with
    | ref l =>
      unfold rawDic at h
      dsimp only at h
      split at h
      · rename_i ks xs e
        obtain ⟨a, rfl, _, _, vs, q, _⟩ := wf.live_get e r
        exact .inr (.inr (.inl ⟨rfl, .inl ⟨_, q⟩⟩))
      · rename_i ks xs e
        obtain ⟨a, rfl, _, _, vs, q, _⟩ := wf.live_get e r
        exact .inr (.inr (.inl ⟨rfl, .inr ⟨_, q⟩⟩))
      · cases h
    | _ => cases h
abbrev DM := D → DC
/-- a method's rule, for plain data -/
def MethD (X : Cx) (W : WX) (id : String) (g : DM) : Prop := ∃ r, MtR X id r ∧ ∀ dx ds vx vs σ H G m μ Q, Wf X.K H G m μ → RepV X.K G m dx vx → RepL X.K G m ds vs → okA (repV X.K) X.K W σ H G m μ (g dx ds μ) Q → r vx vs H Q
def MethF (X : Cx) (W : WX) (id : String) (g : DM) : Prop := ∃ r, MtR X id r ∧ ∀ dx ds vx vs σ H G m μ Q, Wf X.K H G m μ → RepV X.K G m dx vx → RepL X.K G m ds vs → okF X.K W σ H G m μ (g dx ds μ) Q → r vx vs H Q
def methB (t : Ty) (g : DM) (fo : DE) (fl : DL) : DE := fun sl μ => bindR (fo sl μ) fun d μ1 => if tyD t μ1 d = true then bindR (fl sl μ1) fun ds μ2 => g d ds μ2 else none
def meth0 (t : Ty) (g : DM) (fo : DE) : DE := fun sl μ => bindR (fo sl μ) fun d μ1 => if tyD t μ1 d = true then g d [] μ1 else none
section
variable {X : Cx} {W : WX} {o e : Expr} {es : List Expr} {fo : DE} {fl : DL} {name : Str} {apos cpos : Pos} {id : String} {g : DM} {t : Ty}
theorem meth0_imp {r : V → List V → Hp → VK → Prop} (hr : ∀ dx ds vx vs σ H G m μ Q, Wf X.K H G m μ → RepV X.K G m dx vx → RepL X.K G m ds vs → okA (repV X.K) X.K W σ H G m μ (g dx ds μ) Q → r vx vs H Q) (σ : L2.St) (H : Hp) (Q : VK) (h : TD X.K W (meth0 t g fo) σ H Q) : tBM0 X.K t.nm r (TD X.K W fo) σ H Q :=
  (T.bindV h).imp fun v H1 ⟨d, G, m, μ, sl, wf, rs, rd, o⟩ => by
    split at o
    · rename_i ht
      exact ⟨tyD_ok wf ht rd, hr d [] v [] σ H1 G m μ Q wf rd rfl o⟩
    · exact o.elim
theorem methB_imp {r : V → List V → Hp → VK → Prop} (hr : ∀ dx ds vx vs σ H G m μ Q, Wf X.K H G m μ → RepV X.K G m dx vx → RepL X.K G m ds vs → okA (repV X.K) X.K W σ H G m μ (g dx ds μ) Q → r vx vs H Q) (σ : L2.St) (H : Hp) (Q : VK) (h : TD X.K W (methB t g fo fl) σ H Q) : tBM X.K t.nm r (TD X.K W fo) (TDs X.K W fl) σ H Q :=
  (T.bindV h).imp fun v H1 ⟨d, G, m, μ, sl, wf, rs, rd, o⟩ => by
    split at o
    · rename_i ht
      refine ⟨tyD_ok wf ht rd, G, m, μ, sl, wf, rs, rfl, (okA.bind (rep := repL X.K) o).imp fun ws H2 ⟨ds, G2, m2, μ2, wf2, st2, l2, o2⟩ => ?_⟩
      exact hr d ds v ws σ H2 G2 m2 μ2 Q wf2 (st2.repV rd) l2 o2
    · exact o.elim
theorem ped_m0 (pa : PlainAttrs t.nm) (slot : Slot t.nm name id) (hty : typeOf (.builtin id) = pure (.type "method_descriptor")) (hm : MethD X W id g) (ho : PE X o (TD X.K W fo))
    (hbase : attributeBase o name X.env (eval o X.env) = eval o X.env := by rfl) (hline : (apos.endLine == cpos.line) = true := by rfl) : PE X (.Call (.Attribute o name apos) [] [] cpos) (TD X.K W (meth0 t g fo)) :=
  let ⟨_, h1, h2⟩ := hm
  PE_imp (pe_bm0 pa slot hty h1 ho hbase hline) (meth0_imp h2)
theorem ped_m (pa : PlainAttrs t.nm) (slot : Slot t.nm name id) (hty : typeOf (.builtin id) = pure (.type "method_descriptor")) (hm : MethD X W id g) (ho : PE X o (TD X.K W fo)) (ha : PA X (e :: es) (TDs X.K W fl))
    (hbase : attributeBase o name X.env (eval o X.env) = eval o X.env := by rfl)
    (hfew : ((backTo cpos (starEach (e :: es) X.env)).all (fun x => !x.1) && (backToKw cpos (keywordEach [] X.env)).all (fun x => x.1.isSome)
      && decide ((e :: es).length + ([] : List Keyword).length + (if ([] : List Keyword).isEmpty then 0 else 1) < 30)) = true := by rfl)
    (hline : (apos.endLine == cpos.line) = true := by rfl) (hs : starEach (e :: es) X.env = (false, eval e X.env) :: starEach es X.env := by rfl) (hplain : (backTo cpos (starEach es X.env)).any (·.1) = false := by rfl) :
    PE X (.Call (.Attribute o name apos) (e :: es) [] cpos) (TD X.K W (methB t g fo fl)) :=
  let ⟨_, h1, h2⟩ := hm
  PE_imp (pe_bm pa slot hty h1 ho ha hbase hfew hline hs hplain) (methB_imp h2)
end
/-! lists that change -/
def setL (μ : Mu) (l : Nat) (ds : List D) : Mu := μ.set l (some (.lst ds))
def rawL (μ : Mu) : D → Option (Nat × List D)
  | .ref l => match μ[l]? with
    | some (some (.lst ds)) => some (l, ds)
    | _ => none
  | _ => none
section
variable {K : PySem.W.Frag} {W : WX} {σ : L2.St} {H G : Hp} {m : List Addr} {μ : Mu}
theorem rawL_rep (wf : Wf K H G m μ) {d : D} {v : V} {l : Nat} {ds : List D} (h : rawL μ d = some (l, ds)) (r : RepV K G m d v) : μ[l]? = some (some (.lst ds)) ∧ ∃ a vs, v = .ref a ∧ m[l]? = some a ∧ H a = some (.lst vs) ∧ RepL K G m ds vs := by
  cases d with
  | ref k =>
    unfold rawL at h
    dsimp only at h
    split at h
    · rename_i xs e
      cases h
      obtain ⟨a, e1, e2, _, vs, q, rl⟩ := wf.live_get e r
      exact ⟨e, a, vs, e1, e2, q, rl⟩
    · cases h
  | _ => cases h
/-- a list of the store has got other items -/
theorem okA.setL {α β : Type} {rep : Hp → List Addr → α → β → Prop} {Q : β → Hp → Prop} {a : α} {b : β} {l : Nat} {c : Cell} {p : Addr} {ds : List D} {vs : List V} (h : okA rep K W σ H G m μ (ok a (setL μ l ds)) Q) (wf : Wf K H G m μ) (h1 : μ[l]? = some (some c)) (h2 : m[l]? = some p) (r : RepL K G m ds vs) (rb : rep G m a b) : Q b (upd H p (.lst vs)) :=
  h b _ G m (wf.changed h1 h2 (c' := .lst ds) ⟨vs, upd_same, r⟩) (Step.changed h1 h2) rb
end
def dmAppend : DM := fun x ds μ => match rawL μ x, ds with
  | some (l, xs), [d] => if xs.length < sizeLine then ok .non (setL μ l (xs ++ [d])) else none
  | _, _ => none
def dmPop : DM := fun x ds μ => match rawL μ x, ds with
  | some (l, xs), [] => match xs[xs.length - 1]? with
    | some y => ok y (setL μ l xs.dropLast)
    | none => none
  | _, _ => none
def dmPopAt : DM := fun x ds μ => match rawL μ x, ds with
  | some (l, xs), [.int i] => match seqIndex? i xs.length with
    | some k => match xs[k]? with
      | some y => if -(2 ^ 63) ≤ i ∧ i < 2 ^ 63 then ok y (setL μ l (xs.eraseIdx k)) else none
      | none => none
    | none => none
  | _, _ => none
theorem RepL.dropLast {K : PySem.W.Frag} {G : Hp} {m : List Addr} {ds : List D} {vs : List V} (h : RepL K G m ds vs) : RepL K G m ds.dropLast vs.dropLast := by
  rw [List.dropLast_eq_take, List.dropLast_eq_take, h.length]; exact h.take _
theorem RepL.eraseIdx {K : PySem.W.Frag} {G : Hp} {m : List Addr} {ds : List D} {vs : List V} (h : RepL K G m ds vs) (i : Nat) : RepL K G m (ds.eraseIdx i) (vs.eraseIdx i) := by
  rw [List.eraseIdx_eq_take_drop_succ, List.eraseIdx_eq_take_drop_succ]; exact (h.take i).app (h.drop (i + 1))
section
variable {X : Cx} {W : WX}
theorem md_append : MethD X W "list.append" dmAppend := ⟨_, mt_append, fun dx ds vx vs σ H G m μ Q wf rx rl o => by
  unfold dmAppend at o
  split at o
  · rename_i l xs d e
    obtain ⟨h1, a, ws, rfl, h2, q, r⟩ := rawL_rep wf e rx
    obtain ⟨v, rfl, rv⟩ := repL1 rl
    split at o
    · rename_i hz
      exact ⟨a, ws, v, rfl, rfl, q, by rw [r.length]; exact hz, o.setL wf h1 h2 (r.app (es := [d]) ⟨v, [], rfl, rv, rfl⟩) rfl⟩
    · exact o.elim
  · exact o.elim⟩
theorem md_pop : MethD X W "list.pop" dmPop := ⟨_, mt_pop, fun dx ds vx vs σ H G m μ Q wf rx rl o => by
  unfold dmPop at o
  split at o
  · rename_i l xs e
    obtain ⟨h1, a, ws, rfl, h2, q, r⟩ := rawL_rep wf e rx
    cases rl
    split at o
    · rename_i y ey
      obtain ⟨v, hv, rv⟩ := r.get ey
      exact ⟨a, ws, v, rfl, rfl, q, by rw [r.length]; exact hv, o.setL wf h1 h2 r.dropLast rv⟩
    · exact o.elim
  · exact o.elim⟩
theorem md_popAt : MethD X W "list.pop" dmPopAt := ⟨_, mt_popAt, fun dx ds vx vs σ H G m μ Q wf rx rl o => by
  unfold dmPopAt at o
  split at o
  · rename_i l xs i e
    obtain ⟨h1, a, ws, rfl, h2, q, r⟩ := rawL_rep wf e rx
    obtain ⟨vi, rfl, ri⟩ := repL1 rl
    cases ri
    split at o
    · rename_i k ek
      split at o
      · rename_i y ey
        split at o
        · rename_i hz
          obtain ⟨v, hv, rv⟩ := r.get ey
          exact ⟨a, ws, i, k, v, rfl, rfl, q, hz.1, hz.2, by rw [r.length]; exact ek, hv, o.setL wf h1 h2 (r.eraseIdx k) rv⟩
        · exact o.elim
      · exact o.elim
    · exact o.elim
  · exact o.elim⟩
/-! index of an equal item -/
def findPy (ps : List PyData) (d : PyData) : Option Nat := ps.findIdx? fun z => PyData.eqv z d
def pysOf (μ : Mu) (d : D) : Option (List PyData) := match toPy μ 9 d with
  | some (.list ps) => some ps
  | _ => none
def dmIndex : DM := fun x ds μ => match ds with
  | [y] => match pysOf μ x, toPy μ 9 y with
    | some ps, some d => match findPy ps d with
      | some j => if SeqAt.shaped (.list ps) && SeqAt.shaped d then ok (.int (j : Nat)) μ else none
      | none => none
    | _, _ => none
  | _ => none
theorem pysOf_dp {K : PySem.W.Frag} {H G : Hp} {m : List Addr} {μ : Mu} (wf : Wf K H G m μ) {d : D} {v : V} {ps : List PyData} (h : pysOf μ d = some ps) (r : RepV K G m d v) : Dp K H v (.list ps) := by
  unfold pysOf at h
  split at h
  · rename_i qs e
    cases h
    exact toPy_dp wf _ _ _ _ e r
  · cases h
theorem md_index (hu : X.A.units + 65 < cLine) : MethD X W "list.index" dmIndex := ⟨_, mt_indexD hu, fun dx ds vx vs σ H G m μ Q wf rx rl o => by
  unfold dmIndex at o
  split at o
  · rename_i y
    obtain ⟨v, rfl, rv⟩ := repL1 rl
    split at o
    · rename_i ps d e1 e2
      split at o
      · rename_i j ej
        split at o
        · rename_i hz
          have hz := Bool.and_eq_true_iff.mp hz
          have dp := pysOf_dp wf e1 rx
          unfold findPy at ej
          obtain ⟨hj, h3, h4⟩ := List.findIdx?_eq_some_iff_getElem.mp ej
          cases dp with
          | lst hs ha =>
            rename_i a zs
            refine ⟨a, v, d, ps, j, ps[j], rfl, rfl, .lst hs ha, toPy_dp wf _ _ _ _ e2 rv, hz.1, hz.2, List.getElem?_eq_getElem hj, h3, fun n z hn hz' => ?_, okA.get (a := D.int (j : Nat)) o wf rfl⟩
            obtain ⟨hn2, e3⟩ := List.getElem?_eq_some_iff.mp hz'
            rw [← e3]
            simpa using h4 n hn
        · exact o.elim
      · exact o.elim
    · exact o.elim
  · exact o.elim⟩
end
/-! ### in, not in -/
def flatD : D → Bool
  | .non => true
  | .bl _ => true
  | .int _ => true
  | .str _ => true
  | _ => false
def eqF : D → D → Bool
  | .non, .non => true
  | .bl a, .bl b => a == b
  | .int a, .int b => a == b
  | .str a, .str b => a == b
  | .bl a, .int b => (if a then 1 else 0) == b
  | .int a, .bl b => a == (if b then 1 else 0)
  | _, _ => false
def inD (neg : Bool) : D2 := fun x y μ => match y with
  | .str z => match x with
    | .str w => ok (.bl (if neg then !(!(Builtin.Str.occurrences z w 0 z.length 1).isEmpty) else !(Builtin.Str.occurrences z w 0 z.length 1).isEmpty)) μ
    | _ => none
  | d => match seqOf μ d with
    | some ds => if flatD x && ds.all flatD then ok (.bl (if neg then !ds.any fun z => eqF z x else ds.any fun z => eqF z x)) μ
        else match pysOf μ d, toPy μ 9 x with
          | some ps, some e => if SeqAt.shaped e && SeqAt.shaped (.list ps) then ok (.bl (if neg then !ps.any fun z => PyData.eqv z e else ps.any fun z => PyData.eqv z e)) μ else none
          | _, _ => none
    | none => match dicOf μ d, keyOf x with
      | some (ks, ds), some k => ok (.bl (if neg then !(dgetA ks ds k).isSome else (dgetA ks ds k).isSome)) μ
      | _, _ => none
end Pd
end
section
namespace Pd
open PySem PySem.Spec L2
/-! ### in, not in -/
theorem eqF_eqV {K : PySem.W.Frag} {G : Hp} {m : List Addr} {x y : D} {v w : V} (fx : flatD x = true) (fy : flatD y = true) (rx : RepV K G m x v) (ry : RepV K G m y w) : eqV v w = eqF x y := by
  cases x <;> first | (cases fx; done) | (cases rx; cases y <;> first | (cases fy; done) | (cases ry; rfl))
theorem flat_rep {K : PySem.W.Frag} {G : Hp} {m : List Addr} {x : D} {v : V} (fx : flatD x = true) (rx : RepV K G m x v) : flatV v = true := by
  cases x <;> first | (cases fx; done) | (cases rx; rfl)
theorem flats_rep {K : PySem.W.Frag} {G : Hp} {m : List Addr} {x : D} {w : V} (fx : flatD x = true) (rx : RepV K G m x w) : ∀ {ds : List D} {vs : List V}, ds.all flatD = true → RepL K G m ds vs → vs.all flatV = true ∧ (vs.any fun z => eqV z w) = ds.any fun z => eqF z x
  | [], _, _, r => by cases r; exact ⟨rfl, rfl⟩
  | d :: ds, _, h, r => by
    obtain ⟨v, ws, rfl, r1, r2⟩ := r
    rw [List.all_cons, Bool.and_eq_true] at h
    obtain ⟨a, b⟩ := flats_rep fx rx h.2 r2
    refine ⟨by rw [List.all_cons, flat_rep h.1 r1, a]; rfl, ?_⟩
    rw [List.any_cons, List.any_cons, eqF_eqV h.1 fx r1 rx, b]
def rDin (neg : Bool) : R2 := fun x y H Q => ∃ a o, y = .ref a ∧ DGet H a x o ∧ Q (.bl (if neg then !o.isSome else o.isSome)) H
theorem op_din {X : Cx} (hu : X.A.units + 1 < cLine) : OpR X (compareOp .In) (rDin false) := by
  intro pins s σ H x y v u Q I rx ry ⟨a, o, ey, g, q⟩
  subst ey
  obtain rfl : u = Value.ref a := ry
  exact d_in hu I g rx fun s' I' => ⟨.bl o.isSome, H, I', rfl, q⟩
theorem op_dnin {X : Cx} (hu : X.A.units + 1 < cLine) : OpR X (compareOp .NotIn) (rDin true) := by
  intro pins s σ H x y v u Q I rx ry ⟨a, o, ey, g, q⟩
  subst ey
  obtain rfl : u = Value.ref a := ry
  exact d_notIn hu I g rx fun s' I' => ⟨.bl (!o.isSome), H, I', rfl, q⟩
section
variable {X : Cx} {W : WX}
theorem in_cases {neg : Bool} {r1 r2 r3 r4 : R2} (h1 : ∀ x y H Q, (∃ p xs, y = .ref p ∧ (SqL X.K H p xs ∨ SqT X.K H p xs) ∧ flatV x = true ∧ xs.all flatV = true ∧ Q (.bl (if neg then !inV x xs else inV x xs)) H) → r1 x y H Q)
    (h2 : ∀ x y H Q, (∃ d ds, Dp X.K H x d ∧ Dp X.K H y (.list ds) ∧ SeqAt.shaped d = true ∧ SeqAt.shaped (.list ds) = true ∧ Q (.bl (if neg then !ds.any fun z => PyData.eqv z d else ds.any fun z => PyData.eqv z d)) H) → r2 x y H Q)
    (h3 : ∀ x y H Q, (∃ i j, x = .str i ∧ y = .str j ∧ Q (.bl (if neg then !(!(Builtin.Str.occurrences j i 0 j.length 1).isEmpty) else !(Builtin.Str.occurrences j i 0 j.length 1).isEmpty)) H) → r3 x y H Q)
    (h4 : ∀ x y H Q, rDin neg x y H Q → r4 x y H Q)
    (dx dy : D) (vx vy : V) (σ : L2.St) (H G : Hp) (m : List Addr) (μ : Mu) (Q : VK) (wf : Wf X.K H G m μ) (rx : RepV X.K G m dx vx) (ry : RepV X.K G m dy vy) (o : okA (repV X.K) X.K W σ H G m μ (inD neg dx dy μ) Q) :
    r1 vx vy H Q ∨ r2 vx vy H Q ∨ r3 vx vy H Q ∨ r4 vx vy H Q := by
  unfold inD at o
  split at o
  · rename_i z
    split at o
    · rename_i w
      exact .inr (.inr (.inl (h3 _ _ _ _ ⟨w, z, rx, ry, okA.get (a := D.bl _) o wf rfl⟩)))
    · exact o.elim
  · split at o
    · rename_i ds e
      split at o
      · rename_i hf
        have hf := Bool.and_eq_true_iff.mp hf
        obtain ⟨a, vs, rfl, q, l⟩ := seqOf_rep wf e ry
        obtain ⟨f1, f2⟩ := flats_rep hf.1 rx hf.2 l
        refine .inl (h1 _ _ _ _ ⟨a, vs, rfl, q, flat_rep hf.1 rx, f1, ?_⟩)
        unfold inV
        rw [f2]
        exact okA.get (a := D.bl _) o wf rfl
      · split at o
        · rename_i ps pe e1 e2
          split at o
          · rename_i hz
            have hz := Bool.and_eq_true_iff.mp hz
            exact .inr (.inl (h2 _ _ _ _ ⟨pe, ps, toPy_dp wf _ _ _ _ e2 rx, pysOf_dp wf e1 ry, hz.1, hz.2, okA.get (a := D.bl _) o wf rfl⟩))
          · exact o.elim
        · exact o.elim
    · split at o
      · rename_i ks ds k e1 e2
        obtain ⟨a, vs, rfl, q, hz, l⟩ := dicOf_rep wf e1 ry
        have ek := keyOf_rep e2 rx
        refine .inr (.inr (.inr (h4 _ _ _ _ ⟨a, dgetA ks vs k, rfl, .inl ⟨_, k, q, ek, (valV_zip k ks vs).symm⟩, ?_⟩)))
        have g := dget_rep (K := X.K) (G := G) (m := m) k (ks := ks) l
        have es : (dgetA ks vs k).isSome = (dgetA ks ds k).isSome := by
          cases e3 : dgetA ks ds k with
          | none => rw [e3] at g; rw [g]; rfl
          | some d => rw [e3] at g; obtain ⟨v, h, _⟩ := g; rw [h]; rfl
        rw [es]
        exact okA.get (a := D.bl _) o wf rfl
      · exact o.elim
theorem od_in (hu : X.A.units + 65 < cLine) : OpD X W (compareOp .In) (inD false) := .mk (OpR.or op_in_seq (OpR.or (op_inD hu) (OpR.or op_in_str (op_din (by omega))))) (in_cases (neg := false) (fun _ _ _ _ h => h) (fun _ _ _ _ h => h) (fun _ _ _ _ h => h) fun _ _ _ _ h => h)
theorem od_notin (hu : X.A.units + 65 < cLine) : OpD X W (compareOp .NotIn) (inD true) := .mk (OpR.or op_notIn_seq (OpR.or (op_notInD hu) (OpR.or op_notin_str (op_dnin (by omega))))) (in_cases (neg := true) (fun _ _ _ _ h => h) (fun _ _ _ _ h => h) (fun _ _ _ _ h => h) fun _ _ _ _ h => h)
end

/-! ### x[i] = v -/
def setD : D → D → D → Mu → Option Mu := fun o i v μ => match o with
  | .ref l => match μ[l]? with
    | some (some (.lst ds)) => match i with
      | .int k => match ixN ds.length k with
        | some j => some (μ.set l (some (.lst (ds.set j v))))
        | none => none
      | _ => none
    | some (some (.dic ks ds)) => match keyOf i with
      | some k => if ks.length < sizeLine then some (μ.set l (some (.dic (putKs ks k) (putXs ks ds k v)))) else none
      | none => none
    | _ => none
  | _ => none
def setS (e o i : DE) : DS := lifA (fun sl μ => bindR (e sl μ) fun v μ1 => bindR (o sl μ1) fun x μ2 => bindR (i sl μ2) fun y μ3 => match setD x y v μ3 with
    | some μ4 => ok D.non μ4
    | none => none) fun sl _ μ => some (.nx sl μ)
theorem repL_zipLen {K : PySem.W.Frag} {G : Hp} {m : List Addr} {ks : List Key} {ds : List D} {vs : List V} (h : ks.length = ds.length) (l : RepL K G m ds vs) : ks.length = vs.length := by rw [l.length]; exact h
def gSet (K : PySem.W.Frag) (W : WX) (o i : DE) : TG := fun v σ H Q => ∃ G m μ sl d, Wf K H G m μ ∧ RepS K G m sl σ ∧ RepV K G m d v ∧
  okA (fun _ _ (_ : Unit) (_ : Unit) => True) K W σ H G m μ (bindR (o sl μ) fun x μ2 => bindR (i sl μ2) fun y μ3 => match setD x y d μ3 with
    | some μ4 => ok () μ4
    | none => none) (fun _ H' => Q σ H')
section
variable {X : Cx} {W : WX} {o i e : Expr} {fo fi fe : DE} {pos spos : Pos}
theorem ptset (hu : X.A.units + 1 < cLine) : PSet X (fun o i v H Q => rSetL o i v H Q ∨ rSetD o i v H Q) := fun pins s σ H o i v ov iv u Q I r1 r2 r3 h => h.elim (set_list pins s σ H o i v ov iv u Q I r1 r2 r3) (set_dict hu pins s σ H o i v ov iv u Q I r1 r2 r3)
theorem set_imp {K : PySem.W.Frag} {H G : Hp} {m : List Addr} {μ μ' : Mu} {x y d : D} {vx vy v : V} {Q : Hp → Prop} (wf : Wf K H G m μ) (rx : RepV K G m x vx) (ry : RepV K G m y vy) (rd : RepV K G m d v) (e : setD x y d μ = some μ')
    (q : ∀ H' G' m', Wf K H' G' m' μ' → Step H G m μ H' G' m' μ' → Q H') : rSetL vx vy v H Q ∨ rSetD vx vy v H Q := by
  unfold setD at e
  split at e
  · rename_i l
    split at e
    · rename_i ds e1
      split at e
      · rename_i k
        split at e
        · rename_i j ej
          cases e
          obtain ⟨a, rfl, h2, _, vs, hq, rl⟩ := wf.live_get e1 rx
          refine .inl ⟨a, vs, k, j, rfl, ry, hq, by rw [rl.length]; exact ej, ?_⟩
          exact q _ G m (wf.changed e1 h2 (c' := .lst (ds.set j d)) ⟨_, upd_same, rl.set rd⟩) (Step.changed e1 h2)
        · cases e
      · cases e
    · rename_i ks ds e1
      split at e
      · rename_i k ek
        split at e
        · rename_i hz
          cases e
          obtain ⟨a, rfl, h2, _, vs, hq, hl, rl⟩ := wf.live_get e1 rx
          have hl2 := repL_zipLen hl rl
          have lz : (ks.zip vs).length < sizeLine := by rw [List.length_zip, ← hl2, Nat.min_self]; exact hz
          refine .inr ⟨a, _, rfl, .inl ⟨_, k, hq, keyOf_rep ek ry, lz, rfl⟩, ?_⟩
          rw [putK_zip k v ks vs hl2]
          exact q _ G m (wf.changed e1 h2 (c' := .dic (putKs ks k) (putXs ks ds k d)) ⟨_, upd_same, putLen hl k d, put_rep k rd rl⟩) (Step.changed e1 h2)
        · cases e
      · cases e
    · cases e
  · cases e
theorem gSet_imp (v : V) (σ : L2.St) (H : Hp) (Q : L2.St → Hp → Prop) (h : gSet X.K W fo fi v σ H Q) : gSub (TD X.K W fo) (TD X.K W fi) (fun o i v H Q => rSetL o i v H Q ∨ rSetD o i v H Q) v σ H Q := by
  obtain ⟨G, m, μ, sl, d, wf, rs, rd, o⟩ := h
  refine ⟨G, m, μ, sl, wf, rs, rfl, (okA.bind (rep := repV X.K) o).imp fun x H1 ⟨dx, G1, m1, μ1, wf1, st1, r1, o1⟩ => ?_⟩
  refine ⟨G1, m1, μ1, sl, wf1, st1.repS rs, rfl, (okA.bind (rep := repV X.K) o1).imp fun y H2 ⟨dy, G2, m2, μ2, wf2, st2, r2, o2⟩ => ?_⟩
  cases es : setD dx dy d μ2 with
  | none => rw [es] at o2; exact o2.elim
  | some μ4 =>
    rw [es] at o2
    exact set_imp wf2 (st2.repV r1) r2 (st2.repV (st1.repV rd)) es fun H' G' m' wf' st' => o2 () H' G' m' wf' st' trivial
theorem pg_set (hu : X.A.units + 1 < cLine) (ho : PE X o (TD X.K W fo)) (hi : PE X i (TD X.K W fi)) (ha : ∀ v, assign (.Subscript o i pos) X.env v = (do
      let ov ← holding [v] (eval o X.env)
      let iv ← holding [v, ov] (eval i X.env)
      standAt pos
      holding [v, ov, iv] (setItem ov iv v)
      release [v, ov, iv] []) := by intro _; rfl) : PG X (.Subscript o i pos) (gSet X.K W fo fi) := PG_imp (pg_sub ho hi (ptset hu) ha) gSet_imp
theorem psd_sub (hu : X.A.units + 1 < cLine) (he : PE X e (TD X.K W fe)) (ho : PE X o (TD X.K W fo)) (hi : PE X i (TD X.K W fi)) (ha : ∀ v, assign (.Subscript o i pos) X.env v = (do
      let ov ← holding [v] (eval o X.env)
      let iv ← holding [v, ov] (eval i X.env)
      standAt pos
      holding [v, ov, iv] (setItem ov iv v)
      release [v, ov, iv] []) := by intro _; rfl) (hs : swapsWithSole [.Subscript o i pos] e spos.line X.env = pure false := by rfl) (hw : swappedStores [.Subscript o i pos] e X.env = pure none := by rfl)
    (h1 : (assignEach [.Subscript o i pos] X.env).map (·.2) = [assign (.Subscript o i pos) X.env] := by rfl) : PS X (.Assign [.Subscript o i pos] e spos) (TDS X.K W (setS fe fo fi)) :=
  PS_imp (ps_asg he (pg_set hu ho hi ha) hs hw h1) fun D σ H h => by
    obtain ⟨G, m, μ, sl, wf, rs, o⟩ := h
    refine ⟨G, m, μ, sl, wf, rs, rfl, ?_⟩
    unfold setS at o
    have o1 := okS.lif (rep := repV X.K) o rs
    refine (okA.bind (rep := repV X.K) o1).imp fun v H1 ⟨d, G1, m1, μ1, wf1, st1, r1, o2⟩ => ⟨G1, m1, μ1, sl, d, wf1, st1.repS rs, r1, ?_⟩
    revert o2
    cases fo sl μ1 with
    | none => exact fun z => z
    | some q =>
      cases q with
      | exc x μ2 => exact fun z => z
      | ok dx μ2 =>
        dsimp only [bindR]
        cases fi sl μ2 with
        | none => exact fun z => z
        | some q =>
          cases q with
          | exc x μ3 => exact fun z => z
          | ok dy μ3 =>
            dsimp only [bindR]
            cases setD dx dy d μ3 with
            | none => exact fun z => z
            | some μ4 =>
              intro o2 u H' G' m' wf' st' _
              obtain ⟨a, G5, m5, μ5, wf5, st5, rs5, _, o5⟩ := o2 V.non H' G' m' wf' st' rfl
              exact okS.nx o5 wf5 rs5
end
end Pd
end
section
namespace Pd
open PySem PySem.Spec L2
/-! ### defs -/
/-- a def's promise, by its plain function of the arguments and the store -/
def spD (K : PySem.W.Frag) (F : DC) (n : Nat) : Sp := fun vs H Q E => vs.length = n ∧ ∃ G m μ ds, Wf K H G m μ ∧ RepL K G m ds vs ∧ okA (repV K) K (fun c d _ H' => E c d H') [] H G m μ (F ds μ) Q
/-- what a body gives, from the arguments -/
def bodyR (b : DS) (n : Nat) : DC := fun ds μ => match b (ds.map some ++ List.replicate (n - ds.length) none) μ with
  | some (.rt d μ') => ok d μ'
  | some (.nx _ μ') => ok .non μ'
  | some (.exc x _ μ') => some (.exc x μ')
  | _ => none
structure FnG (P : Program) (w : World) (K : PySem.W.Frag) (mg : Str → Option Value) (base : Heap) (k : Nat) (f : Addr) (fd : FuncData) (ps : List Str) (F : DC) : Prop where
  run : ∀ (A : Around) (outer : List Env) (s : Shared) (H : Hp) (args : Args) (us : List Value) (vs : List V) (Q : VK) (E : XK), Room k A → A.guards = some [] → Env0 P w K mg base A outer s H → BindsTo s fd args (ps.zip us) → Vals vs us → spD K F ps.length vs H Q E →
    codeAny (model P w) A (.call (.ref f) args) (CR (L2.CX P w) outer P w H s Q E) s
theorem FnG.mono {P : Program} {w : World} {K : PySem.W.Frag} {mg : Str → Option Value} {base : Heap} {j k : Nat} {f : Addr} {fd : FuncData} {ps : List Str} {F : DC} (h : FnG P w K mg base j f fd ps F) (hk : j ≤ k) : FnG P w K mg base k f fd ps F :=
  ⟨fun A outer s H args us vs Q E hr => h.run A outer s H args us vs Q E (hr.mono hk)⟩
abbrev wE (E : XK) : WX := fun c d _ H' => E c d H'
theorem start_rep {K : PySem.W.Frag} {G : Hp} {m : List Addr} {N : List Str} {ds : List D} {vs : List V} (l : RepL K G m ds vs) : RepS K G m (ds.map some ++ List.replicate (N.length - ds.length) none) (L2.start N vs) := by
  unfold L2.start
  refine ⟨by simp [l.length], fun i d e => ?_⟩
  have hi : i < ds.length := by
    by_cases hi : i < ds.length
    · exact hi
    · rw [List.getElem?_append_right (by simpa using hi), List.getElem?_replicate] at e
      split at e <;> cases e
  rw [List.getElem?_append_left (by simpa using hi), List.getElem?_map] at e
  cases e2 : ds[i]? with
  | none => rw [e2] at e; cases e
  | some d' =>
    rw [e2] at e; cases e
    obtain ⟨v, hv, rv⟩ := l.get e2
    have hl := l.length
    exact ⟨v, by rw [List.getElem?_append_left (by simp [hl]; exact hi), List.getElem?_map, hv]; rfl, rv⟩
theorem body_ok {K : PySem.W.Frag} {bD : DS} {N : List Str} {vs : List V} {H : Hp} {Q : VK} {E : XK} {n : Nat} (h : spD K (bodyR bD N.length) n vs H Q E) : TDS K (wE E) bD { nx := fun _ H' => Q .non H', rt := Q } (L2.start N vs) H := by
  obtain ⟨_, G, m, μ, ds, wf, l, o⟩ := h
  refine ⟨G, m, μ, _, wf, start_rep (N := N) l, ?_⟩
  unfold bodyR at o
  revert o
  cases bD (ds.map some ++ List.replicate (N.length - ds.length) none) μ with
  | none => exact fun z => z
  | some q =>
    cases q with
    | nx sl μ' => exact fun o σ H' G' m' wf' st rs => o .non H' G' m' wf' st rfl
    | rt d μ' => exact fun o => o
    | bk sl μ' => exact fun z => z.elim
    | ct sl μ' => exact fun z => z.elim
    | exc x sl μ' => exact fun o c dd σ H' G' m' wf' st rs er => o c dd H' G' m' wf' st er
section
variable {P : Program} {w : World} {K : PySem.W.Frag} {mg : Str → Option Value} {base : Heap}
/-- what a body may use of its context -/
structure Ctx (k : Nat) (W : WX) (X : Cx) : Prop where
  room : Room k X.A
  gd : X.A.guards = some []
  tk : Takes X W
  ps : PassesOwn (model X.prog X.w) X.A X.env X.xe
  calm : X.calm = true
theorem fnG_of {k : Nat} {f : Addr} {name qual : Str} {params : Arguments} {body : List Stmt} {scope : Scope} {dV kV doc pm cdv ct oc : Value} {an od : Option Addr}
    {osl : Array (Option Value)} {N ps : List Str} {bD : DS} (lk : K.lookup f = some ⟨oc, od, .func (PySem.W.fnOf name qual params body scope dV kV doc pm an cdv ct), osl⟩) (hcd : PySem.W.codeIn K cdv qual = true) (S : FnScope N ps scope)
    (hbody : ∀ (A : Around) (outer : List Env) (s : Shared) (H : Hp) (E : XK), Ctx k (wE E) (cxOf (L2.CX P w) P w K mg base N qual scope f cdv A outer s H E) → PSs (cxOf (L2.CX P w) P w K mg base N qual scope f cdv A outer s H E) body (TDS K (wE E) bD)) :
    FnG P w K mg base (k + 1) f (PySem.W.fnOf name qual params body scope dV kV doc pm an cdv ct) ps (bodyR bD N.length) := by
  refine ⟨fun A outer s H args us vs Q E hr hgd e0 hb rl hsp => ?_⟩
  have hlen := hsp.1
  have kIn : K.In s.heap := e0.mod.kin.keeps fun b o e => (e0.bs b o e).1
  have noLim : s.heap.NoLimit := e0.mod.nolimit.keeps fun b o e => (e0.bs b o e).1
  have kinds : ∀ y ∈ ps.zip us, scope.names.lookup y.1 = some .local ∨ (scope.names.lookup y.1 = some .cell ∧ ((cellsFrom (s.heap.objs.size + 1) scope.names []).lookup y.1).isSome = true) := fun ⟨n, v⟩ hy =>
    (S.par n (List.of_mem_zip hy).1).imp (fun q => q) fun q => ⟨q, PySem.W.cellsFrom_some _ _ _ (.inl q)⟩
  refine codeAny_call_function hr.depth (kIn _ _ lk) rfl S.co S.gen rfl (PySem.W.codeRec_of kIn hcd) (hb _ _ _ _ ?_)
  refine wpAny_newFunctionEnv_cells S.kind kinds fun env he s1 inC => ?_
  subst he
  refine ⟨noLim.keeps inC.toInCall.keep, codeAny_func ?_⟩
  have tk := takes_of (X := cxOf (L2.CX P w) P w K mg base N qual scope f cdv A outer s H E) (E := E) rfl rfl rfl rfl
  have ht := hbody A outer s H E ⟨hr.deeper _, hgd, tk, passes_of rfl, rfl⟩
  have J0 : Inv (cxOf (L2.CX P w) P w K mg base N qual scope f cdv A outer s H E) [] (L2.start N vs) H s1 := inv_start S hr.hd e0 hlen rl inC
  refine wpAny_mono (ht.run [] s1 (L2.start N vs) H _ J0 (body_ok hsp)) (fun fl s2 hs => ?_) fun e s2 hs => hs
  have fin : ∀ {σ2 : L2.St} {H2 : Hp} {v : V} {u : Value}, Inv (cxOf (L2.CX P w) P w K mg base N qual scope f cdv A outer s H E) [] σ2 H2 s2 → RelV v u → Q v H2 → CE outer P w H s Q u s2 :=
    fun {σ2 H2 v u} J rv q => ⟨v, H2, J.os, J.bare, J.base, J.hok, rv, q⟩
  cases fl with
  | ret u => obtain ⟨v, σ2, H2, J, rv, q⟩ := hs; exact fin J rv q
  | next => obtain ⟨σ2, H2, J, q⟩ := hs; exact fin (v := V.non) (u := Value.none) J rfl q
  | brk => obtain ⟨_, _, _, q⟩ := hs; exact q.elim
  | cont => obtain ⟨_, _, _, q⟩ := hs; exact q.elim
theorem fnG {x qual : Str} {params : Arguments} {body : List Stmt} {scope : Scope} {dvs : List V} {kws : List (Str × V)} {f : Addr} {fd : FuncData} {N ps : List Str} {k : Nat} {bD : DS} (F : FunD K x qual params body scope dvs kws f fd) (S : FnScope N ps scope)
    (hbody : ∀ (cdv : Value) (A : Around) (outer : List Env) (s : Shared) (H : Hp) (E : XK), Ctx k (wE E) (cxOf (L2.CX P w) P w K mg base N qual scope f cdv A outer s H E) → PSs (cxOf (L2.CX P w) P w K mg base N qual scope f cdv A outer s H E) body (TDS K (wE E) bD)) :
    FnG P w K mg base (k + 1) f fd ps (bodyR bD N.length) := by
  obtain ⟨oc, od, dV, kV, doc, pm, an, cdv, ct, osl, rfl, lk, hcd, _, _⟩ := F.ex
  exact fnG_of lk hcd S fun A outer s H E c => hbody cdv A outer s H E c
end
theorem Ctx.blk {k : Nat} {W : WX} {X : Cx} (c : Ctx k W X) (s : Shared) (H : Hp) (scope : Scope) (cenv : Env) (fp : List Addr) : Ctx k nW (X.blk s H scope cenv fp) :=
  ⟨c.room, c.gd, takes0, PassesOwn.never, c.calm⟩
/-! calls of them -/
section
variable {X : Cx} {W : WX} {k k' : Nat} {f : Addr} {fd : FuncData} {ps : List Str} {F : DC} {x : Str} {p pos : Pos} {e : Expr} {es : List Expr} {fl : DL}
theorem callG {pins : List (Addr × Obj)} {σ : L2.St} {H : Hp} {s : Shared} {Q : VK} {us : List Value} {vs : List V} (h : FnG X.prog X.w X.K X.mg X.base k f fd ps F) (c : Ctx k W X) (hb : Binds X.K fd ps [])
    (I : Inv X pins σ H s) (r : Vals vs us) (hq : vs.length = ps.length → spD X.K F ps.length vs H Q (WE W σ)) (hl : vs.length = ps.length) : wpAny (model X.prog X.w) X.A (call (.ref f) us) (EP X pins σ Q) X.xe s := by
  have hul : us.length = ps.length := by rw [← r.length]; exact hl
  have b := hb s us I.kIn (by rw [List.append_nil]; exact hul)
  rw [List.append_nil] at b
  refine wpAny_call (codeAny_mono (h.run X.A X.stack s H ⟨us, []⟩ us vs Q (WE W σ) c.room c.gd I.env0 b r (hq hl)) fun r s' hc => ?_)
  cases r with
  | error e => exact passAt c.tk σ pins H s e s' I hc
  | ok fl =>
    cases fl with
    | ret u => exact I.after hc
    | next => exact hc.elim
    | brk => exact hc.elim
    | cont => exact hc.elim
/-- the number of arguments is looked at -/
def callN (n : Nat) (F : DC) : DC := fun ds μ => if ds.length = n then F ds μ else none
theorem ped_call (h : FnG X.prog X.w X.K X.mg X.base k' f fd ps F) (c : Ctx k W X) (hk : k' ≤ k) (hg : Gl X x) (hm : X.mg x = some (.ref f)) (kp : PySem.W.keepIn X.K (.ref f) = true) (hb : Binds X.K fd ps []) (ha : PA X (e :: es) (TDs X.K W fl))
    (hdb : (x == ("__debug__" : Str)) = false := by decide) (he : starEach (e :: es) X.env = (false, eval e X.env) :: starEach es X.env := by rfl) (hpl : (backTo pos (starEach es X.env)).any (·.1) = false := by rfl) :
    PE X (.Call (.Name x p) (e :: es) [] pos) (TD X.K W (callB (callN ps.length F) fl)) := by
  refine ⟨fun pins s σ H Q I h0 => ?_⟩
  refine wpAny_Call_Name_kw (ld_glob I hg hm ?_ hdb)
  refine PySem.W.callWith_K (h₀ := X.base) I.ok.mod.kin kp (thn (ha.run pos pins s σ H _ I (T.bindL h0)) fun us s1 ⟨vs, H1, I1, r, ds, G, m, μ, sl, wf, rs, _, rl, o⟩ => ⟨I1.kIn, ?_⟩) he hpl
  unfold callN at o
  split at o
  · rename_i hz
    refine callG (h.mono hk) c hb I1 r (fun hl => ⟨hl, G, m, μ, ds, wf, rl, ?_⟩) (by rw [rl.length]; exact hz)
    revert o
    cases F ds μ with
    | none => exact fun z => z
    | some q => cases q <;> exact fun z => z
  · exact o.elim
theorem ped_call0 (h : FnG X.prog X.w X.K X.mg X.base k' f fd [] F) (c : Ctx k W X) (hk : k' ≤ k) (hg : Gl X x) (hm : X.mg x = some (.ref f)) (kp : PySem.W.keepIn X.K (.ref f) = true) (hb : Binds X.K fd [] [])
    (hdb : (x == ("__debug__" : Str)) = false := by decide) : PE X (.Call (.Name x p) [] [] pos) (TD X.K W (fun _ μ => F [] μ)) := by
  refine ⟨fun pins s σ H Q I ⟨G, m, μ, sl, wf, rs, _, o⟩ => ?_⟩
  refine wpAny_Call_Name_kw (ld_glob I hg hm ?_ hdb)
  refine PySem.W.callWith_K0 I.kIn kp (callG (us := []) (vs := []) (h.mono hk) c hb I .nil (fun hl => ⟨hl, G, m, μ, [], wf, rfl, ?_⟩) rfl)
  have o : okA (repV X.K) X.K W σ H G m μ (F [] μ) Q := o
  revert o
  cases F [] μ with
  | none => exact fun z => z
  | some q => cases q <;> exact fun z => z
end
/-! ### the law's own call -/
/-- what the law's function must do: at every script, whatever the store, it gives True -/
def LawD (n : Nat) (F : DC) : Prop := ∀ ns : List Int, ns.length ≤ n → (∀ z ∈ ns, Builtin.Int.intBits z ≤ 1048576) → ∃ μ', F [.lst (ns.map D.int)] [] = ok (.bl true) μ'
theorem ints_rep {K : PySem.W.Frag} {G : Hp} {m : List Addr} : ∀ ns : List Int, RepL K G m (ns.map D.int) (ns.map V.int)
  | [] => rfl
  | n :: ns => ⟨.int n, ns.map V.int, rfl, rfl, ints_rep ns⟩
theorem lawD_sp {K : PySem.W.Frag} {F : DC} {n : Nat} (h : LawD n F) {H : Hp} {a : Addr} {ns : List Int} (hn : ns.length ≤ n) (hz : ∀ z ∈ ns, Builtin.Int.intBits z ≤ 1048576) (hS : SqL K H a (ns.map V.int)) : spD K F 1 [.ref a] H (fun v _ => v = .bl true) fun _ _ _ => False := by
  refine ⟨rfl, H, [], [], [.lst (ns.map D.int)], ⟨Le.refl _, rfl, fun l c a e => by simp at e, fun l l' a c c' e => by simp at e⟩, ⟨.ref a, [], rfl, ⟨a, _, rfl, hS, ints_rep ns⟩, rfl⟩, ?_⟩
  obtain ⟨μ', e⟩ := h ns hn hz
  rw [e]
  exact fun v H' G' m' _ _ r => r
theorem lawG0 {P : Program} {w : World} {K : PySem.W.Frag} {mg mb : Str → Option Value} {k n : Nat} {fa a : Addr} {fd : FuncData} {x : Str} {F : DC} {s1 : Shared} {us : List Value} {ns : List Int} {ob : Obj} {H : Hp}
    (kIn : K.In s1.heap) (ng : s1.heap.Ns mainGlobals mg) (nb : s1.heap.Ns builtinsNs mb) (bb : ∀ x : Str, x ≠ "__name__" → mb x = bootBuiltins x) (noLim : s1.heap.NoLimit) (noGen : s1.gens = #[])
    (eob : ob = { cls := .type "list", data := .seq us.toArray }) (ha : s1.heap.get? a = some ob) (vs : Vals (ns.map V.int) us) (hn : ns.length ≤ n) (hn2 : n ≤ sizeLine) (hz : ∀ z ∈ ns, Builtin.Int.intBits z ≤ 1048576) (hr : Room k callerA)
    (h : ∀ base : Heap, K.In base → base.Ns mainGlobals mg → FnG P w K mg base k fa fd [x] F) (hb : ∀ (s : Shared) (u : Value), BindsTo s fd ⟨[u], []⟩ [(x, u)]) (hF : LawD n F)
    (hS : SqL K H a (ns.map V.int)) (Hs : ∀ {b : Addr} {u : HO}, H b = some u → b = a ∧ u = .frz ob (.lst (ns.map V.int)) ∧ K.lookup a = none) :
    codeAny (model P w) callerA (.call (.ref fa) ⟨[.ref a], []⟩) (fun r s2 => r = .ok (.ret (.bool true)) ∧ OldK s1.heap s2.heap ∧ s2.os = s1.os ∧ PyProof.Rows.AllBare s2.gens) s1 := by
  have hl : ns.length ≤ sizeLine := Nat.le_trans hn hn2
  have Hn : ∀ {b : Addr}, (∀ u, H b ≠ some u) → H b = none := fun {b} h => by
    cases e : H b with
    | none => rfl
    | some u => exact absurd e (h u)
  have hok : HOk P w H s1.heap := fun b u e => by
    obtain ⟨rfl, rfl, _⟩ := Hs e
    exact ⟨ha, by rw [List.length_map]; exact hl, us, _, vs, eob ▸ ha⟩
  have baseOf : ∀ {b : Addr} {o : Obj}, s1.heap.get? b = some o → H b = none → (hidT s1.heap H).get? b = some o := fun e n => hidT_get e n
  have notDict : ∀ {b : Addr} {o : Obj} {es : Array DictEntry} {ep : Nat}, s1.heap.get? b = some o → o.data = .dict es ep → H b = none := fun {b o es ep} e d => Hn fun u q => by
    obtain ⟨rfl, _, _⟩ := Hs q
    rw [ha] at e; cases e
    subst eob
    exact nomatch (show Data.seq us.toArray _ = Data.dict es ep from d)
  have nsOf : ∀ {b : Addr} {mm : Str → Option Value}, s1.heap.Ns b mm → (hidT s1.heap H).Ns b mm := fun {b mm} ⟨o, es, ep, e, d, r⟩ => ⟨o, es, ep, baseOf e (notDict e d), d, r⟩
  have kB : K.In (hidT s1.heap H) := fun b o e => baseOf (kIn b o e) (Hn fun u q => by
    obtain ⟨rfl, _, z⟩ := Hs q
    rw [z] at e; cases e)
  have hM : Mod K mg (hidT s1.heap H) := ⟨kB, nsOf ng, ⟨mb, nsOf nb, bb⟩, let ⟨mc, h1, h2⟩ := noLim; ⟨mc, nsOf h1, h2⟩⟩
  have e0 : Env0 P w K mg (hidT s1.heap H) callerA [] s1 H := ⟨rfl, hM, fun b o e => of_hidT e, Nat.le_of_eq (hidT_size _ _), trivial, fun b hb => absurd (show b ∈ ([] : List Addr) from hb) (by simp), hok, .of_eq noGen⟩
  refine codeAny_mono ((h _ kB (nsOf ng)).run callerA [] s1 H ⟨[.ref a], []⟩ [.ref a] [.ref a] _ _ hr rfl e0 (hb s1 (.ref a)) (.cons rfl .nil) (lawD_sp hF hn hz hS)) fun r s2 hc => ?_
  cases r with
  | error e =>
    obtain ⟨_, _, _, _, _, _, _, _, _, _, _, _, z⟩ := hc
    exact z.elim
  | ok fl =>
    cases fl with
    | next => exact hc.elim
    | brk => exact hc.elim
    | cont => exact hc.elim
    | ret u =>
      obtain ⟨v, H', os, bare, un, hok', r', q⟩ := hc
      have q : v = .bl true := q
      subst q
      obtain rfl : u = Value.bool true := r'
      refine ⟨rfl, OldK.of_keep fun b o e => ?_, os, bare⟩
      cases z : H b with
      | some u =>
        obtain ⟨rfl, rfl, _⟩ := Hs z
        obtain ⟨e2, _⟩ := hok' b _ (un.frzs b ob _ z)
        rw [ha] at e; cases e
        exact e2
      | none => exact un.keep b o e z (by intro z; exact absurd (show b ∈ ([] : List Addr) from z) (by simp)) (by simp)
theorem lawG {P : Program} {w : World} {K : PySem.W.Frag} {mg mb : Str → Option Value} {k n : Nat} {fa a : Addr} {fd : FuncData} {x : Str} {F : DC} {s1 : Shared} {us : List Value} {ns : List Int}
    (kIn : K.In s1.heap) (ng : s1.heap.Ns mainGlobals mg) (nb : s1.heap.Ns builtinsNs mb) (bb : ∀ x : Str, x ≠ "__name__" → mb x = bootBuiltins x) (noLim : s1.heap.NoLimit) (noGen : s1.gens = #[])
    (ha : s1.heap.get? a = some { cls := .type "list", data := .seq us.toArray }) (hi : PyProof.Rows.IntsAre us ns) (hn : ns.length ≤ n) (hn2 : n ≤ sizeLine) (hz : ∀ z ∈ ns, Builtin.Int.intBits z ≤ 1048576) (hr : Room k callerA)
    (h : ∀ base : Heap, K.In base → base.Ns mainGlobals mg → FnG P w K mg base k fa fd [x] F) (hb : ∀ (s : Shared) (u : Value), BindsTo s fd ⟨[u], []⟩ [(x, u)]) (hF : LawD n F) :
    codeAny (model P w) callerA (.call (.ref fa) ⟨[.ref a], []⟩) (fun r s2 => r = .ok (.ret (.bool true)) ∧ OldK s1.heap s2.heap ∧ s2.os = s1.os ∧ PyProof.Rows.AllBare s2.gens) s1 := by
  have vs := vals_ints hi
  have lenV := hi.length
  cases hk : K.lookup a with
  | some o =>
    have e := kIn a o hk
    rw [ha] at e
    cases e
    refine lawG0 (H := fun _ => none) kIn ng nb bb noLim noGen rfl ha vs hn hn2 hz hr h hb hF (.inr ⟨_, us.toArray, _, hk, rfl, rfl, rfl, ?_, by simpa using vs⟩) fun e => by cases e
    rw [List.size_toArray, lenV]; exact Nat.le_trans hn hn2
  | none =>
    refine lawG0 (H := fun b => if b = a then some (.frz { cls := .type "list", data := .seq us.toArray } (.lst (ns.map V.int))) else none) kIn ng nb bb noLim noGen rfl ha vs hn hn2 hz hr h hb hF (.inl (.inr ⟨_, if_pos rfl⟩)) fun {b u} e => ?_
    by_cases q : b = a
    · subst q
      rw [if_pos rfl] at e; cases e
      exact ⟨rfl, rfl, hk⟩
    · rw [if_neg q] at e; cases e
/-- .. as the head's end wants it -/
theorem walkG {l : PySem.W.OpenLaw} {n k : Nat} {q : Program} {loose : List Str} {XP : (Str → Option Value) → Heap → Prop} {YP : World → Heap → Prop} {d : DefRec} {x : Str}
    (hn : l.most = some n) (hn2 : n ≤ sizeLine) (hdf : d.params.defaults = []) (hr : Room k callerA)
    (F : ∀ (w : World) (mg : Str → Option Value) (fa : Addr) (h : Heap), YP w h → h.Ns mainGlobals mg → mg d.name = some (.ref fa) →
      ∃ (K : PySem.W.Frag) (fd : FuncData) (Fd : DC), K.In h ∧ (∀ (s : Shared) (u : Value), BindsTo s fd ⟨[u], []⟩ [(x, u)]) ∧ LawD n Fd ∧
        ∀ base : Heap, K.In base → base.Ns mainGlobals mg → FnG l.prog w K mg base k fa fd [x] Fd) :
    PySem.W.WalkO q loose XP YP l.row.toRowW d [] (fun f vs => PySem.call f vs) := by
  refine Att.attach_callB hn hdf fun w s0 s1 mg mb fa o pm cd doc a us ns G Y ho hd hcd hmg hobj hints hlen hbits hg => ?_
  obtain ⟨K, fd, Fd, kIn, hb, hL, hF⟩ := F w mg fa _ Y G.T.g hmg
  exact lawG kIn G.T.g G.T.b G.T.builtins G.T.nolimit hg hobj hints hlen hn2 hbits hr hF hb hL
end Pd
end
section
namespace Pd
open PySem PySem.Spec L2 StX
/-! ### starred items -/
def stL (f : DE) (g : DL) : DL := fun sl μ => bindR (f sl μ) fun d μ1 => match seqOf μ1 d with
  | some xs => bindR (g sl μ1) fun es μ2 => ok (xs ++ es) μ2
  | none => none
section
variable {X : Cx} {W : WX} {e : Expr} {es : List Expr} {fe : DE} {fl : DL} {p pos p2 p3 : Pos}
theorem pad_star (he : PE X e (TD X.K W fe)) (hr : PA X es (TDs X.K W fl)) (hs : starEach (.Starred e p :: es) X.env = (true, eval e X.env) :: starEach es X.env := by rfl) : PA X (.Starred e p :: es) (TDs X.K W (stL fe fl)) :=
  PA_imp (pa_star he hr hs) fun σ H Q h => (T.bindV h).imp fun v H1 ⟨d, G, m, μ, sl, wf, rs, r, o⟩ => by
    split at o
    · rename_i xs e2
      obtain ⟨a, vs, rfl, q, l⟩ := seqOf_rep wf e2 r
      refine ⟨a, vs, rfl, q.symm, G, m, μ, sl, wf, rs, rfl, (okA.bind (rep := repL X.K) o).imp fun ws H2 ⟨ds, G2, m2, μ2, wf2, st2, l2, o2⟩ => ?_⟩
      exact okA.get (a := xs ++ ds) o2 wf2 ((st2.repL l).app l2)
    · exact o.elim
end
/-! ### xs[::-1] -/
def revL (f : DE) : DE := fun sl μ => bindR (f sl μ) fun d μ1 => match lstOf μ1 d with
  | some ds => ok (.lst ds.reverse) μ1
  | none => none
section
variable {X : Cx} {W : WX} {e : Expr} {fe : DE} {p1 p2 p3 pos : Pos} {k : Nat}
theorem pef_rev (he : PE X e (TD X.K W fe)) : PE X (.Subscript e (.Slice none none (some (.UnaryOp .USub (.Constant (.int 1) k p1) p2)) p3) pos) (TF X.K W (revL fe)) :=
  PE_imp (pe_revL he) fun σ H Q h => (TFs.bindD h.s).imp fun v H1 ⟨d, G, m, μ, sl, wf, rs, ⟨w1, l1, e1, r, e2⟩, o⟩ => by
    cases e1; cases e2
    dsimp only at o
    split at o
    · rename_i ds e2
      obtain ⟨a, vs, rfl, q, l⟩ := lstOf_rep wf e2 r
      exact ⟨a, vs, rfl, q, okF.lst o wf l.rev⟩
    · exact o.elim
end
/-! ### a list that changes no more: as data -/
def frzD (f : DE) : DE := fun sl μ => bindR (f sl μ) fun d μ1 => match d with
  | .ref l => match μ1[l]? with
    | some (some (.lst ds)) => ok (.lst ds) (μ1.set l none)
    | _ => none
  | _ => none
theorem frz_imp {K : PySem.W.Frag} {W : WX} {f : DE} (σ : L2.St) (H : Hp) (Q : VK) (h : TD K W (frzD f) σ H Q) : TD K W f σ H Q :=
  (T.bindV h).imp fun v H1 ⟨d, G, m, μ, sl, wf, rs, r, o⟩ => by
    split at o
    · rename_i l
      split at o
      · rename_i ds e
        obtain ⟨a, rfl, h2, g, vs, hq, rl⟩ := wf.live_get e r
        refine o (.ref a) H1 (upd G a (.lst vs)) m (wf.frozen e h2 hq) (Step.frozen wf e h2) ⟨a, vs, rfl, .inl (.inl upd_same), ?_⟩
        exact rl.laid g
      · exact o.elim
    · exact o.elim
theorem ped_frz {X : Cx} {W : WX} {e : Expr} {f : DE} (h : PE X e (TD X.K W f)) : PE X e (TD X.K W (frzD f)) := PE_imp h frz_imp
/-! ### {k: v, ..} -/
/-- the pairs, from the left -/
def pairD : List (DE × DE) → Sl → Mu → R (List (Key × D))
  | [], _, μ => ok [] μ
  | (fk, fv) :: r, sl, μ => bindR (fk sl μ) fun x μ1 => bindR (fv sl μ1) fun y μ2 => match keyOf x with
    | some k => bindR (pairD r sl μ2) fun ps μ3 => ok ((k, y) :: ps) μ3
    | none => none
def mergD : List Key → List D → List (Key × D) → List Key × List D
  | ks, xs, [] => (ks, xs)
  | ks, xs, (k, y) :: ps => mergD (putKs ks k) (putXs ks xs k y) ps
def dispD (ps : List (DE × DE)) : DE := fun sl μ => bindR (pairD ps sl μ) fun qs μ1 => if qs.length ≤ 15 then ok (.dic (mergD [] [] qs).1 (mergD [] [] qs).2) μ1 else none
theorem merg_rep {K : PySem.W.Frag} {G : Hp} {m : List Addr} : ∀ (qs : List (Key × D)) (us : List V) (ks : List Key) (xs : List D) (vs : List V), RepL K G m (qs.map (·.2)) us → ks.length = xs.length → RepL K G m xs vs →
    ∃ ws, mergeK (ks.zip vs) ((qs.map (·.1)).zip us) = (mergD ks xs qs).1.zip ws ∧ (mergD ks xs qs).1.length = (mergD ks xs qs).2.length ∧ RepL K G m (mergD ks xs qs).2 ws
  | [], us, ks, xs, vs, r, h, l => by
    cases r
    exact ⟨vs, rfl, h, l⟩
  | (k, y) :: qs, us, ks, xs, vs, r, h, l => by
    obtain ⟨v, us', rfl, r1, r2⟩ := r
    have hl : ks.length = vs.length := by rw [l.length]; exact h
    obtain ⟨ws, e1, e2, e3⟩ := merg_rep qs us' (putKs ks k) (putXs ks xs k y) (putXs ks vs k v) r2 (putLen h k y) (put_rep k r1 l)
    refine ⟨ws, ?_, e2, e3⟩
    show mergeK (putK (ks.zip vs) k v) ((qs.map (·.1)).zip us') = _
    rw [putK_zip k v ks vs hl]
    exact e1
section
variable {X : Cx} {W : WX} {pos : Pos}
/-- the pairs' rules -/
inductive Prs (X : Cx) (W : WX) (pos : Pos) : List (Option Expr) → List Expr → List (DE × DE) → Prop
  | nil : Prs X W pos [] [] []
  | cons {k v : Expr} {ks : List (Option Expr)} {vs : List Expr} {fk fv : DE} {ps : List (DE × DE)} : PE X k (TD X.K W fk) → PE X v (TD X.K W fv) → Prs X W pos ks vs ps → Prs X W pos (some k :: ks) (v :: vs) ((fk, fv) :: ps)
theorem Prs.pps {ks : List (Option Expr)} {vs : List Expr} {ps : List (DE × DE)} (h : Prs X W pos ks vs ps) : PPs X pos ks vs (ps.map fun p => (TD X.K W p.1, TD X.K W p.2)) := by
  induction h with
  | nil => exact pps_nil
  | cons h1 h2 h3 ih => exact pps_cons h1 h2 ih
theorem pair_imp {K : PySem.W.Frag} {W : WX} {p : Addr} {σ : L2.St} {H0 G0 : Hp} {m0 : List Addr} {μ0 : Mu} : ∀ (ps : List (DE × DE)) (Q : List (V × V) → Hp → Prop) (H G : Hp) (m : List Addr) (μ : Mu) (sl : Sl) (k : List (Key × D) → Mu → R D) (Qd : VK),
    Wf K H G m μ → RepS K G m sl σ → Hid K H G m μ p (.dK []) → Step H0 G0 m0 μ0 H G m μ →
    okF K W σ H0 G0 m0 μ0 (bindR (pairD ps sl μ) k) Qd → 
    (∀ qs us H' G' m' μ', Wf K H' G' m' μ' → Hid K H' G' m' μ' p (.dK []) → Step H G m μ H' G' m' μ' → RepL K G' m' (qs.map (·.2)) us → okF K W σ H0 G0 m0 μ0 (k qs μ') Qd → Q ((qs.map fun q => kV q.1).zip us) H') →
    tPairs (ps.map fun p => (TD K W p.1, TD K W p.2)) σ H Q := by
  intro ps
  induction ps with
  | nil =>
    intro Q H G m μ sl k Qd wf rs hd st o fin
    exact fin [] [] H G m μ wf hd Step.refl rfl o
  | cons q ps ih =>
    intro Q H G m μ sl k Qd wf rs hd st o fin
    obtain ⟨fk, fv⟩ := q
    unfold pairD at o
    refine ⟨G, m, μ, sl, wf, rs, rfl, ?_⟩
    show okA (repV K) K W σ H G m μ (fk sl μ) _
    revert o
    cases fk sl μ with
    | none => exact fun z => z.elim
    | some q1 =>
      cases q1 with
      | exc x μ1 => exact fun o c dd H' G' m' wf' st' e => o c dd H' G' m' wf' (st.trans st') e
      | ok dx μ1 =>
        intro o vx H1 G1 m1 wf1 st1 rx
        refine ⟨G1, m1, μ1, sl, wf1, st1.repS rs, rfl, ?_⟩
        show okA (repV K) K W σ H1 G1 m1 μ1 (fv sl μ1) _
        dsimp only [bindR] at o
        revert o
        cases fv sl μ1 with
        | none => exact fun z => z.elim
        | some q2 =>
          cases q2 with
          | exc x μ2 => exact fun o c dd H' G' m' wf' st' e => o c dd H' G' m' wf' ((st.trans st1).trans st') e
          | ok dy μ2 =>
            intro o vy H2 G2 m2 wf2 st2 ry
            dsimp only [bindR] at o
            cases ek : keyOf dx with
            | none => rw [ek] at o; exact o.elim
            | some kk =>
              rw [ek] at o
              have evx := keyOf_rep ek rx
              refine ih _ H2 G2 m2 μ2 sl (fun qs μ' => k ((kk, dy) :: qs) μ') Qd wf2 ((st1.trans st2).repS rs) (hd.step (st1.trans st2)) (st.trans (st1.trans st2)) ?_ fun qs us H' G' m' μ' wf' hd' st' l' o' => ?_
              · have o : okF K W σ H0 G0 m0 μ0 (bindR (bindR (pairD ps sl μ2) fun ps μ3 => ok ((kk, dy) :: ps) μ3) k) Qd := o
                revert o
                cases pairD ps sl μ2 with
                | none => exact fun z => z
                | some q3 => cases q3 <;> exact fun z => z
              · subst evx
                exact fin ((kk, dy) :: qs) (vy :: us) H' G' m' μ' wf' hd' ((st1.trans st2).trans st') ⟨vy, us, rfl, st'.repV ry, l'⟩ o'
theorem zip_map {qs : List (Key × D)} {us : List V} : ((qs.map fun q => kV q.1).zip us) = ((qs.map (·.1)).zip us).map fun kv => (kV kv.1, kv.2) := by
  rw [List.zip_map_left, List.zip_map_left, List.map_map]
  rfl
theorem disp_imp {ps : List (DE × DE)} (σ : L2.St) (H : Hp) (Q : VK) (h : TF X.K W (dispD ps) σ H Q) : tDisp (ps.map fun p => (TD X.K W p.1, TD X.K W p.2)) σ H Q := by
  obtain ⟨G, m, μ, sl, wf, rs, o⟩ := h
  intro p hp
  refine pair_imp (K := X.K) (W := W) (p := p) (H0 := H) (G0 := G) (m0 := m) (μ0 := μ) ps _ (upd H p (.dK [])) G m μ sl _ Q (wf.hid hp) rs ⟨wf.gnone hp, wf.dead hp, upd_same⟩ (Step.hid hp) o fun qs us H' G' m' μ' wf' hd' st' l' o' => ?_
  split at o'
  · rename_i hz
    refine ⟨hd'.h, (qs.map (·.1)).zip us, zip_map, ?_, ?_⟩
    · rw [List.length_zip, List.length_map, l'.length, List.length_map, Nat.min_self]; exact hz
    · obtain ⟨ws, e1, e2, e3⟩ := merg_rep qs us [] [] [] l' rfl rfl
      have e1 : mergeK [] ((qs.map (·.1)).zip us) = (mergD [] [] qs).1.zip ws := e1
      rw [e1]
      have st0 : Step H G m μ (del H' p) G' m' μ' := ((Step.hid hp).trans st').del hp
      have := o' p ws (del H' p) G' m' (wf'.del hd'.g hd'.nl) st0 del_same e2 e3
      have eu : ∀ o, upd (del H' p) p o = upd H' p o := fun o => by
        funext a
        by_cases e : a = p
        · subst e; rw [upd_same, upd_same]
        · rw [upd_ne e, upd_ne e, del_ne e]
      rw [eu] at this
      exact this
  · exact o'.elim
theorem pef_disp {ks : List (Option Expr)} {vs : List Expr} {ps : List (DE × DE)} (h : Prs X W pos ks vs ps) (hall : ks.all (·.isSome) = true) (hl : ks.length = vs.length) (h0 : ks ≠ []) (h15 : ks.length ≤ 15) : PE X (.Dict ks vs pos) (TF X.K W (dispD ps)) :=
  PE_imp (pe_disp h.pps hall hl h0 h15) disp_imp
end
end Pd
end
section
namespace Pd
open PySem PySem.Spec L2
/-! ### times -/
theorem op_repX {X : Cx} : OpR X (binaryOp .Mult) (fun x y H Q => ∃ l k xs, x = .ref l ∧ y = .int k ∧ SqL X.K H l xs ∧ -(2 ^ 63) ≤ k ∧ k < 2 ^ 63 ∧ xs.length * k.toNat ≤ sizeLine ∧ ∀ p, H p = none → Q (.ref p) (upd H p (.lst (List.replicate k.toNat xs).flatten))) := by
  intro pins s σ H x y v u Q I rx ry ⟨l, k, xs, ex, ey, h1, ha, hb, hz, q⟩
  subst ex; subst ey
  cases rx
  obtain ⟨tk, rfl⟩ := ry
  obtain ⟨is, r1, ⟨⟨c1, d1, t1, sl1⟩, n1, o1, k1, _, g1⟩, _⟩ := I.list h1
  simp only at k1 g1
  subst k1 g1
  have hl1 := r1.length
  have z2 : is.toArray.size * k.toNat ≤ sizeLine := by rw [List.size_toArray, ← hl1]; exact hz
  have zs := sizeLine_eq
  refine wpAny_binaryOp_repeat_ref (T := "list") (U := "int") (by decide) ⟨_, o1, rfl⟩ (fun s' => typeIs_int s' k tk) noFill_list_mul PySem.F.fills_int_mul PySem.F.slot_int_rmul repeat_list PySem.F.slot_int_index.lookup
    (call_meets PySem.F.slot_int_rmul (typeIs_int s k tk) PySem.F.entry_int_rmul (PySem.F.args_int_rmul_2 _ _) (lm_int_rmul_list_any k tk l is.toArray n1 d1 sl1)
      ⟨o1, rfl, ⟨_, o1, rfl⟩, call_meets PySem.F.slot_list_mul ⟨_, o1, rfl⟩ PySem.F.entry_list_mul (PySem.F.args_list_mul_2 _ _)
        (lm_list_mul_any l is.toArray n1 d1 sl1 k tk (by simp [Builtin.List.listFitsIndex]; omega) (by omega) (by simp [Builtin.List.listTooLong]; omega)) ⟨o1, ?_⟩⟩)
  rw [PyProof.Rows.listMul_foldl_if]
  exact ⟨.ref _, _, I.lnew (t' := s.toks) (r1.rep k.toNat) (by rw [PyProof.Rows.lm_len_rep_flat, Nat.mul_comm]; exact hz), rfl, q _ I.fresh⟩
theorem tup_mul_same (l : Addr) (items : Array Value) (n : Nat) (dd : Option Addr) (sl : Array (Option Value)) (x : Int) (u : Tok) (c0 : (decide (x < -(2 ^ 63)) || decide (x ≥ 2 ^ 63)) = false) (c1 : (items.isEmpty || x == 1) = true) :
    Meets (Builtin.«tuple.__mul__» ⟨[.ref l, .int x u], []⟩) (fun _ R s => s.heap.get? l = some { cls := .type "tuple", dict := dd, data := .seq items n, slots := sl } ∧ R (.ok (.ret (Value.ref l))) s) :=
  .of_wp fun prog w A R s h => by
    obtain ⟨hp, g, d, tk, os⟩ := s
    obtain ⟨hl, h⟩ := h
    have f1 := AutoSeq1.idx_int
    wp_walk using PySem.AutoSeq1.wpAny_loadPart' hl
    repeat (first
      | (refine wpAny_ite_false (decide_eq_false (by rw [c0]; exact Bool.false_ne_true)) ?_; wp_walk using PySem.AutoSeq1.wpAny_loadPart' hl)
      | (refine wpAny_ite_true (decide_eq_true (by rw [c1])) ?_; wp_walk using PySem.AutoSeq1.wpAny_loadPart' hl))
    exact ⟨_, rfl, h⟩
theorem tup_mul_none (l : Addr) (items : Array Value) (n : Nat) (dd : Option Addr) (sl : Array (Option Value)) (x : Int) (u : Tok) (c0 : (decide (x < -(2 ^ 63)) || decide (x ≥ 2 ^ 63)) = false) (c1 : (items.isEmpty || x == 1) = false) (c2 : (decide (x ≤ 0) || items.isEmpty) = true) :
    Meets (Builtin.«tuple.__mul__» ⟨[.ref l, .int x u], []⟩) (fun _ R s => s.heap.get? l = some { cls := .type "tuple", dict := dd, data := .seq items n, slots := sl } ∧ R (.ok (.ret (Value.ref s.heap.objs.size))) { s with heap := s.heap.push { cls := Value.type "tuple", data := Data.seq #[] } }) :=
  .of_wp fun prog w A R s h => by
    obtain ⟨hp, g, d, tk, os⟩ := s
    obtain ⟨hl, h⟩ := h
    have f1 := AutoSeq1.idx_int
    wp_walk using PySem.AutoSeq1.wpAny_loadPart' hl
    repeat (first
      | (refine wpAny_ite_false (decide_eq_false (by rw [c0]; exact Bool.false_ne_true)) ?_; wp_walk using PySem.AutoSeq1.wpAny_loadPart' hl)
      | (refine wpAny_ite_false (decide_eq_false (by rw [c1]; exact Bool.false_ne_true)) ?_; wp_walk using PySem.AutoSeq1.wpAny_loadPart' hl)
      | (refine wpAny_ite_true (decide_eq_true (by rw [c2])) ?_; wp_walk using PySem.AutoSeq1.wpAny_loadPart' hl))
    exact ⟨_, rfl, h⟩

def rMulT (K : PySem.W.Frag) : R2 := fun x y H Q => ∃ l k xs, x = .ref l ∧ y = .int k ∧ SqT K H l xs ∧ -(2 ^ 63) ≤ k ∧ k < 2 ^ 63 ∧ ((xs = [] ∨ k = 1) ∧ Q (.ref l) H ∨ (xs ≠ [] ∧ k ≤ 0) ∧ ∀ p, H p = none → Q (.ref p) (upd H p (.tup [])))
theorem op_mulT {X : Cx} : OpR X (binaryOp .Mult) (rMulT X.K) := by
  intro pins s σ H x y v u Q I rx ry ⟨l, k, xs, ex, ey, h1, ha, hb, q⟩
  subst ex; subst ey
  cases rx
  obtain ⟨tk, rfl⟩ := ry
  obtain ⟨is, r1, ⟨⟨c1, d1, t1, sl1⟩, o1, k1, n1, g1⟩, hz⟩ := I.tuple h1
  simp only at k1 g1
  subst k1 g1
  have hl := r1.length
  have c0 : (decide (k < -(2 ^ 63)) || decide (k ≥ 2 ^ 63)) = false := by
    rw [decide_eq_false (by omega), decide_eq_false (by omega)]; rfl
  have hem : is.toArray.isEmpty = decide (xs = []) := by
    cases is with
    | nil => cases xs with
      | nil => rfl
      | cons _ _ => simp at hl
    | cons _ _ => cases xs with
      | nil => simp at hl
      | cons _ _ => simp
  refine wpAny_binaryOp_repeat_ref (T := "tuple") (U := "int") (by decide) ⟨_, o1, rfl⟩ (fun s' => typeIs_int s' k tk) noFill_tuple_mul PySem.F.fills_int_mul PySem.F.slot_int_rmul repeat_tuple PySem.F.slot_int_index.lookup
    (call_meets PySem.F.slot_int_rmul (typeIs_int s k tk) PySem.F.entry_int_rmul (PySem.F.args_int_rmul_2 _ _) (int_rmul_tuple k tk l is.toArray n1 d1 sl1) ⟨o1, rfl, ⟨_, o1, rfl⟩, ?_⟩)
  rcases q with ⟨hk, q⟩ | ⟨⟨hne, hk⟩, q⟩
  · refine call_meets PySem.F.slot_tuple_mul ⟨_, o1, rfl⟩ PySem.F.entry_tuple_mul (PySem.F.args_tuple_mul_2 _ _) (tup_mul_same l is.toArray n1 d1 sl1 k tk c0 ?_) ⟨o1, .ref l, H, I, rfl, q⟩
    rw [hem]
    rcases hk with h | h
    · simp [h]
    · simp [h]
  · refine call_meets PySem.F.slot_tuple_mul ⟨_, o1, rfl⟩ PySem.F.entry_tuple_mul (PySem.F.args_tuple_mul_2 _ _) (tup_mul_none l is.toArray n1 d1 sl1 k tk c0 ?_ ?_) ⟨o1, .ref s.heap.objs.size, _, I.laid (t' := s.toks) (o := .tup []) (fun b ob q => Heap.get?_push_of_some _ q) (Nat.le_refl _) ?_, rfl, q _ (I.hok.fresh (Nat.le_refl _))⟩
    · rw [hem, decide_eq_false hne, Bool.false_or]; exact beq_eq_false_iff_ne.mpr (by omega)
    · rw [decide_eq_true hk]; rfl
    · exact ⟨Nat.zero_le _, [], .nil, PyProof.Rows.IsTup.new _ _⟩
def mulL2 : D2 := fun x y μ => match lstOf μ x, y with
  | some ds, .int k => if -(2 ^ 63) ≤ k ∧ k < 2 ^ 63 ∧ ds.length * k.toNat ≤ sizeLine then ok (.lst (List.replicate k.toNat ds).flatten) μ else none
  | _, _ => none
def mulT : D2 := fun x y μ => match x, y with
  | .tup ds, .int k => if -(2 ^ 63) ≤ k ∧ k ≤ 1000 ∧ ds.length ≤ 1000 then ok (.tup (List.replicate k.toNat ds).flatten) μ else none
  | _, _ => none
def mulD : D2 := fun x y μ => match x with
  | .int _ => mulI x y μ
  | .tup _ => mulT x y μ
  | _ => mulL2 x y μ
section
variable {X : Cx} {W : WX}
theorem od_mulL : OpD X W (binaryOp .Mult) mulL2 := .mk op_repX fun dx dy vx vy σ H G m μ Q wf rx ry o => by
  unfold mulL2 at o
  split at o
  · rename_i ds k e
    split at o
    · rename_i hz
      obtain ⟨a, vs, rfl, q, l⟩ := lstOf_rep wf e rx
      refine ⟨a, k, vs, rfl, ry, q, hz.1, hz.2.1, by rw [l.length]; exact hz.2.2, fun p hp => ?_⟩
      exact o (.ref p) _ (upd G p (.lst _)) m (wf.laid hp) (Step.laid wf hp) ⟨p, _, rfl, .inl (.inl upd_same), (l.rep k.toNat).laid (wf.gnone hp)⟩
    · exact o.elim
  · exact o.elim
theorem od_mulT : OpD X W (binaryOp .Mult) mulT := .mk (OpR.or op_mulT op_repT) fun dx dy vx vy σ H G m μ Q wf rx ry o => by
  unfold mulT at o
  split at o
  · rename_i ds k
    split at o
    · rename_i hz
      have rx0 := rx
      obtain ⟨a, vs, rfl, q, l⟩ := rx
      have q := wf.sub.sqT q
      have hl := l.length
      by_cases hk : ds = [] ∨ k = 1
      · have e : (List.replicate k.toNat ds).flatten = ds := by
          rcases hk with h | h
          · subst h; simp [PyProof.Rows.lm_rep_nil]
          · subst h; simp
        rw [e] at o
        refine .inl ⟨a, k, vs, rfl, ry, q, hz.1, by omega, .inl ⟨hk.imp (fun h => ?_) fun h => h, okA.get (a := D.tup ds) o wf rx0⟩⟩
        subst h; cases l; rfl
      · have h1 : ds ≠ [] := fun h => hk (.inl h)
        have h2 : k ≠ 1 := fun h => hk (.inr h)
        have h3 : vs ≠ [] := fun h => by subst h; cases ds with
          | nil => exact h1 rfl
          | cons _ _ => simp at hl
        by_cases hk0 : k ≤ 0
        · have e : (List.replicate k.toNat ds).flatten = [] := by rw [show k.toNat = 0 by omega]; rfl
          rw [e] at o
          exact .inl ⟨a, k, vs, rfl, ry, q, hz.1, by omega, .inr ⟨⟨h3, hk0⟩, fun p hp => o (.ref p) _ (upd G p (.tup [])) m (wf.laid hp) (Step.laid wf hp) ⟨p, [], rfl, .inl (.inl upd_same), rfl⟩⟩⟩
        · exact .inr ⟨a, k, vs, rfl, ry, q, h3, by omega, hz.2.1, by omega, fun p hp => o (.ref p) _ (upd G p (.tup _)) m (wf.laid hp) (Step.laid wf hp) ⟨p, _, rfl, .inl (.inl upd_same), (l.rep k.toNat).laid (wf.gnone hp)⟩⟩
    · exact o.elim
  · exact o.elim
def isIntD : D → Bool
  | .int _ => true
  | _ => false
theorem od_mul : OpD X W (binaryOp .Mult) mulD := by
  refine (OpD.or (fun x _ _ => isIntD x) od_mulI (OpD.or (fun x _ _ => isT x) od_mulT od_mulL)).imp fun x y μ => .inl ?_
  cases x <;> rfl
/-- a list times: a new list -/
theorem pef_mul {a b : Expr} {fa fb : DE} {pos : Pos} (ha : PE X a (TD X.K W fa)) (hb : PE X b (TD X.K W fb)) : PE X (.BinOp a .Mult b pos) (TF X.K W (binD mulL2 fa fb)) :=
  PE_imp (pe_op op_repX ha hb) fun σ H Q h => (TFs.bindD h.s).imp fun v H1 ⟨d, h1⟩ => (TFs.bindD h1).imp fun v2 H2 ⟨d2, G, m, μ, sl, wf, rs, ⟨w1, l1, e1, r2, w2, l2, e2, r1, e3⟩, o⟩ => by
    cases e1; cases e2
    dsimp only at o
    unfold mulL2 at o
    split at o
    · rename_i ds k e
      split at o
      · rename_i hz
        obtain ⟨a, vs, rfl, q, l⟩ := lstOf_rep wf e r1
        exact ⟨a, k, vs, rfl, r2, q, hz.1, hz.2.1, by rw [l.length]; exact hz.2.2, okF.lst o wf (l.rep k.toNat)⟩
      · exact o.elim
    · exact o.elim
end
end Pd
end
section
namespace Pd
open PySem PySem.Spec L2
/-! ### rules with their side conditions found -/
section
variable {X : Cx} {W : WX} {k : Nat} {pos p p2 p3 apos cpos : Pos} {a b c e o : Expr} {fa fb fc fe fo : DE} {es : List Expr} {fl : DL} {x : Str}
theorem Ctx.u64 (c : Ctx k W X) : X.A.units + 64 < cLine := by have := c.room.un; omega
theorem Ctx.u65 (c : Ctx k W X) : X.A.units + 65 < cLine := by have := c.room.un; omega
theorem Ctx.u1 (c : Ctx k W X) : X.A.units + 1 < cLine := by have := c.room.un; omega
theorem eV (i : Nat) (hN : X.N[i]? = some x := by rfl) (hv : Vis X.env.scope x := by first | exact .inl rfl | exact .inr (.inl rfl) | exact .inr (.inr rfl)) (hd : (x == ("__debug__" : Str)) = false := by decide) (hcd : (x == ("__classdict__" : Str)) = false := by decide) :
    PE X (.Name x pos) (TD X.K W (varD i)) := ped_var hN hv hd hcd
/-- a module's number, text -/
theorem eGI {i : Int} (hm : ∃ t, X.mg x = some (.int i t)) (hg : Gl X x := by rfl) (hd : (x == ("__debug__" : Str)) = false := by decide) : PE X (.Name x pos) (TD X.K W (cD (.int i))) :=
  let ⟨t, h⟩ := hm
  ped_glob (v := .int i) hg h ⟨t, rfl⟩ (fun _ _ => rfl) hd
theorem eGS {z : Str} (hm : ∃ t, X.mg x = some (.str z t)) (hg : Gl X x := by rfl) (hd : (x == ("__debug__" : Str)) = false := by decide) : PE X (.Name x pos) (TD X.K W (cD (.str z))) :=
  let ⟨t, h⟩ := hm
  ped_glob (v := .str z) hg h ⟨t, rfl⟩ (fun _ _ => rfl) hd
theorem eEq (c : Ctx k W X) (ha : PE X a (TD X.K W fa)) (hb : PE X b (TD X.K W fb)) (hm : behindInMarks .Eq b = false := by rfl) : PE X (.Compare a [.Eq] [b] pos) (TD X.K W (binD eqD fa fb)) := ped_cmp (od_eq c.u64) ha hb hm
theorem eNe (c : Ctx k W X) (ha : PE X a (TD X.K W fa)) (hb : PE X b (TD X.K W fb)) (hm : behindInMarks .NotEq b = false := by rfl) : PE X (.Compare a [.NotEq] [b] pos) (TD X.K W (binD neD fa fb)) := ped_cmp (od_ne c.u64) ha hb hm
theorem eLt (ha : PE X a (TD X.K W fa)) (hb : PE X b (TD X.K W fb)) (hm : behindInMarks .Lt b = false := by rfl) : PE X (.Compare a [.Lt] [b] pos) (TD X.K W (binD (cmpI fun i j => decide (i < j)) fa fb)) := ped_cmp od_lt ha hb hm
theorem eLe (ha : PE X a (TD X.K W fa)) (hb : PE X b (TD X.K W fb)) (hm : behindInMarks .LtE b = false := by rfl) : PE X (.Compare a [.LtE] [b] pos) (TD X.K W (binD (cmpI fun i j => decide (i ≤ j)) fa fb)) := ped_cmp od_le ha hb hm
theorem eGt (ha : PE X a (TD X.K W fa)) (hb : PE X b (TD X.K W fb)) (hm : behindInMarks .Gt b = false := by rfl) : PE X (.Compare a [.Gt] [b] pos) (TD X.K W (binD (cmpI fun i j => decide (j < i)) fa fb)) := ped_cmp od_gt ha hb hm
theorem eGe (ha : PE X a (TD X.K W fa)) (hb : PE X b (TD X.K W fb)) (hm : behindInMarks .GtE b = false := by rfl) : PE X (.Compare a [.GtE] [b] pos) (TD X.K W (binD (cmpI fun i j => decide (j ≤ i)) fa fb)) := ped_cmp od_ge ha hb hm
theorem eIn (c : Ctx k W X) (ha : PE X a (TD X.K W fa)) (hb : PE X b (TD X.K W fb)) (hm : behindInMarks .In b = false := by rfl) : PE X (.Compare a [.In] [b] pos) (TD X.K W (binD (inD false) fa fb)) := ped_cmp (od_in c.u65) ha hb hm
theorem eNin (c : Ctx k W X) (ha : PE X a (TD X.K W fa)) (hb : PE X b (TD X.K W fb)) (hm : behindInMarks .NotIn b = false := by rfl) : PE X (.Compare a [.NotIn] [b] pos) (TD X.K W (binD (inD true) fa fb)) := ped_cmp (od_notin c.u65) ha hb hm
theorem eIs (ha : PE X a (TD X.K W fa)) (hb : PE X b (TD X.K W fb)) (hm : behindInMarks .Is b = false := by rfl) : PE X (.Compare a [.Is] [b] pos) (TD X.K W (binD isD fa fb)) := ped_cmp od_is ha hb hm
theorem eIsn (ha : PE X a (TD X.K W fa)) (hb : PE X b (TD X.K W fb)) (hm : behindInMarks .IsNot b = false := by rfl) : PE X (.Compare a [.IsNot] [b] pos) (TD X.K W (binD isnotD fa fb)) := ped_cmp od_isnot ha hb hm
/-! tests -/
theorem tEq (c : Ctx k W X) (ha : PE X a (TD X.K W fa)) (hb : PE X b (TD X.K W fb)) (hm : behindInMarks .Eq b = false := by rfl) : PT X (.Compare a [.Eq] [b] pos) (TB X.K W (tstD (binD eqD fa fb))) := ptd_cmp (od_eq c.u64) ha hb hm
theorem tNe (c : Ctx k W X) (ha : PE X a (TD X.K W fa)) (hb : PE X b (TD X.K W fb)) (hm : behindInMarks .NotEq b = false := by rfl) : PT X (.Compare a [.NotEq] [b] pos) (TB X.K W (tstD (binD neD fa fb))) := ptd_cmp (od_ne c.u64) ha hb hm
theorem tLt (ha : PE X a (TD X.K W fa)) (hb : PE X b (TD X.K W fb)) (hm : behindInMarks .Lt b = false := by rfl) : PT X (.Compare a [.Lt] [b] pos) (TB X.K W (tstD (binD (cmpI fun i j => decide (i < j)) fa fb))) := ptd_cmp od_lt ha hb hm
theorem tLe (ha : PE X a (TD X.K W fa)) (hb : PE X b (TD X.K W fb)) (hm : behindInMarks .LtE b = false := by rfl) : PT X (.Compare a [.LtE] [b] pos) (TB X.K W (tstD (binD (cmpI fun i j => decide (i ≤ j)) fa fb))) := ptd_cmp od_le ha hb hm
theorem tGt (ha : PE X a (TD X.K W fa)) (hb : PE X b (TD X.K W fb)) (hm : behindInMarks .Gt b = false := by rfl) : PT X (.Compare a [.Gt] [b] pos) (TB X.K W (tstD (binD (cmpI fun i j => decide (j < i)) fa fb))) := ptd_cmp od_gt ha hb hm
theorem tGe (ha : PE X a (TD X.K W fa)) (hb : PE X b (TD X.K W fb)) (hm : behindInMarks .GtE b = false := by rfl) : PT X (.Compare a [.GtE] [b] pos) (TB X.K W (tstD (binD (cmpI fun i j => decide (j ≤ i)) fa fb))) := ptd_cmp od_ge ha hb hm
theorem tIn (c : Ctx k W X) (ha : PE X a (TD X.K W fa)) (hb : PE X b (TD X.K W fb)) (hm : behindInMarks .In b = false := by rfl) : PT X (.Compare a [.In] [b] pos) (TB X.K W (tstD (binD (inD false) fa fb))) := ptd_cmp (od_in c.u65) ha hb hm
theorem tNin (c : Ctx k W X) (ha : PE X a (TD X.K W fa)) (hb : PE X b (TD X.K W fb)) (hm : behindInMarks .NotIn b = false := by rfl) : PT X (.Compare a [.NotIn] [b] pos) (TB X.K W (tstD (binD (inD true) fa fb))) := ptd_cmp (od_notin c.u65) ha hb hm
theorem tIs (ha : PE X a (TD X.K W fa)) (hb : PE X b (TD X.K W fb)) (hm : behindInMarks .Is b = false := by rfl) : PT X (.Compare a [.Is] [b] pos) (TB X.K W (tstD (binD isD fa fb))) := ptd_cmp od_is ha hb hm
theorem tIsn (ha : PE X a (TD X.K W fa)) (hb : PE X b (TD X.K W fb)) (hm : behindInMarks .IsNot b = false := by rfl) : PT X (.Compare a [.IsNot] [b] pos) (TB X.K W (tstD (binD isnotD fa fb))) := ptd_cmp od_isnot ha hb hm
theorem tTr (ha : PE X a (TD X.K W fa)) (he : ∀ whole, isTrue a X.env whole = (do let v ← whole; standAt a.pos; holding [v] (truthy v)) := by intro _; rfl) : PT X a (TB X.K W (truB fa)) := ptd_tru ha he
/-! built-ins by name -/
theorem eLen (hm : X.mg "len" = none) (ha : PA X (e :: es) (TDs X.K W fl)) (hg : Gl X "len" := by rfl) (he : starEach (e :: es) X.env = (false, eval e X.env) :: starEach es X.env := by rfl) (hpl : (backTo pos (starEach es X.env)).any (·.1) = false := by rfl) : PE X (.Call (.Name "len" p) (e :: es) [] pos) (TD X.K W (callB dcLen fl)) := ped_callB cd_len hg hm (by decide +kernel) ha (by decide) (by decide) he hpl
theorem eAbs (hm : X.mg "abs" = none) (ha : PA X (e :: es) (TDs X.K W fl)) (hg : Gl X "abs" := by rfl) (he : starEach (e :: es) X.env = (false, eval e X.env) :: starEach es X.env := by rfl) (hpl : (backTo pos (starEach es X.env)).any (·.1) = false := by rfl) : PE X (.Call (.Name "abs" p) (e :: es) [] pos) (TD X.K W (callB dcAbs fl)) := ped_callB cd_abs hg hm (by decide +kernel) ha (by decide) (by decide) he hpl
theorem eMax2 (c : Ctx k W X) (hm : X.mg "max" = none) (ha : PA X (e :: es) (TDs X.K W fl)) (hg : Gl X "max" := by rfl) (he : starEach (e :: es) X.env = (false, eval e X.env) :: starEach es X.env := by rfl) (hpl : (backTo pos (starEach es X.env)).any (·.1) = false := by rfl) : PE X (.Call (.Name "max" p) (e :: es) [] pos) (TD X.K W (callB dcMax2 fl)) := ped_callB (cd_max2 c.calm) hg hm (by decide +kernel) ha (by decide) (by decide) he hpl
theorem eMin2 (c : Ctx k W X) (hm : X.mg "min" = none) (ha : PA X (e :: es) (TDs X.K W fl)) (hg : Gl X "min" := by rfl) (he : starEach (e :: es) X.env = (false, eval e X.env) :: starEach es X.env := by rfl) (hpl : (backTo pos (starEach es X.env)).any (·.1) = false := by rfl) : PE X (.Call (.Name "min" p) (e :: es) [] pos) (TD X.K W (callB dcMin2 fl)) := ped_callB (cd_min2 c.calm) hg hm (by decide +kernel) ha (by decide) (by decide) he hpl
theorem eInt (hm : X.mg "int" = none) (ha : PA X (e :: es) (TDs X.K W fl)) (hg : Gl X "int" := by rfl) (he : starEach (e :: es) X.env = (false, eval e X.env) :: starEach es X.env := by rfl) (hpl : (backTo pos (starEach es X.env)).any (·.1) = false := by rfl) : PE X (.Call (.Name "int" p) (e :: es) [] pos) (TD X.K W (callB dcInt fl)) := ped_callTy cd_int hg hm (by decide +kernel) ha (by decide) (by decide) he hpl
theorem eSum (c : Ctx k W X) (hm : X.mg "sum" = none) (ha : PA X (e :: es) (TDs X.K W fl)) (hg : Gl X "sum" := by rfl) (he : starEach (e :: es) X.env = (false, eval e X.env) :: starEach es X.env := by rfl) (hpl : (backTo pos (starEach es X.env)).any (·.1) = false := by rfl) : PE X (.Call (.Name "sum" p) (e :: es) [] pos) (TD X.K W (callB dcSum fl)) := ped_callB (cd_sum c.calm) hg hm (by decide +kernel) ha (by decide) (by decide) he hpl
theorem eAny (c : Ctx k W X) (hm : X.mg "any" = none) (ha : PA X (e :: es) (TDs X.K W fl)) (hg : Gl X "any" := by rfl) (he : starEach (e :: es) X.env = (false, eval e X.env) :: starEach es X.env := by rfl) (hpl : (backTo pos (starEach es X.env)).any (·.1) = false := by rfl) : PE X (.Call (.Name "any" p) (e :: es) [] pos) (TD X.K W (callB dcAny fl)) := ped_callB (cd_any c.calm) hg hm (by decide +kernel) ha (by decide) (by decide) he hpl
theorem eAll (c : Ctx k W X) (hm : X.mg "all" = none) (ha : PA X (e :: es) (TDs X.K W fl)) (hg : Gl X "all" := by rfl) (he : starEach (e :: es) X.env = (false, eval e X.env) :: starEach es X.env := by rfl) (hpl : (backTo pos (starEach es X.env)).any (·.1) = false := by rfl) : PE X (.Call (.Name "all" p) (e :: es) [] pos) (TD X.K W (callB dcAll fl)) := ped_callB (cd_all c.calm) hg hm (by decide +kernel) ha (by decide) (by decide) he hpl
theorem eTuple (hm : X.mg "tuple" = none) (ha : PA X (e :: es) (TDs X.K W fl)) (hg : Gl X "tuple" := by rfl) (he : starEach (e :: es) X.env = (false, eval e X.env) :: starEach es X.env := by rfl) (hpl : (backTo pos (starEach es X.env)).any (·.1) = false := by rfl) : PE X (.Call (.Name "tuple" p) (e :: es) [] pos) (TD X.K W (callB dcTuple fl)) := ped_callTy cd_tuple hg hm (by decide +kernel) ha (by decide) (by decide) he hpl
theorem fList (hm : X.mg "list" = none) (ha : PA X (e :: es) (TDs X.K W fl)) (hg : Gl X "list" := by rfl) (he : starEach (e :: es) X.env = (false, eval e X.env) :: starEach es X.env := by rfl) (hpl : (backTo pos (starEach es X.env)).any (·.1) = false := by rfl) : PE X (.Call (.Name "list" p) (e :: es) [] pos) (TF X.K W (callB dcList fl)) := pef_callTy cf_list hg hm (by decide +kernel) ha (by decide) (by decide) he hpl
/-! methods by name -/
theorem eAppend (ho : PE X o (TD X.K W fo)) (ha : PA X [e] (TDs X.K W fl)) (hbase : attributeBase o "append" X.env (eval o X.env) = eval o X.env := by rfl)
    (hfew : ((backTo cpos (starEach [e] X.env)).all (fun x => !x.1) && (backToKw cpos (keywordEach [] X.env)).all (fun x => x.1.isSome)
      && decide (([e] : List Expr).length + ([] : List Keyword).length + (if ([] : List Keyword).isEmpty then 0 else 1) < 30)) = true := by rfl)
    (hline : (apos.endLine == cpos.line) = true := by rfl) (hs : starEach [e] X.env = (false, eval e X.env) :: starEach [] X.env := by rfl) :
    PE X (.Call (.Attribute o "append" apos) [e] [] cpos) (TD X.K W (methB .lst dmAppend fo fl)) := ped_m (t := .lst) PySem.F.plainAttrs_list PySem.F.slot_list_append PySem.F.type_list_append md_append ho ha hbase hfew hline hs rfl
theorem ePop (ho : PE X o (TD X.K W fo)) (hbase : attributeBase o "pop" X.env (eval o X.env) = eval o X.env := by rfl) (hline : (apos.endLine == cpos.line) = true := by rfl) :
    PE X (.Call (.Attribute o "pop" apos) [] [] cpos) (TD X.K W (meth0 .lst dmPop fo)) := ped_m0 (t := .lst) PySem.F.plainAttrs_list PySem.F.slot_list_pop PySem.F.type_list_pop md_pop ho hbase hline
theorem eIndex (c : Ctx k W X) (ho : PE X o (TD X.K W fo)) (ha : PA X [e] (TDs X.K W fl)) (hbase : attributeBase o "index" X.env (eval o X.env) = eval o X.env := by rfl)
    (hfew : ((backTo cpos (starEach [e] X.env)).all (fun x => !x.1) && (backToKw cpos (keywordEach [] X.env)).all (fun x => x.1.isSome)
      && decide (([e] : List Expr).length + ([] : List Keyword).length + (if ([] : List Keyword).isEmpty then 0 else 1) < 30)) = true := by rfl)
    (hline : (apos.endLine == cpos.line) = true := by rfl) (hs : starEach [e] X.env = (false, eval e X.env) :: starEach [] X.env := by rfl) :
    PE X (.Call (.Attribute o "index" apos) [e] [] cpos) (TD X.K W (methB .lst dmIndex fo fl)) := ped_m (t := .lst) PySem.F.plainAttrs_list PySem.F.slot_list_index PySem.F.type_list_index (md_index c.u65) ho ha hbase hfew hline hs rfl
/-! subscripts -/
theorem eIx (c : Ctx k W X) (ha : PE X a (TD X.K W fa)) (hb : PE X b (TD X.K W fb)) (hs : PlainIx b := by intro _ _; rfl) : PE X (.Subscript a b pos) (TD X.K W (binD ixD fa fb)) := ped_ix c.u1 ha hb hs
/-! targets -/
theorem gN (i : Nat) (hN : X.N.Nodup) (hi : X.N[i]? = some x := by rfl) (hx : Loc X.env.scope x := by first | exact .inl rfl | exact .inr rfl) (hf : X.fn x = true ∨ X.env.scope.names.lookup x = some .local := by first | exact .inl rfl | exact .inr rfl) : PG X (.Name x pos) (TG' X.K (.nm i)) := pgd_name hN hi hx hf
theorem gT {ts : List Tg} {kk : Nat} (c : Ctx k W X) (h : PGs X es (TGs' X.K ts)) (hn : (assignEach es X.env).length = ts.length := by rfl) (hst : (assignEach es X.env).findIdx? (·.1) = none := by rfl) : PG X (.Tuple es kk pos) (TG' X.K (.tp ts)) :=
  pgd_tup c.calm h (fun _ _ _ _ h => bindTs_len h) hn hst
/-! statements -/
theorem sSet (i : Nat) (hN : X.N.Nodup) (he : PE X e (TD X.K W fe)) (hi : X.N[i]? = some x := by rfl) (hx : Loc X.env.scope x := by first | exact .inl rfl | exact .inr rfl) (hf : X.fn x = true ∨ X.env.scope.names.lookup x = some .local := by first | exact .inl rfl | exact .inr rfl)
    (hs : swapsWith e (some (.Name x p)) pos.line X.env = pure false := by rfl) : PS X (.Assign [.Name x p] e pos) (TDS X.K W (asgS fe (.nm i))) := psd_set hN hi hx he hf hs
end
/-! ### defs by name -/
def DefFact (K : PySem.W.Frag) (mg : Str → Option Value) (x : Str) (st : Stmt) : Prop := ∃ f fd, FunD K x x (defArgs st) (defBody st) (defScope st) [] [] f fd ∧ mg x = some (.ref f)
def CalleeG (P : Program) (w : World) (K : PySem.W.Frag) (mg : Str → Option Value) (base : Heap) (x : Str) (k : Nat) (ps : List Str) (F : DC) : Prop :=
  ∃ f fd, FnG P w K mg base k f fd ps F ∧ mg x = some (.ref f) ∧ PySem.W.keepIn K (.ref f) = true ∧ Binds K fd ps []
theorem calleeG {P : Program} {w : World} {K : PySem.W.Frag} {mg : Str → Option Value} {base : Heap} {x : Str} {st : Stmt} {N ps : List Str} {k : Nat} {bD : DS} (d : DefFact K mg x st) (S : FnScope N ps (defScope st))
    (hb : ∀ (kV doc pm : Value) (an : Option Addr) (cdv ct : Value) (us : List Value), us.length = ps.length → bindArgs (PySem.W.fnOf x x (defArgs st) (defBody st) (defScope st) .none kV doc pm an cdv ct) ⟨us, []⟩ = pure (ps.zip us))
    (hbody : ∀ (f : Addr) (cdv : Value) (A : Around) (outer : List Env) (s : Shared) (H : Hp) (E : XK), Ctx k (wE E) (cxOf (L2.CX P w) P w K mg base N x (defScope st) f cdv A outer s H E) → PSs (cxOf (L2.CX P w) P w K mg base N x (defScope st) f cdv A outer s H E) (defBody st) (TDS K (wE E) bD)) :
    CalleeG P w K mg base x (k + 1) ps (bodyR bD N.length) := by
  obtain ⟨f, fd, F, hm⟩ := d
  exact ⟨f, fd, fnG F S fun cdv A outer s H E c => hbody f cdv A outer s H E c, hm, F.kp, F.bindsN hb⟩
theorem eCall {X : Cx} {W : WX} {k k' : Nat} {ps : List Str} {F : DC} {x : Str} {p pos : Pos} {e : Expr} {es : List Expr} {fl : DL} (h : CalleeG X.prog X.w X.K X.mg X.base x k' ps F) (c : Ctx k W X) (ha : PA X (e :: es) (TDs X.K W fl)) (hk : k' ≤ k := by decide) (hg : Gl X x := by rfl)
    (hdb : (x == ("__debug__" : Str)) = false := by decide) (he : starEach (e :: es) X.env = (false, eval e X.env) :: starEach es X.env := by rfl) (hpl : (backTo pos (starEach es X.env)).any (·.1) = false := by rfl) :
    PE X (.Call (.Name x p) (e :: es) [] pos) (TD X.K W (callB (callN ps.length F) fl)) :=
  let ⟨_, _, h1, h2, h3, h4⟩ := h
  ped_call h1 c hk hg h2 h3 h4 ha hdb he hpl
theorem eCall0 {X : Cx} {W : WX} {k k' : Nat} {F : DC} {x : Str} {p pos : Pos} (h : CalleeG X.prog X.w X.K X.mg X.base x k' [] F) (c : Ctx k W X) (hk : k' ≤ k := by decide) (hg : Gl X x := by rfl)
    (hdb : (x == ("__debug__" : Str)) = false := by decide) : PE X (.Call (.Name x p) [] [] pos) (TD X.K W (fun _ μ => F [] μ)) :=
  let ⟨_, _, h1, h2, h3, h4⟩ := h
  ped_call0 h1 c hk hg h2 h3 h4 hdb
end Pd
end
section
namespace Pd
open PySem PySem.Spec L2
section
variable {X : Cx} {W : WX} {k : Nat} {pos p p2 p3 apos cpos : Pos} {a b e o : Expr} {fa fb fc fe fo : DE} {es : List Expr} {fl : DL} {x : Str}
theorem pad_one (he : PE X e (TD X.K W fe)) (hs : starEach [e] X.env = (false, eval e X.env) :: starEach [] X.env := by rfl) : PA X [e] (TDs X.K W (oneL fe)) :=
  PA_imp (pa_cons he pa_nil hs) fun σ H Q h => (T.bindD h).imp fun v H1 ⟨d, G, m, μ, sl, wf, rs, ⟨w1, l1, e1, r1, e2⟩, o⟩ => by
    cases e1; cases e2
    exact okA.get (a := [d]) o wf ⟨v, [], rfl, r1, rfl⟩
/-! name op= e -/
def ipAdd : D2 := int2 (fun _ _ => true) fun i j => .int (i + j)
theorem IpD.int0 {op : Operator} {f : Int → Int → Int} (h : PIp X op (ipI f)) : IpD X W op (int2 (fun _ _ => true) fun i j => .int (f i j)) := ⟨_, h, fun dx dy vx vy σ H G m μ Q wf rx ry o => by
  unfold int2 at o
  split at o
  · rename_i i j
    exact ⟨i, j, rx, ry, okA.get (a := D.int (f i j)) o wf rfl⟩
  · exact o.elim⟩
theorem id_add : IpD X W .Add ipAdd := .int0 ip_add
theorem id_sub : IpD X W .Sub subI := .int0 ip_sub
theorem sAug (i : Nat) {op : Operator} {g : D2} (hN : X.N.Nodup) (he : PE X e (TD X.K W fe)) (ho : IpD X W op g) (hi : X.N[i]? = some x := by rfl) (hx : Loc X.env.scope x := by first | exact .inl rfl | exact .inr rfl) (hf : X.fn x = true ∨ X.env.scope.names.lookup x = some .local := by first | exact .inl rfl | exact .inr rfl) :
    PS X (.AugAssign (.Name x p) op e pos) (TDS X.K W (augS i g fe)) := psd_aug hN hi hx he ho hf
/-! {} -/
def emptyD : DE := fun _ μ => ok (.dic [] []) μ
theorem pef_empty : PE X (.Dict [] [] pos) (TF X.K W emptyD) := PE_imp pe_dnewK fun σ H Q ⟨G, m, μ, sl, wf, rs, o⟩ p hp => o p [] H G m wf Step.refl hp rfl rfl
end
end Pd
end
section
namespace Pd
open PySem PySem.Spec L2
/-! ### repr -/
def rRepr (X : Cx) : List V → Hp → VK → Prop := fun xs H Q => ∃ v d, xs = [v] ∧ Dp X.K H v d ∧ d.showable = true ∧ d.hasDict = false ∧ d.depth ≤ 60 ∧ d.shown.length ≤ sizeLine ∧ Q (.str d.shown) H
theorem cr_repr {X : Cx} (hg : X.A.guards = some []) (hu : X.A.units + 64 < cLine) : CallR X (.builtin "repr") (rRepr X) := by
  intro pins s σ H xs us Q I r ⟨v, d, ex, dp, h1, h2, h3, h4, q⟩
  subst ex
  obtain ⟨u, rfl, ru⟩ := vals1 r
  cases dp with
  | non => cases ru; exact P.repr_of_none ⟨.str (PyData.shown .none), H, I.tok _, ⟨_, rfl⟩, q⟩
  | bl b => cases ru; cases b <;> exact P.repr_of_bool ⟨.str (PyData.shown (.bool _)), H, I.tok _, ⟨_, rfl⟩, q⟩
  | int i =>
    obtain ⟨t, rfl⟩ := ru
    exact P.repr_of_int (by simpa [PyData.showable] using h1) ⟨.str (PyData.shown (.int i)), H, I.tok _, ⟨_, rfl⟩, q⟩
  | str x =>
    obtain ⟨t, rfl⟩ := ru
    exact P.repr_of_str ⟨.str (PyData.shown (.str x)), H, I.tok _, ⟨_, rfl⟩, q⟩ h4
  | lst hs ha =>
    rename_i a vs ds
    obtain rfl : u = Value.ref a := ru
    obtain ⟨as, rd⟩ := Dp.reads I (.list ds) (.ref a) (.ref a) (.lst hs ha) rfl
    exact repr_of_reads' rd h1 (PyData.noDict_hsm h2) hg (by omega) (fun _ _ e => e) (fun h' u tk hk => ⟨.str _, H, I.kept (t' := tk) hk, ⟨u, rfl⟩, q⟩) h4
  | tup hs ha =>
    rename_i a vs ds
    obtain rfl : u = Value.ref a := ru
    obtain ⟨as, rd⟩ := Dp.reads I (.tuple ds) (.ref a) (.ref a) (.tup hs ha) rfl
    exact repr_of_reads' rd h1 (PyData.noDict_hsm h2) hg (by omega) (fun _ _ e => e) (fun h' u tk hk => ⟨.str _, H, I.kept (t' := tk) hk, ⟨u, rfl⟩, q⟩) h4
def dcRepr : DC := fun ds μ => match ds with
  | [d] => match toPy μ 9 d with
    | some e => if e.showable && !e.hasDict && decide (e.depth ≤ 60) && decide (e.shown.length ≤ sizeLine) then ok (.str e.shown) μ else none
    | none => none
  | _ => none
theorem cd_repr {X : Cx} {W : WX} (hg : X.A.guards = some []) (hu : X.A.units + 64 < cLine) : CallD X W (.builtin "repr") dcRepr := ⟨_, cr_repr hg hu, fun ds vs σ H G m μ Q wf rl o => by
  unfold dcRepr at o
  split at o
  · rename_i d
    obtain ⟨v, rfl, r⟩ := repL1 rl
    split at o
    · rename_i e he
      split at o
      · rename_i hz
        simp only [Bool.and_eq_true, Bool.not_eq_true', decide_eq_true_eq] at hz
        exact ⟨v, e, rfl, toPy_dp wf _ _ _ _ he r, hz.1.1.1, hz.1.1.2, hz.1.2, hz.2, okA.get (a := D.str e.shown) o wf rfl⟩
      · exact o.elim
    · exact o.elim
  · exact o.elim⟩
/-! ### sorted of ints -/
def insI (x : Int) : List Int → List Int
  | [] => [x]
  | y :: ys => if x ≤ y then x :: y :: ys else y :: insI x ys
def sortI : List Int → List Int
  | [] => []
  | x :: xs => insI x (sortI xs)
theorem insI_perm (x : Int) : ∀ ys : List Int, (insI x ys).Perm (x :: ys)
  | [] => .refl _
  | y :: ys => by
    unfold insI
    split
    · exact .refl _
    · exact ((insI_perm x ys).cons y).trans (.swap x y ys)
theorem sortI_perm : ∀ xs : List Int, (sortI xs).Perm xs
  | [] => .refl _
  | x :: xs => (insI_perm x _).trans ((sortI_perm xs).cons x)
theorem insI_sorted (x : Int) : ∀ ys : List Int, ys.Pairwise (· ≤ ·) → (insI x ys).Pairwise (· ≤ ·)
  | [], _ => by simp [insI]
  | y :: ys, h => by
    obtain ⟨h1, h2⟩ := List.pairwise_cons.mp h
    unfold insI
    split
    · rename_i hle
      refine List.pairwise_cons.mpr ⟨fun z hz => ?_, h⟩
      rcases List.mem_cons.mp hz with rfl | hz
      · exact hle
      · exact Int.le_trans hle (h1 z hz)
    · rename_i hle
      refine List.pairwise_cons.mpr ⟨fun z hz => ?_, insI_sorted x ys h2⟩
      rcases List.mem_cons.mp ((insI_perm x ys).mem_iff.mp hz) with rfl | hz
      · omega
      · exact h1 z hz
theorem sortI_sorted : ∀ xs : List Int, (sortI xs).Pairwise (· ≤ ·)
  | [] => .nil
  | x :: xs => insI_sorted x _ (sortI_sorted xs)
theorem sorted_unique : ∀ {xs ys : List Int}, xs.Perm ys → xs.Pairwise (· ≤ ·) → ys.Pairwise (· ≤ ·) → xs = ys
  | [], ys, p, _, _ => (List.Perm.nil_eq p)
  | x :: xs, ys, p, h1, h2 => by
    cases ys with
    | nil => exact absurd p (by simp)
    | cons y ys =>
      obtain ⟨a1, a2⟩ := List.pairwise_cons.mp h1
      obtain ⟨b1, b2⟩ := List.pairwise_cons.mp h2
      have e : x = y := by
        have m1 : x ∈ y :: ys := p.mem_iff.mp (List.mem_cons_self ..)
        have m2 : y ∈ x :: xs := p.mem_iff.mpr (List.mem_cons_self ..)
        rcases List.mem_cons.mp m1 with h | h
        · exact h
        · rcases List.mem_cons.mp m2 with h' | h'
          · exact h'.symm
          · have := a1 y h'
            have := b1 x h
            omega
      subst e
      rw [sorted_unique (List.Perm.cons_inv p) a2 b2]
def dcSortI : DC := fun ds μ => match ds with
  | [d] => match (lstOf μ d).bind intsOf with
    | some ns => ok (.lst ((sortI ns).map D.int)) μ
    | none => none
  | _ => none
theorem cf_sortI {X : Cx} {W : WX} : CallF X W (.builtin "sorted") dcSortI := ⟨_, cr_sortedI, fun ds vs σ H G m μ Q wf rl o => by
  unfold dcSortI at o
  split at o
  · rename_i d
    obtain ⟨v, rfl, r⟩ := repL1 rl
    split at o
    · rename_i ns e
      obtain ⟨xs, e1, e2⟩ := lst_bind e
      obtain ⟨a, ws, rfl, q, l⟩ := lstOf_rep wf e1 r
      have := intsOf_rep e2 l
      subst this
      refine ⟨a, ns, rfl, q, fun ns' p hp hs hn => ?_⟩
      have : ns' = sortI ns := sorted_unique (hp.trans (sortI_perm ns).symm) hs (sortI_sorted ns)
      subst this
      exact okF.lst o wf (ints_rep _) p hn
    · exact o.elim
  · exact o.elim⟩
/-! ### x.extend(y) -/
section
open PySem.AutoSeq1 (wpAny_loadPart')
theorem ext_list (l b : Addr) (items items2 : Array Value) (n n2 : Nat) (dd : Option Addr) (sl : Array (Option Value)) (hs0 : ¬(!items.isEmpty && Builtin.List.listTooLong (items.size + items2.size)) = true) (hs1 : items.size ≤ sizeLine) (hs2 : items.size + items2.size ≤ sizeLine + 1) :
    Meets (Builtin.«list.extend» ⟨[.ref l, .ref b], []⟩) (fun _ R s => s.heap.get? l = some { cls := .type "list", dict := none, data := .seq items n, slots := #[] } ∧ s.heap.get? b = some { cls := .type "list", dict := dd, data := .seq items2 n2, slots := sl } ∧ R (.ok (.ret Value.none)) { s with heap := s.heap.update l (Obj.mapSeq fun x => x ++ items2), toks := s.toks }) :=
  .of_wp fun prog w A R s h => by
    obtain ⟨hp, g, d, tk, os⟩ := s; obtain ⟨hl, hb, hh⟩ := h
    have f2 := AutoSeq1.sub_tuple_tuple; have f3 := AutoSeq1.sub_list_list; have f4 := AutoSeq1.sub_tuple_list; have f5 := AutoSeq1.sub_list_tuple
    have hz : (items ++ items2).size ≤ sizeLine + 1 := by rw [Array.size_append]; exact hs2
    wp_walk using (wpAny_updateSeq hl rfl (hz := hs1) (_hz' := hz)), wpAny_loadPart' hl, wpAny_loadPart' hb
    exact ⟨_, rfl, hh⟩
theorem ext_tuple (l b : Addr) (items items2 : Array Value) (n n2 : Nat) (dd : Option Addr) (sl : Array (Option Value)) (hs0 : ¬(!items.isEmpty && Builtin.List.listTooLong (items.size + items2.size)) = true) (hs1 : items.size ≤ sizeLine) (hs2 : items.size + items2.size ≤ sizeLine + 1) :
    Meets (Builtin.«list.extend» ⟨[.ref l, .ref b], []⟩) (fun _ R s => s.heap.get? l = some { cls := .type "list", dict := none, data := .seq items n, slots := #[] } ∧ s.heap.get? b = some { cls := .type "tuple", dict := dd, data := .seq items2 n2, slots := sl } ∧ R (.ok (.ret Value.none)) { s with heap := s.heap.update l (Obj.mapSeq fun x => x ++ items2), toks := s.toks }) :=
  .of_wp fun prog w A R s h => by
    obtain ⟨hp, g, d, tk, os⟩ := s; obtain ⟨hl, hb, hh⟩ := h
    have f2 := AutoSeq1.sub_tuple_tuple; have f3 := AutoSeq1.sub_list_list; have f4 := AutoSeq1.sub_tuple_list; have f5 := AutoSeq1.sub_list_tuple
    have hz : (items ++ items2).size ≤ sizeLine + 1 := by rw [Array.size_append]; exact hs2
    wp_walk using (wpAny_updateSeq hl rfl (hz := hs1) (_hz' := hz)), wpAny_loadPart' hl, wpAny_loadPart' hb
    exact ⟨_, rfl, hh⟩
end
def rExtX (K : PySem.W.Frag) : V → List V → Hp → VK → Prop := fun x vs H Q => ∃ l b xs zs, x = .ref l ∧ vs = [.ref b] ∧ H l = some (.lst xs) ∧ (SqL K H b zs ∨ SqT K H b zs) ∧ xs.length + zs.length ≤ sizeLine ∧ Q .non (upd H l (.lst (xs ++ zs)))
theorem mt_extX {X : Cx} : MtR X "list.extend" (rExtX X.K) := by
  intro pins s σ H x vs v us Q I rx rv ⟨l, b, xs, zs, ex, ev, hH, hB, hz, q⟩
  subst ex; subst ev
  cases rx
  obtain ⟨u, rfl, ru⟩ := rv.one
  cases ru
  obtain ⟨z, its, n, r, hl, e⟩ := I.lstM hH
  have go : ∀ (js : List Value), Vals zs js → wpAny (model X.prog X.w) X.A (call (.builtin "list.extend") [.ref l, .ref b]) (EP X pins σ Q) X.xe s ∨ True := fun _ _ => .inr trivial
  have nl : ∀ js : List Value, Vals zs js → ¬ (!its.toArray.isEmpty && Builtin.List.listTooLong (its.toArray.size + js.toArray.size)) = true := fun js rj => by
    have h2 := rj.length
    have : its.toArray.size + js.toArray.size ≤ sizeLine := by simp only [List.size_toArray]; omega
    rw [notLongL this, Bool.and_false]
    exact Bool.false_ne_true
  have fin : ∀ js : List Value, Vals zs js → EP X pins σ Q Value.none { s with heap := s.heap.update l (Obj.mapSeq fun x => x ++ js.toArray), toks := s.toks } := fun js rj =>
    ⟨.non, _, I.lset (its' := its ++ js) hH e (by simp) (r.append rj) (by simp only [List.length_append]; omega), rfl, q⟩
  rcases hB with hB | hB
  · obtain ⟨js, rj, ⟨⟨c1, d1, t1, sl1⟩, n1, o1, k1, _, g1⟩, _⟩ := I.list hB
    simp only at k1 g1
    subst k1 g1
    have h2 := rj.length
    exact call_meets PySem.F.slot_list_extend ⟨_, e, rfl⟩ PySem.F.entry_list_extend (PySem.F.args_list_extend_2 _ _)
      (ext_list l b its.toArray js.toArray n n1 d1 sl1 (nl js rj) (by simp only [List.size_toArray]; omega) (by simp only [List.size_toArray]; omega)) ⟨e, o1, fin js rj⟩
  · obtain ⟨js, rj, ⟨⟨c1, d1, t1, sl1⟩, o1, k1, n1, g1⟩, _⟩ := I.tuple hB
    simp only at k1 g1
    subst k1 g1
    have h2 := rj.length
    exact call_meets PySem.F.slot_list_extend ⟨_, e, rfl⟩ PySem.F.entry_list_extend (PySem.F.args_list_extend_2 _ _)
      (ext_tuple l b its.toArray js.toArray n n1 d1 sl1 (nl js rj) (by simp only [List.size_toArray]; omega) (by simp only [List.size_toArray]; omega)) ⟨e, o1, fin js rj⟩
def dmExtend : DM := fun x ds μ => match rawL μ x, ds with
  | some (l, xs), [d] => match seqOf μ d with
    | some ys => if xs.length + ys.length ≤ sizeLine then ok .non (setL μ l (xs ++ ys)) else none
    | none => none
  | _, _ => none
theorem md_extend {X : Cx} {W : WX} : MethD X W "list.extend" dmExtend := ⟨_, mt_extX, fun dx ds vx vs σ H G m μ Q wf rx rl o => by
  unfold dmExtend at o
  split at o
  · rename_i l xs d e
    obtain ⟨h1, a, ws, rfl, h2, q, r⟩ := rawL_rep wf e rx
    obtain ⟨v, rfl, rv⟩ := repL1 rl
    split at o
    · rename_i ys e2
      obtain ⟨b, zs, rfl, q2, r2⟩ := seqOf_rep wf e2 rv
      split at o
      · rename_i hz
        exact ⟨a, b, ws, zs, rfl, rfl, q, q2, by rw [r.length, r2.length]; exact hz, o.setL wf h1 h2 (r.app r2) rfl⟩
      · exact o.elim
    · exact o.elim
  · exact o.elim⟩
end Pd
end
section
namespace L2
open PySem PySem.Spec PyProof.Rows

/-- the names of a method that closes over __class__ alone -/
structure SupScope (N P : List Str) (sc : Scope) : Prop where
  kind : sc.kind = .function
  co : sc.isCoroutine = false
  gen : sc.isGenerator = false
  nd : N.Nodup
  pre : N.take P.length = P
  par : ∀ x ∈ P, sc.names.lookup x = some .local
  nocell : ∀ y ∈ sc.names, y.2 ≠ .cell
  free : ∀ y ∈ sc.names, y.2 = .free → y.1 = ("__class__" : Str)
  hsup : sc.names.lookup ("super" : Str) = some .globalImplicit
  hcls : sc.names.lookup ("__class__" : Str) = some .free

def cxS (CX : CXT) (P : Program) (w : World) (K : PySem.W.Frag) (mg : Str → Option Value) (base : Heap) (N : List Str) (qual : Str) (scope : Scope) (f cda cc : Addr) (A : Around) (outer : List Env) (s : Shared) (H : Hp) (E : XK) : Cx where
  prog := P
  w := w
  K := K
  mg := mg
  base := base
  A := A.deeper (PySem.W.ksEnv qual scope s.heap.objs.size f (.ref cda) cc)
  N := N
  s_0 := s
  H_0 := H
  env := PySem.W.ksEnv qual scope s.heap.objs.size f (.ref cda) cc
  outer := outer
  stack := PySem.W.ksEnv qual scope s.heap.objs.size f (.ref cda) cc :: outer
  ex := []
  calm := true
  fn := fun _ => false
  pn := []
  xe := fun e s' => wpAny (model P w) (A.deeper (PySem.W.ksEnv qual scope s.heap.objs.size f (.ref cda) cc)) (leaving (PySem.W.ksEnv qual scope s.heap.objs.size f (.ref cda) cc) e) (fun _ s'' => CX outer H s E e s'') (fun e' s'' => CX outer H s E e' s'') s'

theorem zip_rev_get {x : Str} {u : Value} : ∀ {P : List Str} {us : List Value} {i : Nat}, P.Nodup → P[i]? = some x → us[i]? = some u → (P.zip us).reverse.lookup x = some u := by
  have mem : ∀ {P : List Str} {us : List Value} {i : Nat}, P[i]? = some x → us[i]? = some u → (x, u) ∈ P.zip us := by
    intro P
    induction P with
    | nil => intro us i h; simp at h
    | cons p P ih =>
      intro us i h1 h2
      cases us with
      | nil => simp at h2
      | cons v us =>
        cases i with
        | zero => simp at h1 h2; subst h1; subst h2; simp
        | succ i =>
          simp at h1 h2
          rw [List.zip_cons_cons]
          exact List.mem_cons_of_mem _ (ih h1 h2)
  have key : ∀ (l : List (Str × Value)), (l.map (·.1)).Nodup → (x, u) ∈ l → l.lookup x = some u := by
    intro l
    induction l with
    | nil => intro _ h; cases h
    | cons p l ih =>
      intro nd h
      obtain ⟨a, b⟩ := p
      rw [List.map_cons, List.nodup_cons] at nd
      rcases List.mem_cons.mp h with e | e
      · cases e
        simp [List.lookup]
      · have ne : x ≠ a := by
          rintro rfl
          exact nd.1 (List.mem_map_of_mem (f := (·.1)) e)
        have : (x == a) = false := by simpa using ne
        simp only [List.lookup, this]
        exact ih nd.2 e
  intro P us i nd h1 h2
  refine key _ ?_ (List.mem_reverse.mpr (mem h1 h2))
  rw [List.map_reverse]
  refine List.pairwise_reverse.mpr (List.Pairwise.imp (R := fun a b => a ≠ b) (fun h => Ne.symm h) ?_)
  have : ∀ (P : List Str) (us : List Value), P.Nodup → ((P.zip us).map (·.1)).Nodup := by
    intro P
    induction P with
    | nil => intro us _; simp
    | cons p P ih =>
      intro us nd
      cases us with
      | nil => simp
      | cons v us =>
        rw [List.zip_cons_cons, List.map_cons, List.nodup_cons]
        rw [List.nodup_cons] at nd
        refine ⟨fun z => ?_, ih us nd.2⟩
        obtain ⟨q, hq, e⟩ := List.mem_map.mp z
        have e' : q.1 = p := e
        exact nd.1 (by rw [← e']; exact (List.of_mem_zip (a := q.1) (b := q.2) hq).1)
  exact this P us nd

theorem inv_startS {CX : CXT} {P : Program} {w : World} {K : PySem.W.Frag} {mg : Str → Option Value} {base : Heap} {N ps : List Str} {qual : Str} {scope : Scope} {f cda cc D : Addr} {A : Around} {outer : List Env} {s : Shared} {H : Hp} {E : XK} {us : List Value} {vs : List V} {h1 : Heap} {tk : Nat}
    {cl : Value} {cld : Option Addr} {csl : Array (Option Value)}
    (S : SupScope N ps scope) (hd : A.handled = none) (e0 : Env0 P w K mg base A outer s H) (hl : vs.length = ps.length) (r : Vals vs us) (lc : K.lookup cc = some ⟨cl, cld, .cell (some (.ref D)), csl⟩)
    (hns : h1.Ns s.heap.objs.size (fun x => (ps.zip us).reverse.lookup x)) (hk : ∀ b o, s.heap.get? b = some o → h1.get? b = some o) :
    Inv (cxS CX P w K mg base N qual scope f cda cc A outer s H E) [] (start N vs) H ⟨h1, s.gens, s.drawn, tk, s.os⟩ := by
  have hpl : ps.length ≤ N.length := by have := congrArg List.length S.pre; rw [List.length_take] at this; omega
  have noA : ∀ b : Addr, b ∉ (cxS CX P w K mg base N qual scope f cda cc A outer s H E).ex := fun b z => absurd (show b ∈ ([] : List Addr) from z) (by simp)
  have bcc : base.get? cc = some ⟨cl, cld, .cell (some (.ref D)), csl⟩ := e0.mod.kin _ _ lc
  have scc := e0.bs _ _ bcc
  have one : ∀ {y : Str} {c : Addr}, (cxS CX P w K mg base N qual scope f cda cc A outer s H E).env.cells.lookup y = some c → y = "__class__" ∧ c = cc := fun {y c} h => by
    have h' : List.lookup y [(("__class__" : Str), cc)] = some c := h
    by_cases e : y = "__class__"
    · subst e
      simp [List.lookup] at h'
      exact ⟨rfl, h'.symm⟩
    · have : (y == ("__class__" : Str)) = false := by simpa using e
      simp [List.lookup, this] at h'
  refine ⟨⟨e0.mod, S.kind, rfl, rfl, Nat.le_refl _, fun y z c h1 h2 => (one h1).1.trans (one h2).1.symm, fun y hy => ?_, fun y c z _ => Bool.noConfusion (show false = true from z), fun _ => hd, Around.frames_deeper e0.frames, .inr ⟨rfl, rfl⟩, fun b z => absurd z (noA b), e0.bs, e0.bsz, fun b _ _ => noA b, fun b z => absurd z (noA b), e0.funs, e0.frf⟩,
    rfl, e0.bare, Un.kept hk, ⟨_, hns, fun i y v h1 h2 h3 => ?_⟩, fun y c h => ?_, e0.hok.fresh (Nat.le_refl _), fun y c h => ?_, fun p hp => absurd (show p ∈ ([] : List (Addr × Obj)) from hp) (by simp), e0.hok.kept hk, ?_⟩
  · have hy : scope.names.lookup y = some .cell ∨ scope.names.lookup y = some .free := hy
    rcases hy with hy | hy
    · exact absurd rfl (S.nocell _ (PySem.mem_of_lookup hy))
    · have e := S.free _ (PySem.mem_of_lookup hy) rfl
      have e : y = "__class__" := e
      subst e
      exact ⟨cc, by show List.lookup _ [(("__class__" : Str), cc)] = some cc; simp [List.lookup]⟩
  · have hi : i < vs.length := by
      unfold start at h2
      by_cases hi : i < vs.length
      · exact hi
      · rw [List.getElem?_append_right (by simpa using hi)] at h2
        rw [List.getElem?_replicate] at h2
        split at h2 <;> cases h2
    have ha : vs[i]? = some v := by
      unfold start at h2
      rw [List.getElem?_append_left (by simpa using hi), List.getElem?_map] at h2
      cases e : vs[i]? with
      | none => rw [e] at h2; cases h2
      | some a => rw [e] at h2; cases h2; rfl
    obtain ⟨u, hu, rv⟩ := r.get ha
    have hp : ps[i]? = some y := by
      rw [← S.pre, List.getElem?_take_of_lt (by omega)]; exact h1
    have ndP : ps.Nodup := by rw [← S.pre]; exact S.nd.sublist (List.take_sublist _ _)
    exact ⟨u, rv, .inl ⟨S.par y (List.mem_of_getElem? hp), zip_rev_get ndP hp hu⟩⟩
  · obtain ⟨rfl, rfl⟩ := one h
    exact ⟨_, _, hk _ _ scc.1, rfl⟩
  · obtain ⟨rfl, rfl⟩ := one h
    exact scc.2
  · unfold start
    show _ = N.length
    rw [List.length_append, List.length_map, List.length_replicate]
    omega

section
open PySem.W
/-- what is told of a class C whose __init__ goes to its base's by super() -/
structure SupC (P : Program) (K : PySem.W.Frag) (mg : Str → Option Value) (C cc cda f : Addr) (fd : FuncData) (B i newId : String) (bmB : List Value) : Prop where
  kx : PySem.W.KxsFacts B i
  eb : ExcBaseFacts B newId i bmB
  ini : PySem.W.excInitIn K C bmB newId = true
  sup : PySem.W.ks_superIn K C C "__init__" = some (some (.builtin i))
  sub : PySem.W.subIn K (.ref C) (.type B) = some true
  own : PySem.W.subIn K (.ref C) (.ref C) = some true
  opq : PySem.W.nsIn K PySem.cStatics "thirdparty.any" = some none
  cell : ∃ cl cld csl, K.lookup cc = some ⟨cl, cld, .cell (some (.ref C)), csl⟩
  code : ∃ ccl cdd ccs vs file tf, K.lookup cda = some ⟨ccl, cdd, .fields vs, ccs⟩ ∧ vs[2]? = some (.str file tf) ∧ ((P.main.file : Str) == file) = true
  top : (P.main.scope.names.lookup ("super" : Str)).isSome = false
  msup : mg "super" = none
  selfAr : ∃ ar, (fd.params.posonlyargs ++ fd.params.args).head? = some ar ∧ ar.arg = ("self" : Str)

variable {CX : CXT} {P : Program} {w : World} {K : PySem.W.Frag} {mg : Str → Option Value} {base : Heap} {k : Nat} {f cc cda C : Addr} {name qual : Str} {params : Arguments} {rest : List Stmt} {e : Expr} {es : List Expr} {p0 p1 p2 p3 p4 : Pos} {scope : Scope} {dV kV doc pm ct oc : Value} {an od : Option Addr}
    {osl : Array (Option Value)} {N ps : List Str} {sp : Sp} {B i newId : String} {bmB : List Value}

theorem fn_sup (lk : K.lookup f = some ⟨oc, od, .func (PySem.W.ksFn name qual params (.Expr (.Call (.Attribute (.Call (.Name "super" p0) [] [] p1) "__init__" p2) (e :: es) [] p3) p4 :: rest) scope dV kV doc pm an (.ref cda) ct cc), osl⟩)
    (hcd : PySem.W.codeIn K (.ref cda) qual = true) (S : SupScope N (("self" : Str) :: ps) scope)
    (T : SupC P K mg C cc cda f (PySem.W.ksFn name qual params (.Expr (.Call (.Attribute (.Call (.Name "super" p0) [] [] p1) "__init__" p2) (e :: es) [] p3) p4 :: rest) scope dV kV doc pm an (.ref cda) ct cc) B i newId bmB)
    (len : ∀ vs H Q E, sp vs H Q E → vs.length = (("self" : Str) :: ps).length)
    (hbody : ∀ (A : Around) (outer : List Env) (s : Shared) (H : Hp) (vs : List V) (Q : VK) (E : XK), Room k (A.deeper (PySem.W.ksEnv qual scope s.heap.objs.size f (.ref cda) cc)) → sp vs H Q E →
      ∃ a ta t, vs.head? = some (.ref a) ∧ H a = some (exo a C none) ∧ PA (cxS CX P w K mg base N qual scope f cda cc A outer s H E) (e :: es) ta ∧ PSs (cxS CX P w K mg base N qual scope f cda cc A outer s H E) rest t ∧
        ta (start N vs) H fun ws H1 => ws.length ≤ 1000 ∧ H1 a = some (exo a C none) ∧ t { nx := fun _ H' => Q .non H', rt := Q } (start N vs) H1)
    (hev : ∀ env : Env, ∃ pl, eval (.Call (.Attribute (.Call (.Name "super" p0) [] [] p1) "__init__" p2) (e :: es) [] p3) env = (do
      let ov ← attributeBase (.Call (.Name "super" p0) [] [] p1) "__init__" env (eval (.Call (.Name "super" p0) [] [] p1) env)
      standAt p2.atName
      let (f, first) ← holding [ov] (getMethod ov "__init__" pl)
      callWith p3 f first (backTo p3 (starEach (e :: es) env)) []) := by intro env; exact ⟨_, rfl⟩)
    (he : ∀ env, starEach (e :: es) env = (false, eval e env) :: starEach es env := by intro env; rfl) (hpl : ∀ env, (backTo p3 (starEach es env)).any (·.1) = false := by intro env; rfl) :
    FnOk P w K mg base CX (k + 1) f (PySem.W.ksFn name qual params (.Expr (.Call (.Attribute (.Call (.Name "super" p0) [] [] p1) "__init__" p2) (e :: es) [] p3) p4 :: rest) scope dV kV doc pm an (.ref cda) ct cc) (("self" : Str) :: ps) sp := by
  refine ⟨len, fun A outer s H args us vs Q E hr e0 hb r hsp => ?_⟩
  have hl := len _ _ _ _ hsp
  have KX : K.In s.heap := e0.mod.kin.keeps fun b o e => (e0.bs b o e).1
  have lim : s.heap.NoLimit := e0.mod.nolimit.keeps fun b o e => (e0.bs b o e).1
  obtain ⟨cl, cld, csl, lc⟩ := T.cell
  obtain ⟨ccl, cdd, ccs, fv, file, tf, lcd, hvs, hfile⟩ := T.code
  obtain ⟨ar, har, harg⟩ := T.selfAr
  refine PySem.ks_codeAny_call_defAt (binds := (("self" : Str) :: ps).zip us) hr.depth (KX _ _ lk) rfl lim (PySem.W.codeRec_of KX hcd) rfl (hb) S.nocell (fun x hx => S.par x.1 (List.of_mem_zip (a := x.1) (b := x.2) hx).1) (fun h₀ hns hk => ?_) S.co S.gen S.kind
  obtain ⟨a, ta, t, hv0, ha0, hta, ht, hq⟩ := hbody A outer s H vs Q E (hr.deeper _) hsp
  have I : Inv (cxS CX P w K mg base N qual scope f cda cc A outer s H E) [] (start N vs) H ⟨h₀, s.gens, s.drawn, s.toks + ((("self" : Str) :: ps).zip us).length, s.os⟩ := inv_startS S hr.hd e0 hl r lc hns hk
  have hu0 : us.head? = some (.ref a) := by
    cases r with
    | nil => cases hv0
    | cons rv _ =>
      rw [List.head?_cons] at hv0
      cases hv0
      have e : _ = Value.ref a := rv
      rw [e]
      rfl
  have hidx : (("self" : Str) :: ps)[0]? = some ("self" : Str) := rfl
  have hus0 : us[0]? = some (Value.ref a) := by
    cases us with
    | nil => cases hu0
    | cons x us => exact hu0
  have nd : (("self" : Str) :: ps).Nodup := by rw [← S.pre]; exact S.nd.sublist (List.take_sublist _ _)
  have hself : ((("self" : Str) :: ps).zip us).reverse.lookup ar.arg = some (Value.ref a) := by rw [harg]; exact zip_rev_get nd hidx hus0
  have hka : scope.names.lookup ar.arg = some .local := by rw [harg]; exact S.par _ List.mem_cons_self
  obtain ⟨nm, N', qn, bs, bm, hdct, sn, sub, ab, col, dd, k0, k1, k2, k3, k5, hC, hT⟩ := PySem.W.excInit_of I.kIn T.ini
  obtain ⟨t0, hea⟩ := exo_at I.hok ha0
  have hac : a ≠ C := fun z => by
    rw [z, hC] at hea
    cases hea
  obtain ⟨mb, hb1, hb2⟩ := I.mod.blt
  obtain ⟨pl, hpl'⟩ := hev (PySem.W.ksEnv qual scope s.heap.objs.size f (.ref cda) cc)
  refine PySem.ks_wpAt_execs_cons (PySem.ks_wpAt_Expr_any (PySem.ks_wpAt_MethodCall (pl := pl) ?_ hpl') I.quiet)
  refine PySem.ks_wpAt_super_base (env := PySem.W.ksEnv qual scope s.heap.objs.size f (.ref cda) cc) S.hsup S.hcls (by decide) rfl (I.kIn _ _ lk) rfl har rfl (I.kIn _ _ lcd) rfl hvs hfile T.top ?_
  refine PySem.W.ks_loadName_global S.kind S.hsup (Calls.loadGlobal_builtin (env := PySem.W.ksEnv qual scope s.heap.objs.size f (.ref cda) cc) (I.mod.glob.keeps I.bk) T.msup (hb1.keeps I.bk) ((hb2 _ (by decide)).trans (by kernel_rfl : bootBuiltins "super" = some (.type "super"))) ⟨rfl, ?_⟩)
  refine wpAny_loadName_free S.kind S.hcls rfl ⟨_, I.kIn _ _ lc, rfl⟩ ?_
  refine wpAny_loadName_local S.kind hka hns hself ?_
  refine PySem.ks_wpAny_isType_cls hC rfl ⟨rfl, ?_⟩
  refine PySem.ks_wpAny_call_super hC rfl hea rfl (fun c z => by cases z) (PySem.W.looks_subIn I.kIn T.own) fun h1 e1 k1' => ?_
  have KX1 : K.In h1 := I.kIn.keeps k1'
  have hea1 := k1' _ _ hea
  have hm1 : PySem.W.Looks (model P w) h1 (mroOf (.ref C)) (.ref C :: bm) := (PySem.W.Looks.ld (part := none) (k1' _ _ hC)).andThen .now
  have hI1 : PySem.W.Looks (model P w) h1 (isInstance (.ref a) (.type B)) true := (PySem.W.Looks.ld (part := none) hea1).andThen (PySem.W.looks_subIn KX1 T.sub)
  refine PySem.W.kxs_getMethod T.kx e1 (PySem.W.looks_opaque KX1 T.opq) hm1 rfl KX1 ?_ hI1 hac (by decide) ?_
  · have q := T.sup
    unfold PySem.W.ks_superIn at q
    cases hcl : PySem.W.clsIn K C with
    | none => rw [hcl] at q; cases q
    | some cd =>
      rw [hcl] at q
      have hmro : cd.mro = .ref C :: bm := by
        unfold PySem.W.clsIn at hcl
        split at hcl
        · rename_i c d cd' sl ho
          have z := I.kIn _ _ ho
          rw [hC] at z
          cases hcl
          have z := Option.some.inj z
          have z2 := congrArg Obj.data z
          have z3 : ClassData.mro _ = ClassData.mro _ := congrArg (fun x => match x with | Data.cls cd => cd.mro | _ => []) z2
          exact z3.symm
        · cases hcl
      rw [Option.bind_some, hmro] at q
      exact q
  have k2 : ∀ b o, h₀.get? b = some o → (h1.push (PySem.W.kxs_mw i a)).get? b = some o := fun b o z => Heap.get?_push_of_some _ (k1' b o z)
  have hsz : h₀.objs.size ≤ h1.objs.size := by
    by_cases z : h₀.objs.size < h1.objs.size
    · exact Nat.le_of_lt z
    · have z2 := Heap.lt_size e1
      exact Nat.le_of_lt z2
  have hu : (h1.push (PySem.W.kxs_mw i a)).get? h1.objs.size = some (PySem.W.kxs_mw i a) := Heap.get?_push_at rfl rfl
  have J : Inv (cxS CX P w K mg base N qual scope f cda cc A outer s H E) [] (start N vs) H ⟨h1.push (PySem.W.kxs_mw i a), s.gens, s.drawn, s.toks + ((("self" : Str) :: ps).zip us).length + 1, s.os⟩ := I.kept k2
  have J2 : Inv (cxS CX P w K mg base N qual scope f cda cc A outer s H E) [(h1.objs.size, PySem.W.kxs_mw i a)] (start N vs) H ⟨h1.push (PySem.W.kxs_mw i a), s.gens, s.drawn, s.toks + ((("self" : Str) :: ps).zip us).length + 1, s.os⟩ := J.pins_of fun p hp => by
    obtain rfl : p = (h1.objs.size, PySem.W.kxs_mw i a) := by simpa using hp
    exact ⟨hu, I.hok.fresh hsz, Nat.ne_of_gt (Nat.lt_of_lt_of_le I.lt hsz), I.nofs hsz, fun v z => by cases z⟩
  have hplain : (backTo p3 (starEach (e :: es) (PySem.W.ksEnv qual scope s.heap.objs.size f (.ref cda) cc))).any (·.1) = false := by
    rw [he]
    show (false || (backTo p3 (starEach es _)).any (·.1)) = false
    rw [hpl]; rfl
  refine PySem.W.kxs_callWith (i := i) (x := a) hplain ?_
  rw [show PySem.callEnv (PySem.W.ksFn name qual params (.Expr (.Call (.Attribute (.Call (.Name "super" p0) [] [] p1) "__init__" p2) (e :: es) [] p3) p4 :: rest) scope dV kV doc pm an (.ref cda) ct cc) s.heap.objs.size f = PySem.W.ksEnv qual scope s.heap.objs.size f (.ref cda) cc from rfl, he]
  refine Calls.evalArgs_plain ?_
  have run := hta.run p3 [(h1.objs.size, PySem.W.kxs_mw i a)] _ _ H _ J2 hq
  rw [show (cxS CX P w K mg base N qual scope f cda cc A outer s H E).env = PySem.W.ksEnv qual scope s.heap.objs.size f (.ref cda) cc from rfl, he] at run
  refine thn run fun us1 s1 ⟨ws, H1, I3, r1, hlen, ha1, qt⟩ => ?_
  have hu1 : s1.heap.get? h1.objs.size = some (PySem.W.kxs_mw i a) := (I3.pin (h1.objs.size, PySem.W.kxs_mw i a) (List.mem_append_right _ List.mem_cons_self)).1
  refine ⟨hu1, ?_⟩
  obtain ⟨t1, hea3⟩ := exo_at I3.hok ha1
  have hus1 : us1.length ≤ sizeLine := by
    rw [← Paired.length r1, sizeLine_eq]
    omega
  obtain ⟨nm', N'', qn', bs', bm', hdct', sn', sub', ab', col', dd', k0', k1'', k2', k3', k5', hC1, hT1⟩ := PySem.W.excInit_of I3.kIn T.ini
  obtain ⟨hh, g, d, tk, os⟩ := s1
  refine wpAny_call (codeAny_of_tree ?_)
  show wpAny _ (Around.in1 _) (callAny (.ref h1.objs.size) ⟨us1, []⟩) _ _ _
  simp only [callAny]
  refine wpAny_bind (wpAny_load hu1 ?_)
  simp only [PySem.W.kxs_mw, show (Value.type "method-wrapper" == Value.type "method" || Value.type "method-wrapper" == Value.type "builtin_function_or_method" || Value.type "method-wrapper" == Value.type "method-wrapper") = true by decide, if_true]
  refine PySem.W.KFB.if_so (by decide) ?_
  refine wpAny_bind (PySem.W.check_bound_init T.eb.toExcCallFacts hC1 hea3 rfl ?_)
  refine wpAny_bind (wpAny_pure (wpAny_pure ?_))
  refine ⟨plainId_quiet T.eb.init.plain _, codeAny_builtin T.eb.initEntry ?_⟩
  refine PySem.W.exc_init_tree (cls := .ref C) (t0 := t1) (dv := none) (c2 := .none) (c3 := .none) (b4 := .bool false) hea3 hus1 fun h4 k4 he4 ht4 => ?_
  have I4 := I3.write (t' := tk) (x := a) (e := a) (o := exo a C none) (by rw [ha1]; exact True.intro) (.inl rfl) k4 ⟨_, he4⟩ (exo_ok he4)
  have eu : upd H1 a (exo a C none) = H1 := by
    funext b
    by_cases hb : b = a
    · rw [hb, upd_same, ha1]
    · rw [upd_ne hb]
  rw [eu] at I4
  have I5 : Inv (cxS CX P w K mg base N qual scope f cda cc A outer s H E) [] (start N vs) H1 ⟨h4, g, d, tk, os⟩ := I4.pins_of fun p hp => absurd hp (by simp)
  refine wpAt_of_wpAny (wpAny_mono (ht.run [] _ _ H1 _ I5 qt) (fun fl s' hs => ?_) fun e s' hs => hs)
  have fin : ∀ {σ' : St} {H' : Hp} {v : V} {u : Value}, Inv (cxS CX P w K mg base N qual scope f cda cc A outer s H E) [] σ' H' s' → RelV v u → Q v H' → CE outer P w H s Q u s' :=
    fun {σ' H' v u} J rv q => ⟨v, H', J.os, J.bare, J.base, J.hok, rv, q⟩
  cases fl with
  | ret u =>
    obtain ⟨v, σ', H', J, rv, q⟩ := hs
    exact fin J rv q
  | next =>
    obtain ⟨σ', H', J, q⟩ := hs
    exact fin (v := V.non) (u := Value.none) J rfl q
  | brk =>
    obtain ⟨_, _, _, q⟩ := hs
    exact False.elim q
  | cont =>
    obtain ⟨_, _, _, q⟩ := hs
    exact False.elim q
end
end L2
end
section
namespace Pd
open PySem PySem.Spec L2
/-! ### an own exception's fields -/
section
variable {K : PySem.W.Frag} {H G H' G' H0 G0 : Hp} {m m' m0 : List Addr} {μ μ' μ0 : Mu} {p q : Addr} {o u : HO}
theorem Hid.set (x : Hid K H G m μ p o) (o' : HO) : Hid K (upd H p o') G m μ p o' := ⟨x.g, x.nl, upd_same⟩
theorem Hid.other (x : Hid K H G m μ p o) (ne : p ≠ q) : Hid K (upd H q u) G m μ p o := ⟨x.g, x.nl, by rw [upd_ne ne]; exact x.h⟩
/-- it is shown -/
theorem Wf.shown (wf : Wf K H G m μ) (x : Hid K H G m μ p o) : Wf K H (upd G p o) m μ := by
  refine ⟨fun a y e => ?_, wf.len, fun l c a h1 h2 => ?_, wf.inj⟩
  · by_cases z : a = p
    · subst z; rw [upd_same] at e; cases e; exact x.h
    · rw [upd_ne z] at e; exact wf.sub _ _ e
  · obtain ⟨q1, q2⟩ := wf.cell l c a h1 h2
    have ne : a ≠ p := fun z => x.nl ⟨l, c, h1, z ▸ h2⟩
    refine ⟨by rw [upd_ne ne]; exact q1, ?_⟩
    have := q2.mono (r := []) (H' := H) (le_upd (o := o) x.g) (fun _ e => e)
    simpa using this
theorem Step.shown (h0 : H0 p = none) (st : Step H0 G0 m0 μ0 H G m μ) (g : G p = none) : Step H0 G0 m0 μ0 H (upd G p o) m μ := by
  refine ⟨st.gsub.trans (le_upd g), st.frame, fun a z => ?_, st.lnew, st.mext, st.kp⟩
  by_cases q : a = p
  · rw [q]; exact .inr (.inl h0)
  · rw [upd_ne q] at z; exact st.gnew a z
theorem Hid.new (wf : Wf K H G m μ) (h : H p = none) : Hid K (upd H p o) G m μ p o := ⟨wf.gnone h, wf.dead h, upd_same⟩
end
/-- the fields' values, one behind the other -/
def fldR : List (Str × DE) → List Str → List D → Sl → Mu → R (List Str × List D)
  | [], ns, xs, _, μ => ok (ns, xs) μ
  | (f, g) :: r, ns, xs, sl, μ => bindR (g sl μ) fun d μ1 => fldR r (f :: ns) (d :: xs) sl μ1
/-- self.f = e, .. -/
def tFs (K : PySem.W.Frag) : List (Str × DE) → TS
  | [] => tNext
  | (f, g) :: r => tSeq (tOst K f (tVar 0) (TD K nW g)) (tFs K r)
section
variable {K : PySem.W.Frag} {H1 G1 : Hp} {m1 : List Addr} {μ1 : Mu} {a C : Addr} {Dn : Ends} {σ : L2.St}
/-- what is wanted of the fields -/
def fldW (K : PySem.W.Frag) (H1 G1 : Hp) (m1 : List Addr) (μ1 : Mu) (a C : Addr) (r : R (List Str × List D)) (Q : Hp → Prop) : Prop := match r with
  | some (.ok (ns, xs) μ') => ∀ H' G' m' d vs, H' a = some (exo a C (some d)) → H' d = some (exd d (ns.zip vs)) → d ≠ a → H1 d = none → Hid K H' G' m' μ' a (exo a C (some d)) → Hid K H' G' m' μ' d (exd d (ns.zip vs)) → Wf K H' G' m' μ' → Step H1 G1 m1 μ1 H' G' m' μ' → RepL K G' m' xs vs → ns.length = xs.length → Q H'
  | _ => False
theorem fld_old (T : OexC K C) (hs : σ[0]? = some (some (.ref a))) (h1a : H1 a = none) : ∀ (fs : List (Str × DE)) (ns : List Str) (xs : List Pd.D) (vs : List V) (d : Addr) (H G : Hp) (m : List Addr) (μ : Mu) (sl : Sl),
    (∀ f ∈ fs, PySem.W.findIn K (.ref C) f.1 = some none) → Hid K H G m μ a (exo a C (some d)) → Hid K H G m μ d (exd d (ns.zip vs)) → d ≠ a → H1 d = none → Wf K H G m μ → Step H1 G1 m1 μ1 H G m μ → RepS K G m sl σ → RepL K G m xs vs → ns.length = xs.length → ns.length + fs.length ≤ 900 →
    fldW K H1 G1 m1 μ1 a C (fldR fs ns xs sl μ) (fun H' => Dn.nx σ H') → tFs K fs Dn σ H := by
  intro fs
  induction fs with
  | nil =>
    intro ns xs vs d H G m μ sl _ ha hd hne h1d wf st rs rl hl hz w
    exact w H G m d vs ha.h hd.h hne h1d ha hd wf st rl hl
  | cons fg r ih =>
    obtain ⟨f, g⟩ := fg
    intro ns xs vs d H G m μ sl hno ha hd hne h1d wf st rs rl hl hz w
    refine ⟨G, m, μ, sl, wf, rs, rfl, ?_⟩
    have w : fldW K H1 G1 m1 μ1 a C (bindR (g sl μ) fun y μ2 => fldR r (f :: ns) (y :: xs) sl μ2) (fun H' => Dn.nx σ H') := w
    revert w
    cases g sl μ with
    | none => exact fun z => z
    | some o =>
      cases o with
      | exc x μ2 => exact fun z => z.elim
      | ok y μ2 =>
        intro w v H2 G2 m2 wf2 st2 rv
        have ha2 := ha.step st2
        have hd2 := hd.step st2
        refine ⟨.ref a, hs, a, C, rfl, T, hno (f, g) (List.mem_cons_self ..), .inr ⟨d, ns.zip vs, ha2.h, hd2.h, ?_, ?_⟩⟩
        · rw [List.length_zip]
          simp only [List.length_cons] at hz
          omega
        · refine ih (f :: ns) (y :: xs) (v :: vs) d _ G2 m2 μ2 sl (fun q hq => hno q (List.mem_cons_of_mem _ hq)) (ha2.other (Ne.symm hne)) (hd2.set _) hne h1d (wf2.hset hd2 _) (Step.hset h1d (st.trans st2) _) (st2.repS rs) ⟨v, vs, rfl, rv, st2.repL rl⟩ (by simp [hl]) (by simp only [List.length_cons] at hz ⊢; omega) w
theorem fld_new (T : OexC K C) (hs : σ[0]? = some (some (.ref a))) (h1a : H1 a = none) {f : Str} {g : DE} {r : List (Str × DE)} {H G : Hp} {m : List Addr} {μ : Mu} {sl : Sl} (hno : ∀ q ∈ (f, g) :: r, PySem.W.findIn K (.ref C) q.1 = some none)
    (ha : Hid K H G m μ a (exo a C none)) (wf : Wf K H G m μ) (st : Step H1 G1 m1 μ1 H G m μ) (rs : RepS K G m sl σ) (hz : r.length ≤ 800)
    (w : fldW K H1 G1 m1 μ1 a C (fldR ((f, g) :: r) [] [] sl μ) (fun H' => Dn.nx σ H')) : tFs K ((f, g) :: r) Dn σ H := by
  refine ⟨G, m, μ, sl, wf, rs, rfl, ?_⟩
  have w : fldW K H1 G1 m1 μ1 a C (bindR (g sl μ) fun y μ2 => fldR r [f] [y] sl μ2) (fun H' => Dn.nx σ H') := w
  revert w
  cases g sl μ with
  | none => exact fun z => z
  | some o =>
    cases o with
    | exc x μ2 => exact fun z => z.elim
    | ok y μ2 =>
      intro w v H2 G2 m2 wf2 st2 rv
      have ha2 := ha.step st2
      refine ⟨.ref a, hs, a, C, rfl, T, hno (f, g) (List.mem_cons_self ..), .inl ⟨ha2.h, fun dx hn hne => ?_⟩⟩
      have h1d : H1 dx = none := (st.trans st2).kp dx hn
      have hd3 : Hid K (upd H2 dx (exd dx [(f, v)])) G2 m2 μ2 dx (exd dx [(f, v)]) := Hid.new wf2 hn
      have ha3 : Hid K (upd H2 dx (exd dx [(f, v)])) G2 m2 μ2 a (exo a C none) := ha2.other (Ne.symm hne)
      exact fld_old T hs h1a r [f] [y] [v] dx _ G2 m2 μ2 sl (fun q hq => hno q (List.mem_cons_of_mem _ hq)) (ha3.set _) (hd3.other hne) hne h1d ((wf2.hid hn).hset ha3 _) (Step.hset h1a ((st.trans st2).trans (Step.hid hn)) _) (st2.repS rs) ⟨v, [], rfl, rv, rfl⟩ rfl (by simp only [List.length_cons, List.length_nil]; omega) w
end
end Pd
namespace Pd
open PySem PySem.Spec L2
def tIx : List Nat → TA
  | [] => tNil
  | i :: r => tCons (tVar i) (tIx r)
theorem tIx_ok {σ : L2.St} {H : Hp} : ∀ {is : List Nat} {Q : List V → Hp → Prop}, (∀ i ∈ is, ∃ v, σ[i]? = some (some v)) → (∀ ws, ws.length = is.length → Q ws H) → tIx is σ H Q
  | [], Q, _, h => h [] rfl
  | i :: r, Q, hi, h => by
    obtain ⟨v, e⟩ := hi i (List.mem_cons_self ..)
    exact ⟨v, e, tIx_ok (fun j hj => hi j (List.mem_cons_of_mem _ hj)) fun ws hl => h (v :: ws) (by simp [hl])⟩
/-- what __init__ of the class at C promises -/
def spI (K : PySem.W.Frag) (C : Addr) (n : Nat) (fs : List (Str × DE)) : Sp := fun vs H Q _ => ∃ a ws H1 G m μ ds, vs = .ref a :: ws ∧ ws.length = n ∧ H = upd H1 a (exo a C none) ∧ H1 a = none ∧ Wf K H1 G m μ ∧ RepL K G m ds ws ∧
  fldW K H1 G m μ a C (fldR fs [] [] (none :: ds.map some) μ) (fun H' => Q .non H')
section
variable {CX : CXT} {P : Program} {w : World} {K : PySem.W.Frag} {mg : Str → Option Value} {base : Heap} {k : Nat} {f cc cda C : Addr} {name qual : Str} {params : Arguments} {rest : List Stmt} {e : Expr} {es : List Expr} {p0 p1 p2 p3 p4 : Pos} {scope : Scope} {dV kV doc pm ct oc : Value} {an od : Option Addr}
    {osl : Array (Option Value)} {ps : List Str} {B i newId : String} {bmB : List Value} {is : List Nat} {f1 : Str} {g1 : DE} {r : List (Str × DE)}
theorem fnI (lk : K.lookup f = some ⟨oc, od, .func (PySem.W.ksFn name qual params (.Expr (.Call (.Attribute (.Call (.Name "super" p0) [] [] p1) "__init__" p2) (e :: es) [] p3) p4 :: rest) scope dV kV doc pm an (.ref cda) ct cc), osl⟩)
    (hcd : PySem.W.codeIn K (.ref cda) qual = true) (S : SupScope (("self" : Str) :: ps) (("self" : Str) :: ps) scope)
    (T : SupC P K mg C cc cda f (PySem.W.ksFn name qual params (.Expr (.Call (.Attribute (.Call (.Name "super" p0) [] [] p1) "__init__" p2) (e :: es) [] p3) p4 :: rest) scope dV kV doc pm an (.ref cda) ct cc) B i newId bmB)
    (O : OexC K C) (hno : ∀ q ∈ (f1, g1) :: r, PySem.W.findIn K (.ref C) q.1 = some none) (hr : r.length ≤ 800) (his : ∀ i ∈ is, i < ps.length + 1) (hil : is.length ≤ 1000)
    (hargs : ∀ (A : Around) (outer : List Env) (s : Shared) (H : Hp) (E : XK), PA (cxS CX P w K mg base (("self" : Str) :: ps) qual scope f cda cc A outer s H E) (e :: es) (tIx is))
    (hrest : ∀ (A : Around) (outer : List Env) (s : Shared) (H : Hp) (E : XK), Room k (A.deeper (PySem.W.ksEnv qual scope s.heap.objs.size f (.ref cda) cc)) → PSs (cxS CX P w K mg base (("self" : Str) :: ps) qual scope f cda cc A outer s H E) rest (tFs K ((f1, g1) :: r)))
    (hev : ∀ env : Env, ∃ pl, eval (.Call (.Attribute (.Call (.Name "super" p0) [] [] p1) "__init__" p2) (e :: es) [] p3) env = (do
      let ov ← attributeBase (.Call (.Name "super" p0) [] [] p1) "__init__" env (eval (.Call (.Name "super" p0) [] [] p1) env)
      standAt p2.atName
      let (f, first) ← holding [ov] (getMethod ov "__init__" pl)
      callWith p3 f first (backTo p3 (starEach (e :: es) env)) []) := by intro env; exact ⟨_, rfl⟩)
    (he : ∀ env, starEach (e :: es) env = (false, eval e env) :: starEach es env := by intro env; rfl) (hpl : ∀ env, (backTo p3 (starEach es env)).any (·.1) = false := by intro env; rfl) :
    FnOk P w K mg base CX (k + 1) f (PySem.W.ksFn name qual params (.Expr (.Call (.Attribute (.Call (.Name "super" p0) [] [] p1) "__init__" p2) (e :: es) [] p3) p4 :: rest) scope dV kV doc pm an (.ref cda) ct cc) (("self" : Str) :: ps) (spI K C ps.length ((f1, g1) :: r)) := by
  refine fn_sup lk hcd S T (fun vs H Q E ⟨a, ws, H1, G, m, μ, ds, e1, e2, _⟩ => by rw [e1]; simp [e2]) (fun A outer s H vs Q E room h => ?_) hev he hpl
  obtain ⟨a, ws, H1, G, m, μ, ds, rfl, e2, rfl, h1a, wf, rl, w⟩ := h
  have hst : L2.start (("self" : Str) :: ps) (V.ref a :: ws) = some (V.ref a) :: ws.map some := by
    unfold L2.start
    simp [e2]
  have hl := rl.length
  refine ⟨a, tIx is, tFs K ((f1, g1) :: r), rfl, upd_same, hargs A outer s _ E, hrest A outer s _ E room, ?_⟩
  rw [hst]
  refine tIx_ok (fun i hi => ?_) fun us hu => ⟨by omega, upd_same, ?_⟩
  · have q := his i hi
    cases i with
    | zero => exact ⟨_, rfl⟩
    | succ i =>
      have q : i < ws.length := by omega
      exact ⟨ws[i], by simp [q]⟩
  · have ha : Hid K (upd H1 a (exo a C none)) G m μ a (exo a C none) := Hid.new wf h1a
    refine fld_new O rfl h1a hno ha (wf.hid h1a) (Step.hid h1a) (sl := none :: ds.map some) ⟨by simp [hl], fun i d hd => ?_⟩ hr w
    cases i with
    | zero => cases hd
    | succ i =>
      have hd : (ds.map some)[i]? = some (some d) := by simpa using hd
      rw [List.getElem?_map] at hd
      cases q : ds[i]? with
      | none => rw [q] at hd; cases hd
      | some d' =>
        rw [q] at hd; cases hd
        obtain ⟨v, hv, rv⟩ := rl.get q
        exact ⟨v, by simp [hv], rv⟩
end
/-- raise x(e, ..) -/
def raiseS (x : Str) (n : Nat) (fs : List (Str × DE)) (fl : DL) : DS := lifA fl fun sl ds μ => if ds.length = n then match fldR fs [] [] (none :: ds.map some) μ with
  | some (.ok (ns, xs) μ') => some (.exc ⟨x, ns, xs⟩ sl μ')
  | _ => none else none
section
variable {X : Cx} {W : WX} {k k' n : Nat} {fI : Addr} {fd : FuncData} {ps : List Str} {x : Str} {p pos pos' : Pos} {e : Expr} {es : List Expr} {fl : DL} {fs : List (Str × DE)}
theorem psd_raise (c : Ctx k W X) (O : OexC X.K (He.ga X.K x)) (iC : PySem.W.findIn X.K (.ref (He.ga X.K x)) "__init__" = some (some (.ref fI))) (tI : PySem.W.typeIn X.K (.ref fI) = some (.type "function"))
    (F1 : FnOk X.prog X.w X.K X.mg X.base (L2.CX X.prog X.w) k' fI fd ps (spI X.K (He.ga X.K x) n fs)) (hk : k' + 1 ≤ k) (hb : Binds X.K fd ps []) (hn : n ≤ 1000) (hg : Gl X x) (hm : X.mg x = some (.ref (He.ga X.K x))) (ha : PA X (e :: es) (TDs X.K W fl))
    (hdb : (x == ("__debug__" : Str)) = false := by decide) (he : starEach (e :: es) X.env = (false, eval e X.env) :: starEach es X.env := by rfl) (hpl : (backTo pos (starEach es X.env)).any (·.1) = false := by rfl) :
    PS X (.Raise (some (.Call (.Name x p) (e :: es) [] pos)) none pos') (TDS X.K W (raiseS x n fs fl)) := by
  refine PS_imp (ps_raise c.calm c.tk (pmk_oex (CX := L2.CX X.prog X.w) O iC tI F1 (c.room.mono hk) hb .nil (passes_call c.tk fun _ _ _ _ z => z.elim) hg hm ha hdb he hpl)) fun Dn σ H h => ?_
  refine (TDS.lif (rep := repL X.K) h).imp fun vs H1 ⟨ds, G, m, μ, sl, wf, rs, rl, o⟩ => ?_
  split at o
  · rename_i hz
    have hl : vs.length = n := by rw [← hz]; exact rl.length
    refine ⟨by omega, fun a h1a => ⟨a, vs, H1, G, m, μ, ds, by simp, hl, rfl, h1a, wf, rl, ?_⟩⟩
    revert o
    cases fldR fs [] [] (none :: ds.map some) μ with
    | none => exact fun z => z
    | some q =>
      cases q with
      | exc y μ2 => exact fun z => z
      | ok nx μ2 =>
        obtain ⟨ns, xs⟩ := nx
        intro o H2 G2 m2 d us h2a h2d hne h1d ia id wf2 st2 rl2 hz2
        refine ⟨rfl, d, ns.zip us, h2a, h2d, h1d, ?_⟩
        have id' : Hid X.K (Pd.del H2 a) G2 m2 μ2 d (exd d (ns.zip us)) := ⟨id.g, id.nl, by rw [del_ne hne]; exact id.h⟩
        have wf3 : Wf X.K (upd (Pd.del H2 a) d (.xd (ns.zip us))) G2 m2 μ2 := (wf2.del ia.g ia.nl).hset id' _
        have st3 : Step H1 G m μ (upd (Pd.del H2 a) d (.xd (ns.zip us))) G2 m2 μ2 := Step.hset h1d (st2.del h1a) _
        have id3 : Hid X.K (upd (Pd.del H2 a) d (.xd (ns.zip us))) G2 m2 μ2 d (.xd (ns.zip us)) := id'.set _
        have st4 : Step H1 G m μ (upd (Pd.del H2 a) d (.xd (ns.zip us))) (upd G2 d (.xd (ns.zip us))) m2 μ2 := Step.shown h1d st3 id.g
        have rl4 := rl2.mono (r := []) (le_upd (o := .xd (ns.zip us)) id.g)
        rw [List.append_nil] at rl4
        exact o (.ref (He.ga X.K x)) (some d) σ _ _ m2 (wf3.shown id3) st4 (st4.repS rs) ⟨rfl, hz2, us, rl4, upd_same⟩
  · exact o.elim
end
end Pd
end
section
namespace Pd
open PySem PySem.Spec L2
/-! ### try: .. except x as n: .. -/
def lookF (f : Str) : List Str → List D → Option D
  | g :: fs, x :: xs => if f = g then some x else lookF f fs xs
  | _, _ => none
theorem lookF_ok {K : PySem.W.Frag} {G : Hp} {m : List Addr} {f : Str} {d : D} : ∀ {fs : List Str} {xs : List D} {vs : List V}, RepL K G m xs vs → lookF f fs xs = some d → ∃ v, (fs.zip vs).lookup f = some v ∧ RepV K G m d v
  | [], _, _, _, h => by cases h
  | _ :: _, [], _, _, h => by cases h
  | g :: fs, x :: xs, _, r, h => by
    obtain ⟨v, w, rfl, r1, r2⟩ := r
    unfold lookF at h
    split at h
    · rename_i e
      subst e
      cases h
      exact ⟨v, by simp [List.lookup], r1⟩
    · rename_i e
      obtain ⟨u, e1, e2⟩ := lookF_ok r2 h
      refine ⟨u, ?_, e2⟩
      have : (f == g) = false := by simpa using e
      simp only [List.zip_cons_cons, List.lookup, this]
      exact e1
/-- err.f -/
def fldD (a d : Addr) (f : Str) (e : DE) : DE := fun sl μ => bindR (e sl μ) fun v μ1 => match v with
  | .exn a' d' fs xs => if a' = a ∧ d' = d then match lookF f fs xs with
    | some y => ok y μ1
    | none => none else none
  | _ => none
def endS (i : Nat) : Option OutS → Option OutS
  | some (.nx sl μ) => some (.nx (sl.set i none) μ)
  | some (.bk sl μ) => some (.bk (sl.set i none) μ)
  | some (.ct sl μ) => some (.ct (sl.set i none) μ)
  | some (.rt d μ) => some (.rt d μ)
  | _ => none
/-- no: the classes that are not caught -/
def tryS (x : Str) (no : List Str) (i : Nat) (body : DS) (su : Addr → Addr → DS) : DS := fun sl μ => match body sl μ with
  | some (.exc y sl1 μ1) => if y.cls = x then (if y.fs = [] then none else endS i (su 0 0 (sl1.set i (some (.exn 0 0 y.fs y.xs))) μ1)) else if y.cls ∈ no then some (.exc y sl1 μ1) else none
  | o => o
section
variable {K : PySem.W.Frag} {G : Hp} {m : List Addr} {sl : Sl} {σ : L2.St}
theorem RepS.unset (x : RepS K G m sl σ) (i : Nat) : RepS K G m (sl.set i none) (σ.set i none) := ⟨by simp [x.len], fun j d h => by
  by_cases e : i = j
  · subst e
    by_cases hi : i < sl.length
    · rw [List.getElem?_set_self hi] at h; cases h
    · rw [List.getElem?_eq_none (by simpa using hi)] at h; cases h
  · rw [List.getElem?_set_ne e] at h
    obtain ⟨u, h1, h2⟩ := x.at_ j d h
    exact ⟨u, by rw [List.getElem?_set_ne e]; exact h1, h2⟩⟩
end
section
variable {X : Cx} {W : WX} {k i : Nat} {x n : Str} {no : List Str} {bD : DS} {su : Addr → Addr → DS} {body suite : List Stmt} {b₀ : Stmt} {np pos pos' : Pos}
theorem ped_fld {a d : Addr} {oe : Obj} {pn : List (Addr × Obj)} {W' : WX} {C : Addr} {e : Expr} {f : Str} {fe : DE} (T : XfC X.K C) (hno : PySem.W.findIn X.K (.ref C) f = some none) (hz : Zc (.ref C) (some d) oe) (hf : ∃ vs, oe.data = .fields vs)
    (he : PE (X.suite a ((a, oe) :: pn)) e (TD X.K W' fe)) (hb : attributeBase e f X.env (eval e X.env) = eval e X.env := by rfl) : PE (X.suite a ((a, oe) :: pn)) (.Attribute e f pos) (TD X.K W' (fldD a d f fe)) := by
  refine PE_imp (pe_xf T hno hz hf he hb) fun σ H Q h => ?_
  refine (Pd.T.bindD h).imp fun v H1 ⟨y, G, m, μ, sl, wf, rs, rl, o⟩ => ?_
  obtain ⟨_, _, e1, r, _⟩ := rl
  cases e1
  split at o
  · rename_i a' d' fs xs
    split at o
    · rename_i z
      obtain ⟨rfl, rfl⟩ := z
      obtain ⟨rfl, vs, g, hl, rx⟩ := r
      cases q : lookF f fs xs with
      | none => rw [q] at o; exact o.elim
      | some u =>
        rw [q] at o
        obtain ⟨v, e2, rv⟩ := lookF_ok rx q
        exact ⟨rfl, rfl, _, _, v, rfl, wf.sub _ _ g, e2, okA.get (rep := repV X.K) o wf rv⟩
    · exact o.elim
  · exact o.elim
theorem psd_tryAs (c : Ctx k W X) (hs : X.stack = X.env :: X.outer) (hf : X.env.frame = some X.env.locals) (hN : X.N.Nodup) (hi : X.N[i]? = some n) (hln : X.env.kindOf n = some .local) (hc : Names X x (.ref (He.ga X.K x)))
    (hex : PySem.W.exmOne X.K (.ref (He.ga X.K x)) (.ref (He.ga X.K x)) = some true) (hxn : ∀ y ∈ no, PySem.W.exmOne X.K (.ref (He.ga X.K y)) (.ref (He.ga X.K x)) = some false)
    (hb : ∀ (W' : WX) (pn : List (Addr × Obj)) (xe : Value → Shared → Prop), Ctx k W' (X.tr pn xe) → PSs (X.tr pn xe) body (TDS X.K W' bD))
    (hsu : ∀ (a d : Addr) (oe : Obj) (pn : List (Addr × Obj)), Zc (.ref (He.ga X.K x)) (some d) oe → (∃ vs, oe.data = .fields vs) → PSs (X.suite a ((a, oe) :: pn)) (b₀ :: suite) (TDS X.K nW (su a d)))
    (hind : ∀ (a d : Addr) (fs : List Str) (xs : List D) (sl : Sl) (μ : Mu), endS i (su a d (sl.set i (some (.exn a d fs xs))) μ) = endS i (su 0 0 (sl.set i (some (.exn 0 0 fs xs))) μ)) :
    PS X (.Try body [.ExceptHandler (some (.Name x np)) (some n) (b₀ :: suite) pos'] [] [] pos) (TDS X.K W (tryS x no i bD su)) := by
  refine PS_imp (ps_try_as (tb := fun W' => TDS X.K W' bD) (ts := fun a cls d Dn σ H => ∃ d0, cls = .ref (He.ga X.K x) ∧ d = some d0 ∧ TDS X.K nW (su a d0) Dn σ H) hs hf hN hi hln hc c.tk
    (fun W' pn xe tk ps => hb W' pn xe ⟨c.room, c.gd, tk, ps, c.calm⟩) (fun a oe cls d pn hz hfl => ⟨fun pins s σ H Dn I ⟨d0, e1, e2, h⟩ => ?_⟩)) fun Dn σ H h => ?_
  · subst e1 e2
    exact (hsu a d0 oe pn hz hfl).run pins s σ H Dn I h
  obtain ⟨G, m, μ, sl, wf, rs, o⟩ := h
  refine ⟨G, m, μ, sl, wf, rs, ?_⟩
  unfold tryS at o
  revert o
  cases bD sl μ with
  | none => exact fun z => z
  | some q =>
    cases q with
    | nx sl1 μ1 => exact fun o => o
    | bk sl1 μ1 => exact fun o => o
    | ct sl1 μ1 => exact fun o => o
    | rt d μ1 => exact fun o => o
    | exc y sl1 μ1 =>
      intro o cl dd σ1 H1 G1 m1 wf1 st1 rs1 er
      obtain ⟨rfl, hl, vs, rl, hdd⟩ := er
      dsimp only at o
      split at o
      · rename_i ey
        refine ⟨true, by rw [ey]; exact hex, fun _ a ha => ?_, fun z => by cases z⟩
        split at o
        · exact o.elim
        · rename_i hne
          cases dd with
          | none => exact absurd hdd hne
          | some d0 =>
            refine ⟨d0, by rw [ey], rfl, G1, m1, μ1, _, wf1, rs1.set (d := .exn a d0 y.fs y.xs) (v := .ref a) ⟨rfl, vs, hdd, hl, rl⟩ i, ?_⟩
            rw [← hind a d0] at o
            revert o
            cases su a d0 (sl1.set i (some (.exn a d0 y.fs y.xs))) μ1 with
            | none => exact fun z => z
            | some q2 =>
              cases q2 with
              | nx sl2 μ2 => exact fun o σ2 H2 G2 m2 wf2 st2 rs2 => o _ H2 G2 m2 wf2 (st1.trans st2) (rs2.unset i)
              | bk sl2 μ2 => exact fun o σ2 H2 G2 m2 wf2 st2 rs2 => o _ H2 G2 m2 wf2 (st1.trans st2) (rs2.unset i)
              | ct sl2 μ2 => exact fun o σ2 H2 G2 m2 wf2 st2 rs2 => o _ H2 G2 m2 wf2 (st1.trans st2) (rs2.unset i)
              | rt d μ2 => exact fun o v H2 G2 m2 wf2 st2 rv => o v H2 G2 m2 wf2 (st1.trans st2) rv
              | exc y2 sl2 μ2 => exact fun z => z.elim
      · split at o
        · rename_i hyn
          refine ⟨false, hxn _ hyn, fun z => (nomatch z), fun _ => ?_⟩
          exact o (.ref (He.ga X.K y.cls)) dd σ1 H1 G1 m1 wf1 st1 rs1 ⟨rfl, hl, vs, rl, hdd⟩
        · exact o.elim
end
end Pd
end
section
namespace Pd
open PySem PySem.Spec L2
open PySem.W (Frag)
/-! ### what the heap says of an own exception's class -/
def oexB (K : Frag) (C : Addr) : Bool := match K.lookup C with
  | some ⟨.type "type", _, .cls cd, sl⟩ => (match cd.mro, sl.toList with
    | .ref C' :: bm, [_, _, _, _, some (.builtin n), _] => C' == C && (n == "ValueError.__new__" && (!cd.hasDel && (cd.hasDict && HandSPX.refsVE bm)))
    | _, _ => false)
  | _ => false
theorem oexB_ok {K : Frag} {C : Addr} (q : oexB K C = true) : ∃ nm q N bs bm sn sub ab col dd k0 k1 k2 k3 k5, K.lookup C = some (excClassObj nm q C N bs bm true sn sub ab col dd k0 k1 k2 k3 k5 "ValueError.__new__") ∧ HandSPX.refsVE bm = true := by
  unfold oexB at q
  split at q
  · rename_i dd cd sl ho
    split at q
    · rename_i C' bm k0 k1 k2 k3 n k5 hm hs
      simp only [Bool.and_eq_true, beq_iff_eq, Bool.not_eq_true'] at q
      obtain ⟨rfl, rfl, hdel, hdict, ht⟩ := q
      obtain ⟨nm, bs, mro, ns, qn, hd, sn, sub, ab, col, del⟩ := cd
      dsimp only at hm hdel hdict
      subst hm hdel hdict
      have hsl : sl = #[k0, k1, k2, k3, some (.builtin "ValueError.__new__"), k5] := by
        obtain ⟨l⟩ := sl
        simp only at hs
        rw [hs]
      subst hsl
      exact ⟨nm, qn, ns, bs, bm, sn, sub, ab, col, dd, k0, k1, k2, k3, k5, ho, ht⟩
    · cases q
  · cases q
/-- a class of the text: its name, its __init__'s parameters, body, scope; the fields -/
structure ExcD where
  x : Str
  params : Arguments
  body : List Stmt
  scope : Scope
  fields : List Str
abbrev ShW : Type := Option (Str × Str × Arguments × FuncBody × Scope × Addr × List Str × Addr)
def shW (K : Frag) (p : Str × Option Str) : ShW := match K.lookup (He.fAd K p) with
  | some ⟨_, _, .func fd, _⟩ => some (fd.name, fd.qualname, fd.params, fd.body, fd.scope, fd.globals, fd.closure.map (·.1), fd.builtins)
  | _ => none
def ExcD.qual (c : ExcD) : Str := c.x ++ ".__init__"
def ExcD.val (c : ExcD) : ShW := some ("__init__", c.qual, c.params, .stmts c.body, c.scope, mainGlobals, ["__class__"], builtinsNs)
def cellB (K : Frag) (cc C : Addr) : Bool := match K.lookup cc with
  | some ⟨_, _, .cell (some (.ref D)), _⟩ => decide (D = C)
  | _ => false
def codeB (P : Program) (K : Frag) (cda : Addr) : Bool := match K.lookup cda with
  | some ⟨_, _, .fields vs, _⟩ => (match (vs[2]? : Option Value) with
    | some (.str file _) => (P.main.file : Str) == file
    | _ => false)
  | _ => false
def initB (P : Program) (K : Frag) (C f : Addr) (qual : Str) : Bool := match K.lookup f with
  | some ⟨_, _, .func fd, _⟩ => (match fd.code, fd.closure, fd.defaults with
    | .ref cda, [(_, cc)], .none => PySem.W.codeIn K (.ref cda) qual && (cellB K cc C && codeB P K cda)
    | _, _, _ => false)
  | _ => false
def clsFacts (K : Frag) (C f : Addr) : Bool :=
  decide (PySem.W.ks_superIn K C C "__init__" = some (some (.builtin "ValueError.__init__"))) && (decide (PySem.W.subIn K (.ref C) (.type "ValueError") = some true) && (decide (PySem.W.subIn K (.ref C) (.ref C) = some true) &&
  (decide (PySem.W.nsIn K PySem.cStatics "thirdparty.any" = some none) && (decide (PySem.W.findIn K (.ref C) "__init__" = some (some (.ref f))) && (decide (PySem.W.typeIn K (.ref f) = some (.type "function")) &&
  (decide (PySem.W.findIn K (.ref C) "__setattr__" = some (some (.builtin "object.__setattr__"))) && (decide (PySem.W.subIn K (.ref C) (.type "BaseException") = some true) && (decide (PySem.W.typeIn K (.ref C) = some (.type "type")) &&
  (PySem.W.keepIn K (.ref C) && (L2.xfB K C && (decide (PySem.W.exmOne K (.ref C) (.ref C) = some true) && decide (PySem.W.nsIn K mainGlobals "super" = some none))))))))))))
def ExcD.ok (P : Program) (K : Frag) (c : ExcD) : Bool :=
  let C := He.ga K c.x
  let f := He.ma K C "__init__"
  oexB K C && (PySem.W.excInitIn K C He.veBase "ValueError.__new__" && (clsFacts K C f && (initB P K C f c.qual && (!(P.main.scope.names.lookup ("super" : Str)).isSome && (c.fields.all (fun g => decide (PySem.W.findIn K (.ref C) g = some none)) && decide (PySem.W.nsIn K mainGlobals c.x = some (some (.ref C))))))))
/-- the facts -/
structure ExcF (P : Program) (K : Frag) (mg : Str → Option Value) (c : ExcD) : Prop where
  oex : OexC K (He.ga K c.x)
  ini : PySem.W.findIn K (.ref (He.ga K c.x)) "__init__" = some (some (.ref (He.ma K (He.ga K c.x) "__init__")))
  ty : PySem.W.typeIn K (.ref (He.ma K (He.ga K c.x) "__init__")) = some (.type "function")
  gl : mg c.x = some (.ref (He.ga K c.x))
  xf : XfC K (He.ga K c.x)
  exm : PySem.W.exmOne K (.ref (He.ga K c.x)) (.ref (He.ga K c.x)) = some true
  no : ∀ g ∈ c.fields, PySem.W.findIn K (.ref (He.ga K c.x)) g = some none
  fn : ∃ oc od doc pm kV an cda ct cc osl, K.lookup (He.ma K (He.ga K c.x) "__init__") = some ⟨oc, od, .func (PySem.W.ksFn "__init__" c.qual c.params c.body c.scope .none kV doc pm an (.ref cda) ct cc), osl⟩ ∧ PySem.W.codeIn K (.ref cda) c.qual = true ∧
    (∀ fd : FuncData, (∃ ar, (fd.params.posonlyargs ++ fd.params.args).head? = some ar ∧ ar.arg = ("self" : Str)) → SupC P K mg (He.ga K c.x) cc cda (He.ma K (He.ga K c.x) "__init__") fd "ValueError" "ValueError.__init__" "ValueError.__new__" He.veBase)
theorem ExcD.facts {P : Program} {K : Frag} {mg : Str → Option Value} {h : Heap} {c : ExcD} (X : K.In h) (G : h.Ns mainGlobals mg) (e : shW K (c.x, some "__init__") = c.val) (q : c.ok P K = true) : ExcF P K mg c := by
  obtain ⟨a1, q⟩ := He.ba q
  obtain ⟨a2, q⟩ := He.ba q
  obtain ⟨a3, q⟩ := He.ba q
  obtain ⟨a4, q⟩ := He.ba q
  obtain ⟨a5, q⟩ := He.ba q
  obtain ⟨a6, a7⟩ := He.ba q
  obtain ⟨b1, q⟩ := He.ba a3
  obtain ⟨b2, q⟩ := He.ba q
  obtain ⟨b3, q⟩ := He.ba q
  obtain ⟨b4, q⟩ := He.ba q
  obtain ⟨b5, q⟩ := He.ba q
  obtain ⟨b6, q⟩ := He.ba q
  obtain ⟨b7, q⟩ := He.ba q
  obtain ⟨b8, q⟩ := He.ba q
  obtain ⟨b9, q⟩ := He.ba q
  obtain ⟨b10, q⟩ := He.ba q
  obtain ⟨b11, q⟩ := He.ba q
  obtain ⟨b12, b13⟩ := He.ba q
  refine ⟨⟨oexB_ok a1, of_decide_eq_true b7, of_decide_eq_true b8, of_decide_eq_true b9, b10⟩, of_decide_eq_true b5, of_decide_eq_true b6, PySem.W.mg_of X G (of_decide_eq_true a7), xfB_ok b11, of_decide_eq_true b12, fun g hg => of_decide_eq_true (List.all_eq_true.mp a6 g hg), ?_⟩
  unfold initB at a4
  unfold shW at e
  cases hl0 : K.lookup (He.fAd K (c.x, some "__init__")) with
  | none => rw [hl0] at e; cases e
  | some o =>
    rw [hl0] at e
    have hl : K.lookup (He.ma K (He.ga K c.x) "__init__") = some o := hl0
    clear hl0
    rw [hl] at a4
    obtain ⟨oc, od, dt, osl⟩ := o
    cases dt with
    | func fd =>
      obtain ⟨n1, n2, n3, n4, n5, n6, n7, n8, n9, n10, n11, n12, n13, n14, n15⟩ := fd
      have e2 : (some (n1, n2, n3, n4, n5, n6, n7.map (·.1), n15) : ShW) = some (("__init__" : Str), c.qual, c.params, FuncBody.stmts c.body, c.scope, mainGlobals, [("__class__" : Str)], builtinsNs) := e
      simp only [Option.some.injEq, Prod.mk.injEq] at e2
      obtain ⟨h1, h2, h3, h4, h5, h6, h7, h8⟩ := e2
      subst h1 h2 h3 h4 h5 h6 h8
      dsimp only at a4
      split at a4
      · rename_i cda nmc cc
        have h7 : nmc = "__class__" := by simpa using h7
        subst h7
        obtain ⟨k1, a4⟩ := He.ba a4
        obtain ⟨k2, k3⟩ := He.ba a4
        refine ⟨oc, od, n10, n11, n9, n12, cda, n14, cc, osl, hl, k1, fun fd hfd => ⟨PySem.W.kxs_ValueError, F.excBase_ValueError, a2, of_decide_eq_true b1, of_decide_eq_true b2, of_decide_eq_true b3, of_decide_eq_true b4, ?_, ?_, by simpa using a5, PySem.W.mg_none_of X G (of_decide_eq_true b13), hfd⟩⟩
        · unfold cellB at k2
          split at k2
          · rename_i q1 q2 D q3 q4
            have := of_decide_eq_true k2
            subst this
            exact ⟨_, _, _, q4⟩
          · cases k2
        · unfold codeB at k3
          split at k3
          · rename_i q1 q2 vs q3 q4
            split at k3
            · rename_i file tf q5
              exact ⟨_, _, _, vs, file, tf, q4, q5, k3⟩
            · cases k3
          · cases k3
      · cases a4
    | _ => cases e
end Pd
end
section
namespace Pd
open PySem PySem.Spec L2
open PySem.W (Frag)
/-! ### the head's Hook: defs, facts, exceptions' classes, one Bool more -/
abbrev AlE : Type := He.AlD × (Bool × List ShW)
def frE (n : Nat) (g : Addr → Option Obj) : Frag := He.frG g (PySem.cStatics :: He.asD g n)
def obsE (P : Program) (n : Nat) (fa : List He.Fa) (fn : List He.DefD) (cs : List ExcD) (ex : Frag → Bool) (g : Addr → Option Obj) : AlE :=
  (He.obsD fa fn (frE n g), ((cs.all fun c => c.ok P (frE n g)) && ex (frE n g), cs.map fun c => shW (frE n g) (c.x, some "__init__")))
def valE (fn : List He.DefD) (cs : List ExcD) : AlE := (He.valD fn, (true, cs.map ExcD.val))
structure SaysE (P : Program) (fa : List He.Fa) (fn : List He.DefD) (cs : List ExcD) (ex : Frag → Bool) (K : Frag) : Prop where
  d : He.SaysD fa fn K
  b : ((cs.all fun c => c.ok P K) && ex K) = true
  s : (cs.map fun c => shW K (c.x, some "__init__")) = cs.map ExcD.val
theorem saysE_of {P : Program} {n : Nat} {fa : List He.Fa} {fn : List He.DefD} {cs : List ExcD} {ex : Frag → Bool} {g : Addr → Option Obj} (e : obsE P n fa fn cs ex g = valE fn cs) : SaysE P fa fn cs ex (frE n g) :=
  ⟨congrArg (fun z : AlE => z.1) e, congrArg (fun z : AlE => z.2.1) e, congrArg (fun z : AlE => z.2.2) e⟩
def hookE (P : Program) (n : Nat) (fa : List He.Fa) (fn : List He.DefD) (cs : List ExcD) (ex : Frag → Bool) : PySem.W.Hook where
  α := AlE
  obs := fun s => obsE P n fa fn cs ex s.heap.get?
  val := fun _ => valE fn cs
  says := fun _ h => ∃ K : Frag, K.In h ∧ SaysE P fa fn cs ex K
  of := fun _ _ e => ⟨_, He.frG_in, saysE_of e⟩
  keeps := fun _ _ _ ⟨K, hK, c⟩ k => ⟨K, PySem.W.Frag.In.keeps hK k, c⟩
theorem obsE_eq {P : Program} {n : Nat} {fa : List He.Fa} {fn : List He.DefD} {cs : List ExcD} {ex : Frag → Bool} {g : Addr → Option Obj} {s : Shared} (h : ∀ a, g a = s.heap.get? a) : obsE P n fa fn cs ex g = (hookE P n fa fn cs ex).obs s := by
  have e : g = s.heap.get? := funext h
  rw [e] <;> rfl
section
variable {P : Program} {fa : List He.Fa} {fn : List He.DefD} {cs : List ExcD} {ex : Frag → Bool} {K : Frag} {mg : Str → Option Value} {h : Heap}
theorem SaysE.more (c : SaysE P fa fn cs ex K) : ex K = true := (He.ba c.b).2
theorem SaysE.exc (c : SaysE P fa fn cs ex K) (X : K.In h) (G : h.Ns mainGlobals mg) (i : Nat) {x : ExcD} (hx : cs[i]? = some x := by rfl) : ExcF P K mg x := by
  refine ExcD.facts X G ?_ (List.all_eq_true.mp (He.ba c.b).1 x (List.mem_of_getElem? hx))
  have e2 : (cs.map fun c => shW K (c.x, some "__init__"))[i]? = (cs.map ExcD.val)[i]? := by rw [c.s]
  rw [List.getElem?_map, List.getElem?_map, hx] at e2
  exact Option.some.inj e2
end
/-! ### C(e, ..) of such a class -/
structure RaiseE (P : Program) (w : World) (K : Frag) (mg : Str → Option Value) (base : Heap) (x : Str) (n : Nat) (fs : List (Str × DE)) : Prop where
  oex : OexC K (He.ga K x)
  gl : mg x = some (.ref (He.ga K x))
  fn : ∃ fI fd ps, PySem.W.findIn K (.ref (He.ga K x)) "__init__" = some (some (.ref fI)) ∧ PySem.W.typeIn K (.ref fI) = some (.type "function") ∧ FnOk P w K mg base (L2.CX P w) 1 fI fd ps (spI K (He.ga K x) n fs) ∧ Binds K fd ps []
theorem raiseE_of {P : Program} {w : World} {K : Frag} {mg : Str → Option Value} {base : Heap} {c : ExcD} {ps : List Str} {e : Expr} {es : List Expr} {rest : List Stmt} {p0 p1 p2 p3 p4 : Pos} {is : List Nat} {f1 : Str} {g1 : DE} {r : List (Str × DE)}
    (F : ExcF P K mg c) (hbody : c.body = .Expr (.Call (.Attribute (.Call (.Name "super" p0) [] [] p1) "__init__" p2) (e :: es) [] p3) p4 :: rest) (S : SupScope (("self" : Str) :: ps) (("self" : Str) :: ps) c.scope)
    (har : ∃ ar, (c.params.posonlyargs ++ c.params.args).head? = some ar ∧ ar.arg = ("self" : Str)) (hno : ∀ q ∈ (f1, g1) :: r, q.1 ∈ c.fields) (hr : r.length ≤ 800) (his : ∀ i ∈ is, i < ps.length + 1) (hil : is.length ≤ 1000)
    (hargs : ∀ (f cda cc : Addr) (A : Around) (outer : List Env) (s : Shared) (H : Hp) (E : XK), PA (cxS (L2.CX P w) P w K mg base (("self" : Str) :: ps) c.qual c.scope f cda cc A outer s H E) (e :: es) (tIx is))
    (hrest : ∀ (f cda cc : Addr) (A : Around) (outer : List Env) (s : Shared) (H : Hp) (E : XK), PSs (cxS (L2.CX P w) P w K mg base (("self" : Str) :: ps) c.qual c.scope f cda cc A outer s H E) rest (tFs K ((f1, g1) :: r)))
    (hbind : ∀ (kV doc pm : Value) (an : Option Addr) (cdv ct : Value) (cc : Addr) (us : List Value), us.length = (("self" : Str) :: ps).length → bindArgs (PySem.W.ksFn "__init__" c.qual c.params c.body c.scope .none kV doc pm an cdv ct cc) ⟨us, []⟩ = pure ((("self" : Str) :: ps).zip us))
    (hev : ∀ env : Env, ∃ pl, eval (.Call (.Attribute (.Call (.Name "super" p0) [] [] p1) "__init__" p2) (e :: es) [] p3) env = (do
      let ov ← attributeBase (.Call (.Name "super" p0) [] [] p1) "__init__" env (eval (.Call (.Name "super" p0) [] [] p1) env)
      standAt p2.atName
      let (f, first) ← holding [ov] (getMethod ov "__init__" pl)
      callWith p3 f first (backTo p3 (starEach (e :: es) env)) []) := by intro env; exact ⟨_, rfl⟩)
    (he : ∀ env, starEach (e :: es) env = (false, eval e env) :: starEach es env := by intro env; rfl) (hpl : ∀ env, (backTo p3 (starEach es env)).any (·.1) = false := by intro env; rfl) :
    RaiseE P w K mg base c.x ps.length ((f1, g1) :: r) := by
  obtain ⟨x, params, body, scope, fields⟩ := c
  dsimp only at hbody
  subst hbody
  obtain ⟨oc, od, doc, pm, kV, an, cda, ct, cc, osl, lk, hcd, sup⟩ := F.fn
  exact ⟨F.oex, F.gl, _, _, _, F.ini, F.ty, fnI (k := 0) lk hcd S (sup _ har) F.oex (fun q hq => F.no _ (hno q hq)) hr his hil (fun A outer s H E => hargs _ _ _ A outer s H E) (fun A outer s H E _ => hrest _ _ _ A outer s H E) hev he hpl,
    .all fun us hl => hbind kV doc pm an (.ref cda) ct cc us hl⟩
section
variable {X : Cx} {W : WX} {k n i : Nat} {x nm : Str} {p pos pos' np : Pos} {e : Expr} {es : List Expr} {fl : DL} {fs : List (Str × DE)} {no : List Str} {bD : DS} {su : Addr → Addr → DS} {body suite : List Stmt} {b₀ : Stmt}
theorem sRaise (c : Ctx k W X) (R : RaiseE X.prog X.w X.K X.mg X.base x n fs) (ha : PA X (e :: es) (TDs X.K W fl)) (hk : 2 ≤ k := by decide) (hn : n ≤ 1000 := by decide) (hg : Gl X x := by rfl)
    (hdb : (x == ("__debug__" : Str)) = false := by decide) (he : starEach (e :: es) X.env = (false, eval e X.env) :: starEach es X.env := by rfl) (hpl : (backTo pos (starEach es X.env)).any (·.1) = false := by rfl) :
    PS X (.Raise (some (.Call (.Name x p) (e :: es) [] pos)) none pos') (TDS X.K W (raiseS x n fs fl)) := by
  obtain ⟨fI, fd, ps, h1, h2, h3, h4⟩ := R.fn
  exact psd_raise c R.oex h1 h2 h3 hk h4 hn hg R.gl ha hdb he hpl
/-- what a clause 'except x' may use -/
structure CatchE (K : Frag) (mg : Str → Option Value) (x : Str) (fields no : List Str) : Prop where
  gl : mg x = some (.ref (He.ga K x))
  xf : XfC K (He.ga K x)
  exm : PySem.W.exmOne K (.ref (He.ga K x)) (.ref (He.ga K x)) = some true
  fld : ∀ g ∈ fields, PySem.W.findIn K (.ref (He.ga K x)) g = some none
  oth : ∀ y ∈ no, PySem.W.exmOne K (.ref (He.ga K y)) (.ref (He.ga K x)) = some false
theorem sTry {fields : List Str} (c : Ctx k W X) (C : CatchE X.K X.mg x fields no) (hs : X.stack = X.env :: X.outer) (hf : X.env.frame = some X.env.locals) (hN : X.N.Nodup) (i : Nat)
    (hb : ∀ (W' : WX) (pn : List (Addr × Obj)) (xe : Value → Shared → Prop), Ctx k W' (X.tr pn xe) → PSs (X.tr pn xe) body (TDS X.K W' bD))
    (hsu : ∀ (a d : Addr) (oe : Obj) (pn : List (Addr × Obj)), Zc (.ref (He.ga X.K x)) (some d) oe → (∃ vs, oe.data = .fields vs) → PSs (X.suite a ((a, oe) :: pn)) (b₀ :: suite) (TDS X.K nW (su a d)))
    (hind : ∀ (a d : Addr) (fs : List Str) (xs : List D) (sl : Sl) (μ : Mu), endS i (su a d (sl.set i (some (.exn a d fs xs))) μ) = endS i (su 0 0 (sl.set i (some (.exn 0 0 fs xs))) μ))
    (hi : X.N[i]? = some nm := by rfl) (hln : X.env.kindOf nm = some .local := by rfl) (hg : Gl X x := by rfl) (hdb : (x == ("__debug__" : Str)) = false := by decide) :
    PS X (.Try body [.ExceptHandler (some (.Name x np)) (some nm) (b₀ :: suite) pos'] [] [] pos) (TDS X.K W (tryS x no i bD su)) :=
  psd_tryAs c hs hf hN hi hln ⟨hg, hdb, .inl C.gl⟩ C.exm C.oth hb hsu hind
end
end Pd
end
section
namespace Pd
open PySem PySem.Spec L2
section
variable {X : Cx} {W : WX} {k : Nat} {pos p p2 p3 apos cpos : Pos} {a b c e o : Expr} {fa fb fc fe fo : DE} {es : List Expr} {fl : DL} {x : Str}
/-! ### text.split() -/
def dmWords : DM := fun d ds μ => match d, ds with
  | .str a, [] => if a.length + 2 ≤ sizeLine then ok (.lst ((Txt.words a).map D.str)) μ else none
  | _, _ => none
theorem strs_rep {K : PySem.W.Frag} {G : Hp} {m : List Addr} : ∀ ys : List Str, RepL K G m (ys.map D.str) (ys.map V.str)
  | [] => rfl
  | y :: ys => ⟨.str y, ys.map V.str, rfl, rfl, strs_rep ys⟩
theorem md_words : MethD X W "str.split" dmWords := ⟨_, mt_words, fun dx ds vx vs σ H G m μ Q wf rx rl o => by
  unfold dmWords at o
  split at o
  · rename_i a
    split at o
    · rename_i hz
      cases rx; cases rl
      refine ⟨a, rfl, rfl, hz, fun p hp => ?_⟩
      exact o (.ref p) _ (upd G p (.lst _)) m (wf.laid hp) (Step.laid wf hp) ⟨p, _, rfl, .inl (.inl upd_same), strs_rep _⟩
    · exact o.elim
  · exact o.elim⟩
theorem eWords (ho : PE X o (TD X.K W fo)) (hbase : attributeBase o "split" X.env (eval o X.env) = eval o X.env := by rfl) (hline : (apos.endLine == cpos.line) = true := by rfl) :
    PE X (.Call (.Attribute o "split" apos) [] [] cpos) (TD X.K W (meth0 .str dmWords fo)) := ped_m0 (t := .str) PySem.F.plainAttrs_str PySem.F.slot_str_split PySem.F.type_str_split md_words ho hbase hline
/-! ### text times -/
def strRep (a : Str) (n : Nat) : Str := ⟨(List.replicate n a.cps).foldl (· ++ ·) #[]⟩
theorem op_mulS : OpR X (binaryOp .Mult) (fun x y H Q => ∃ a k, x = .str a ∧ y = .int k ∧ 1 ≤ k ∧ k < 2 ^ 63 ∧ a.length * k.toNat ≤ sizeLine ∧ Q (.str (strRep a k.toNat)) H) := by
  intro pins s σ H x y v u Q I rx ry ⟨a, k, ex, ey, h1, h2, hz, q⟩
  subst ex; subst ey
  obtain ⟨t, rfl⟩ := rx
  obtain ⟨t', rfl⟩ := ry
  have hs := sizeLine_eq
  have hk : 0 < k.toNat := by omega
  have fin : ∀ t2 tk, strRep a k.toNat = a → EP X pins σ Q (.str a t2) { s with toks := tk } := fun t2 tk e => ⟨.str (strRep a k.toNat), H, I.tok tk, ⟨t2, by rw [e]⟩, q⟩
  have hnil : ∀ n : Nat, (List.replicate n (#[] : Array Nat)).foldl (· ++ ·) #[] = #[] := fun n => by
    induction n with
    | zero => rfl
    | succ n ih => rw [List.replicate_succ, List.foldl_cons]; exact ih
  refine P.mul_str (by rw [decide_eq_false (by omega), decide_eq_false (by omega)]; rfl) (fun _ he => ?_) (fun _ _ => by show decide (a.length * k.toNat > sizeLine) = false; exact decide_eq_false (by omega)) ?_
  · intro z
    rw [Bool.or_eq_false_iff] at he
    have : (a.length : Int) * k ≤ 16777216 := by
      have : ((a.length * k.toNat : Nat) : Int) ≤ 16777216 := by omega
      rw [Int.natCast_mul, Int.toNat_of_nonneg (by omega)] at this
      exact this
    have z2 : (2 ^ 63 - 1) / k < (a.length : Int) := z
    have z3 : 2 ^ 63 - 1 < (a.length : Int) * k := (Int.ediv_lt_iff_lt_mul (by omega)).mp z2
    omega
  · rw [if_neg (by omega)]
    by_cases hb : (k == 1 || a.length == 0) = true
    · rw [if_pos hb]
      have e : strRep a k.toNat = a := by
        rcases Bool.or_eq_true_iff.mp hb with h | h
        · have : k = 1 := by simpa using h
          subst this
          show (⟨(#[] : Array Nat) ++ a.cps⟩ : Str) = a
          rw [Array.empty_append]
        · have h : a.length = 0 := by simpa using h
          have h0 : a.cps = #[] := Array.size_eq_zero_iff.mp h
          unfold strRep
          rw [h0, hnil]
          cases a
          exact congrArg _ h0.symm
      exact fin t s.toks e
    · rw [if_neg hb]
      refine ⟨?_, ⟨.str (strRep a k.toNat), H, I.tok _, ⟨_, rfl⟩, q⟩⟩
      have len : ∀ (n : Nat) (acc : Array Nat), ((List.replicate n a.cps).foldl (· ++ ·) acc).size = acc.size + n * a.cps.size := by
        intro n
        induction n with
        | zero => intro acc; simp
        | succ n ih => intro acc; rw [List.replicate_succ, List.foldl_cons, ih, Array.size_append, Nat.succ_mul]; omega
      have := len k.toNat #[]
      have e2 : a.length * k.toNat = k.toNat * a.cps.size := Nat.mul_comm _ _
      first
        | (show Array.size _ ≤ sizeLine; rw [this]; simp; omega)
        | (simp [Str.length, this]; omega)
end
end Pd
end
section
namespace Pd
open PySem PySem.Spec L2
section
variable {X : Cx} {W : WX} {k : Nat} {pos p p2 p3 apos cpos : Pos} {a b c e o : Expr} {fa fb fc fe fo : DE} {es : List Expr} {fl : DL} {x : Str}
def mulS : D2 := fun x y μ => match x, y with
  | .str a, .int k => if 1 ≤ k ∧ k < 2 ^ 63 ∧ a.length * k.toNat ≤ sizeLine then ok (.str (strRep a k.toNat)) μ else none
  | _, _ => none
def isStrD : D → Bool
  | .str _ => true
  | _ => false
def mulX : D2 := fun x y μ => match x with
  | .str _ => mulS x y μ
  | _ => mulD x y μ
theorem od_mulS : OpD X W (binaryOp .Mult) mulS := .mk op_mulS fun dx dy vx vy σ H G m μ Q wf rx ry o => by
  unfold mulS at o
  split at o
  · rename_i a k
    split at o
    · rename_i hz
      cases rx; cases ry
      exact ⟨a, k, rfl, rfl, hz.1, hz.2.1, hz.2.2, okA.get (a := D.str _) o wf rfl⟩
    · exact o.elim
  · exact o.elim
theorem od_mulX : OpD X W (binaryOp .Mult) mulX := by
  refine (OpD.or (fun x _ _ => isStrD x) od_mulS od_mul).imp fun x y μ => .inl ?_
  cases x <;> rfl
/-! ### a built-in type as a value -/
theorem ped_ty {n : String} (hm : X.mg x = none) (hv : bootBuiltins x = some (.type n)) (hg : Gl X x := by rfl) (hn : x ≠ "__name__" := by decide) (hd : (x == ("__debug__" : Str)) = false := by decide) : PE X (.Name x pos) (TD X.K W (cD (.cst (.ty n)))) :=
  ped_c (pe_bltn (v := .ty n) hg hm hv rfl hn hd) fun _ _ => rfl
/-! ### isinstance -/
def tyNm (μ : Mu) : D → Option String
  | .non => some "NoneType"
  | .bl _ => some "bool"
  | .int _ => some "int"
  | .str _ => some "str"
  | .tup _ => some "tuple"
  | .lst _ => some "list"
  | .dic _ _ => some "dict"
  | .ref l => match μ[l]? with
    | some (some (.lst _)) => some "list"
    | some (some (.dic _ _)) => some "dict"
    | some (some (.dit _ _)) => some "dict"
    | _ => none
  | _ => none
theorem tyNm_ok {K : PySem.W.Frag} {H G : Hp} {m : List Addr} {μ : Mu} (wf : Wf K H G m μ) {d : D} {v : V} {n : String} (r : RepV K G m d v) (h : tyNm μ d = some n) : TyX K H v (.type n) := by
  cases d with
  | non => cases h; cases r; exact .base .non
  | bl b => cases h; cases r; exact .base (.bl b)
  | int i => cases h; cases r; exact .base (.int i)
  | str x => cases h; cases r; exact .base (.str x)
  | tup ds =>
    cases h
    obtain ⟨a, vs, rfl, q, _⟩ := r
    rcases wf.sub.sqT q with (q | ⟨o, q⟩) | ⟨o, its, k, q, c, _⟩
    · exact .base (.tup q)
    · exact .fTuple q
    · exact .kTuple q c
  | lst ds =>
    cases h
    obtain ⟨a, vs, rfl, q, _⟩ := r
    rcases wf.sub.sqL q with (q | ⟨o, q⟩) | ⟨o, its, k, q, c, _⟩
    · exact .base (.lst q)
    · exact .base (.frz q)
    · exact .kList q c
  | dic ks ds =>
    cases h
    obtain ⟨a, vs, rfl, q, _⟩ := r
    rcases wf.sub.rd q with q | ⟨o, q⟩
    · exact .base (.dK q)
    · exact .fDict q
  | ref l =>
    unfold tyNm at h
    dsimp only at h
    split at h
    · rename_i ds e
      cases h
      obtain ⟨a, rfl, _, _, vs, q, _⟩ := wf.live_get e r
      exact .base (.lst q)
    · rename_i ks ds e
      cases h
      obtain ⟨a, rfl, _, _, vs, q, _⟩ := wf.live_get e r
      exact .base (.dK q)
    · rename_i ks ds e
      cases h
      obtain ⟨a, rfl, _, _, vs, q, _⟩ := wf.live_get e r
      exact .base (.dT q)
    · cases h
  | _ => cases h
def dcIsi : DC := fun ds μ => match ds with
  | [d, .cst (.ty n)] => match tyNm μ d with
    | some t => match kitB t n with
      | some b => ok (.bl b) μ
      | none => none
    | none => none
  | _ => none
theorem cd_isi : CallD X W (.builtin "isinstance") dcIsi := ⟨_, call_isi, fun ds vs σ H G m μ Q wf rl o => by
  unfold dcIsi at o
  split at o
  · rename_i d n
    obtain ⟨v, w, rfl, r1, u, w2, rfl, r2, rfl⟩ := rl
    split at o
    · rename_i t ht
      split at o
      · rename_i b hb
        have r2 : u = .ty n := r2
        subst r2
        exact ⟨v, .ty n, .type t, .type n, b, rfl, .ty n, tyNm_ok wf r1 ht, kit_ty hb, okA.get (a := D.bl b) o wf rfl⟩
      · exact o.elim
    · exact o.elim
  · exact o.elim⟩
theorem eIsi (hm : X.mg "isinstance" = none) (ha : PA X (e :: es) (TDs X.K W fl)) (hg : Gl X "isinstance" := by rfl) (he : starEach (e :: es) X.env = (false, eval e X.env) :: starEach es X.env := by rfl) (hpl : (backTo pos (starEach es X.env)).any (·.1) = false := by rfl) : PE X (.Call (.Name "isinstance" p) (e :: es) [] pos) (TD X.K W (callB dcIsi fl)) := ped_callB cd_isi hg hm (by decide +kernel) ha (by decide) (by decide) he hpl
theorem eRepr (c : Ctx k W X) (hm : X.mg "repr" = none) (ha : PA X (e :: es) (TDs X.K W fl)) (hg : Gl X "repr" := by rfl) (he : starEach (e :: es) X.env = (false, eval e X.env) :: starEach es X.env := by rfl) (hpl : (backTo pos (starEach es X.env)).any (·.1) = false := by rfl) : PE X (.Call (.Name "repr" p) (e :: es) [] pos) (TD X.K W (callB dcRepr fl)) := ped_callB (cd_repr c.gd c.u64) hg hm (by decide +kernel) ha (by decide) (by decide) he hpl
/-! ### a module's tuple of texts -/
theorem eGT {ys : List Str} {f : Addr} (hm : X.mg x = some (.ref f)) (hs : ∀ H, SqT X.K H f (ys.map V.str)) (hg : Gl X x := by rfl) (hd : (x == ("__debug__" : Str)) = false := by decide) : PE X (.Name x pos) (TD X.K W (cD (.tup (ys.map D.str)))) :=
  ped_glob (v := .ref f) hg hm rfl (fun G _ => ⟨f, _, rfl, hs G, strs_rep ys⟩) hd
end
/-- .. as a def's lemma wants it -/
def TupE (K : PySem.W.Frag) (mg : Str → Option Value) (x : Str) (ys : List Str) : Prop := ∃ f, mg x = some (.ref f) ∧ ∀ H, SqT K H f (ys.map V.str)
theorem eGTE {X : Cx} {W : WX} {x : Str} {pos : Pos} {ys : List Str} (h : TupE X.K X.mg x ys) (hg : Gl X x := by rfl) (hd : (x == ("__debug__" : Str)) = false := by decide) : PE X (.Name x pos) (TD X.K W (cD (.tup (ys.map D.str)))) :=
  let ⟨_, h1, h2⟩ := h
  eGT h1 h2 hg hd
end Pd
end
section
namespace Pd
open PySem PySem.Spec L2
theorem varD_set {i : Nat} {sl : Sl} {v : D} {μ : Mu} : varD i (sl.set i (some v)) μ = if i < sl.length then ok v μ else none := by
  unfold varD
  by_cases h : i < sl.length
  · rw [List.getElem?_set_self h, if_pos h]
  · rw [if_neg h, List.getElem?_eq_none (by simpa using h)]
theorem fldD_set {i : Nat} {a d : Addr} {f : Str} {fs : List Str} {xs : List D} {sl : Sl} {μ : Mu} : fldD a d f (varD i) (sl.set i (some (.exn a d fs xs))) μ = if i < sl.length then (match lookF f fs xs with
    | some y => ok y μ
    | none => none) else none := by
  unfold fldD
  rw [varD_set]
  by_cases h : i < sl.length
  · rw [if_pos h, if_pos h]
    show (if a = a ∧ d = d then _ else _) = _
    rw [if_pos ⟨rfl, rfl⟩]
    try (cases lookF f fs xs <;> rfl)
  · rw [if_neg h, if_neg h]; rfl
/-- what it gives does not hang on where the exception stands -/
def Ind {α : Type} (i : Nat) (f : Addr → Addr → Sl → Mu → R α) : Prop := ∀ (a d : Addr) (fs : List Str) (xs : List D) (sl : Sl) (μ : Mu), f a d (sl.set i (some (.exn a d fs xs))) μ = f 0 0 (sl.set i (some (.exn 0 0 fs xs))) μ
section
variable {i j : Nat} {e : Addr → Addr → DE} {l : Addr → Addr → DL}
theorem ind_c {v : D} : Ind i fun _ _ => cD v := fun _ _ _ _ _ _ => rfl
theorem ind_fld {f : Str} : Ind i fun a d => fldD a d f (varD i) := fun a d fs xs sl μ => by
  show fldD a d f (varD i) _ μ = fldD 0 0 f (varD i) _ μ
  rw [fldD_set, fldD_set]
theorem ind_var (h : i ≠ j) : Ind i fun _ _ => varD j := fun a d fs xs sl μ => by
  show varD j _ μ = varD j _ μ
  unfold varD
  rw [List.getElem?_set_ne h, List.getElem?_set_ne h]
theorem ind_nil : Ind i fun _ _ => nilL := fun _ _ _ _ _ _ => rfl
theorem ind_bind {α β : Type} {f : Addr → Addr → Sl → Mu → R α} {g : Addr → Addr → Sl → α → Mu → R β} (h : Ind i f) (h2 : ∀ x, Ind i fun a d sl μ => g a d sl x μ) : Ind i fun a d sl μ => bindR (f a d sl μ) (g a d sl) := fun a d fs xs sl μ => by
  show bindR (f a d _ μ) _ = bindR (f 0 0 _ μ) _
  rw [h a d fs xs sl μ]
  cases f 0 0 (sl.set i (some (.exn 0 0 fs xs))) μ with
  | none => rfl
  | some o =>
    cases o with
    | exc x μ1 => rfl
    | ok x μ1 => exact h2 x a d fs xs sl μ1
theorem ind_cons (h : Ind i e) (h2 : Ind i l) : Ind i fun a d => consL (e a d) (l a d) := ind_bind h fun _ => ind_bind h2 fun _ _ _ _ _ _ _ => rfl
theorem ind_tup (h : Ind i l) : Ind i fun a d => tupD (l a d) := ind_bind h fun _ _ _ _ _ _ _ => rfl
theorem ind_ret (h : Ind i e) (a d : Addr) (fs : List Str) (xs : List D) (sl : Sl) (μ : Mu) : endS i (retS (e a d) (sl.set i (some (.exn a d fs xs))) μ) = endS i (retS (e 0 0) (sl.set i (some (.exn 0 0 fs xs))) μ) := by
  unfold retS lifA
  rw [h a d fs xs sl μ]
  cases e 0 0 (sl.set i (some (.exn 0 0 fs xs))) μ with
  | none => rfl
  | some o => cases o <;> rfl
end
/-- over a list, a tuple or a text -/
def anySrc (f : DE) : Sl → Mu → R Src := fun sl μ => bindR (f sl μ) fun d μ1 => match d with
  | .str x => ok (.st (x.cps.toList.map fun c => .str ⟨#[c]⟩)) μ1
  | d => match seqOf μ1 d with
    | some ds => ok (mkSrc (fixD d) ds (ckS d ds)) μ1
    | none => none
theorem pid_any {X : Cx} {W : WX} {tg e : Expr} {fe : DE} (he : PE X e (TD X.K W fe)) : PI X tg e (TIs X.K W (anySrc fe)) := by
  refine ⟨fun pins s σ H R I h => ?_⟩
  obtain ⟨G, m, μ, sl, wf, rs, rl, o⟩ := h
  by_cases c : ∃ x μ1, fe sl μ = some (.ok (.str x) μ1)
  · refine (pid_str he).run pins s σ H R I ⟨G, m, μ, sl, wf, rs, rl, ?_⟩
    obtain ⟨x, μ1, e1⟩ := c
    have q : strSrc fe sl μ = anySrc fe sl μ := by
      unfold strSrc anySrc
      rw [e1]; rfl
    rw [q]; exact o
  · refine (pid_seq he).run pins s σ H R I ⟨G, m, μ, sl, wf, rs, rl, ?_⟩
    have q : seqSrc' fe sl μ = anySrc fe sl μ := by
      unfold seqSrc' anySrc
      cases e1 : fe sl μ with
      | none => rfl
      | some oo =>
        cases oo with
        | exc x μ1 => rfl
        | ok d μ1 =>
          cases d with
          | str x => exact absurd ⟨x, μ1, e1⟩ c
          | _ => rfl
    rw [q]; exact o
end Pd
end
section
namespace Pd
open PySem PySem.Spec L2
/-! tuple(range(..)), list(range(..)) -/
def rgOkB (a b : Int) : Bool := decide (-(2 ^ 62) ≤ a) && (decide (a < 2 ^ 62) && (decide (-(2 ^ 62) ≤ b) && (decide (b < 2 ^ 62) && decide ((b - a).toNat ≤ 2 ^ 24))))
theorem rgOk_of {a b : Int} (h : rgOkB a b = true) : RgOk a b := by
  unfold rgOkB at h
  simp only [Bool.and_eq_true, decide_eq_true_eq] at h
  exact ⟨h.1, h.2.1, h.2.2.1, h.2.2.2.1, h.2.2.2.2⟩
theorem rngD_rep {K : PySem.W.Frag} {G : Hp} {m : List Addr} (a b : Int) : RepL K G m (rngD a (b - a).toNat) (rgV a b) := by
  unfold rngD rgV
  generalize List.range (b - a).toNat = l
  induction l with
  | nil => exact rfl
  | cons x l ih => exact ⟨.int (a + (x : Nat)), _, rfl, rfl, ih⟩
def tupRg1 (f : DE) : DE := fun sl μ => bindR (f sl μ) fun d μ1 => match d with
  | .int n => if rgOkB 0 n = true then ok (.tup (rngD 0 (n - 0).toNat)) μ1 else none
  | _ => none
def lstRg1 (f : DE) : DE := fun sl μ => bindR (f sl μ) fun d μ1 => match d with
  | .int n => if rgOkB 0 n = true then ok (.lst (rngD 0 (n - 0).toNat)) μ1 else none
  | _ => none
def tupRg2 (f g : DE) : DE := fun sl μ => bindR (f sl μ) fun d μ1 => bindR (g sl μ1) fun e μ2 => match d, e with
  | .int i, .int j => if rgOkB i j = true then ok (.tup (rngD i (j - i).toNat)) μ2 else none
  | _, _ => none
def lstRg2 (f g : DE) : DE := fun sl μ => bindR (f sl μ) fun d μ1 => bindR (g sl μ1) fun e μ2 => match d, e with
  | .int i, .int j => if rgOkB i j = true then ok (.lst (rngD i (j - i).toNat)) μ2 else none
  | _, _ => none
section
variable {X : Cx} {W : WX} {a b : Expr} {fa fb : DE} {p p2 pos pos2 : Pos}
theorem eTupRg1 (hc : X.calm = true) (hm : X.mg "tuple" = none) (hr : X.mg "range" = none) (ha : PE X a (TD X.K W fa)) (hg : Gl X "tuple" := by rfl) (hg2 : Gl X "range" := by rfl)
    (na : starEach [a] X.env = (false, eval a X.env) :: starEach [] X.env := by rfl) (nb : starEach [.Call (.Name "range" p2) [a] [] pos2] X.env = (false, eval (.Call (.Name "range" p2) [a] [] pos2) X.env) :: starEach [] X.env := by rfl) :
    PE X (.Call (.Name "tuple" p) [.Call (.Name "range" p2) [a] [] pos2] [] pos) (TD X.K W (tupRg1 fa)) :=
  PE_imp (pe_tupRg hc hg hm (prg_1 hg2 hr ha na) nb) fun σ H Q h => (T.bindV h).imp fun v H1 ⟨d, G, m, μ, sl, wf, rs, r, o⟩ => by
    cases d with
    | int n =>
      have o : okA (repV X.K) X.K W σ H1 G m μ (if rgOkB 0 n = true then ok (D.tup (rngD 0 (n - 0).toNat)) μ else none) Q := o
      by_cases hz : rgOkB 0 n = true
      · rw [if_pos hz] at o
        exact ⟨n, r, rgOk_of hz, fun q hq => o (.ref q) _ (upd G q (.tup (rgV 0 n))) m (wf.laid hq) (Step.laid wf hq) ⟨q, rgV 0 n, rfl, .inl (.inl upd_same), rngD_rep 0 n⟩⟩
      · rw [if_neg hz] at o; exact o.elim
    | _ => exact o.elim
theorem eTupRg2 (hc : X.calm = true) (hm : X.mg "tuple" = none) (hr : X.mg "range" = none) (ha : PE X a (TD X.K W fa)) (hb : PE X b (TD X.K W fb)) (hg : Gl X "tuple" := by rfl) (hg2 : Gl X "range" := by rfl)
    (na : starEach [a, b] X.env = (false, eval a X.env) :: starEach [b] X.env := by rfl) (na2 : starEach [b] X.env = (false, eval b X.env) :: starEach [] X.env := by rfl) (hp2 : ((backTo pos2 (starEach [b] X.env)).any fun x => x.1) = false := by rfl) (nb : starEach [.Call (.Name "range" p2) [a, b] [] pos2] X.env = (false, eval (.Call (.Name "range" p2) [a, b] [] pos2) X.env) :: starEach [] X.env := by rfl) :
    PE X (.Call (.Name "tuple" p) [.Call (.Name "range" p2) [a, b] [] pos2] [] pos) (TD X.K W (tupRg2 fa fb)) :=
  PE_imp (pe_tupRg hc hg hm (prg_2 hg2 hr ha hb na na2 hp2) nb) fun σ H Q h => (T.bindD h).imp fun v H1 ⟨d, h1⟩ => (T.bindD h1).imp fun v2 H2 ⟨e, G, m, μ, sl, wf, rs, ⟨w1, l1, e1, r2, w2, l2, e2, r1, e3⟩, o⟩ => by
    cases e1; cases e2
    cases d with
    | int i =>
      cases e with
      | int j =>
        have o : okA (repV X.K) X.K W σ H2 G m μ (if rgOkB i j = true then ok (D.tup (rngD i (j - i).toNat)) μ else none) Q := o
        by_cases hz : rgOkB i j = true
        · rw [if_pos hz] at o
          exact ⟨i, j, r1, r2, rgOk_of hz, fun q hq => o (.ref q) _ (upd G q (.tup (rgV i j))) m (wf.laid hq) (Step.laid wf hq) ⟨q, rgV i j, rfl, .inl (.inl upd_same), rngD_rep i j⟩⟩
        · rw [if_neg hz] at o; exact o.elim
      | _ => exact o.elim
    | _ => exact o.elim
theorem fLstRg1 (hc : X.calm = true) (hm : X.mg "list" = none) (hr : X.mg "range" = none) (ha : PE X a (TD X.K W fa)) (hg : Gl X "list" := by rfl) (hg2 : Gl X "range" := by rfl)
    (na : starEach [a] X.env = (false, eval a X.env) :: starEach [] X.env := by rfl) (nb : starEach [.Call (.Name "range" p2) [a] [] pos2] X.env = (false, eval (.Call (.Name "range" p2) [a] [] pos2) X.env) :: starEach [] X.env := by rfl) :
    PE X (.Call (.Name "list" p) [.Call (.Name "range" p2) [a] [] pos2] [] pos) (TF X.K W (lstRg1 fa)) :=
  PE_imp (pe_listRg hc hg hm (prg_1 hg2 hr ha na) nb) fun σ H Q h => (TFs.bindD h.s).imp fun v H1 ⟨d, G, m, μ, sl, wf, rs, ⟨w1, l1, e1, r, e2⟩, o⟩ => by
    cases e1; cases e2
    cases d with
    | int n =>
      have o : okF X.K W σ H1 G m μ (if rgOkB 0 n = true then ok (D.lst (rngD 0 (n - 0).toNat)) μ else none) Q := o
      by_cases hz : rgOkB 0 n = true
      · rw [if_pos hz] at o
        exact ⟨n, r, rgOk_of hz, fun q hq => o q _ H1 G m wf Step.refl hq (rngD_rep 0 n)⟩
      · rw [if_neg hz] at o; exact o.elim
    | _ => exact o.elim
theorem fLstRg2 (hc : X.calm = true) (hm : X.mg "list" = none) (hr : X.mg "range" = none) (ha : PE X a (TD X.K W fa)) (hb : PE X b (TD X.K W fb)) (hg : Gl X "list" := by rfl) (hg2 : Gl X "range" := by rfl)
    (na : starEach [a, b] X.env = (false, eval a X.env) :: starEach [b] X.env := by rfl) (na2 : starEach [b] X.env = (false, eval b X.env) :: starEach [] X.env := by rfl) (hp2 : ((backTo pos2 (starEach [b] X.env)).any fun x => x.1) = false := by rfl) (nb : starEach [.Call (.Name "range" p2) [a, b] [] pos2] X.env = (false, eval (.Call (.Name "range" p2) [a, b] [] pos2) X.env) :: starEach [] X.env := by rfl) :
    PE X (.Call (.Name "list" p) [.Call (.Name "range" p2) [a, b] [] pos2] [] pos) (TF X.K W (lstRg2 fa fb)) :=
  PE_imp (pe_listRg hc hg hm (prg_2 hg2 hr ha hb na na2 hp2) nb) fun σ H Q h => (TFs.bindD h.s).imp fun v H1 ⟨d, h1⟩ => (TFs.bindD h1).imp fun v2 H2 ⟨e, G, m, μ, sl, wf, rs, ⟨w1, l1, e1, r2, w2, l2, e2, r1, e3⟩, o⟩ => by
    cases e1; cases e2; cases e3
    cases d with
    | int i =>
      cases e with
      | int j =>
        have o : okF X.K W σ H2 G m μ (if rgOkB i j = true then ok (D.lst (rngD i (j - i).toNat)) μ else none) Q := o
        by_cases hz : rgOkB i j = true
        · rw [if_pos hz] at o
          exact ⟨i, j, r1, r2, rgOk_of hz, fun q hq => o q _ H2 G m wf Step.refl hq (rngD_rep i j)⟩
        · rw [if_neg hz] at o; exact o.elim
      | _ => exact o.elim
    | _ => exact o.elim
end
end Pd
end
section
namespace Pd
open PySem PySem.Spec L2
/-! dict(list of pairs), sorted(dict by numbers), sorted(list of numbers) -/
theorem CallF.or {X : Cx} {W : WX} {f : Value} {g1 g2 : DC} (p : List D → Mu → Bool) (h1 : CallF X W f g1) (h2 : CallF X W f g2) : CallF X W f fun ds μ => if p ds μ = true then g1 ds μ else g2 ds μ := by
  obtain ⟨r1, c1, w1⟩ := h1
  obtain ⟨r2, c2, w2⟩ := h2
  refine ⟨fun vs H Q => r1 vs H Q ∨ r2 vs H Q, fun pins s σ H xs us Q I r h => h.elim (c1 pins s σ H xs us Q I r) (c2 pins s σ H xs us Q I r), fun ds vs σ H G m μ Q wf rl o => ?_⟩
  have o : okF X.K W σ H G m μ (if p ds μ = true then g1 ds μ else g2 ds μ) Q := o
  split at o
  · exact .inl (w1 ds vs σ H G m μ Q wf rl o)
  · exact .inr (w2 ds vs σ H G m μ Q wf rl o)
def pairOf : D → Option (Key × D)
  | .tup [k, v] => (keyOf k).map fun k => (k, v)
  | _ => none
def pairsOf : List D → Option (List (Key × D))
  | [] => some []
  | d :: ds => match pairOf d, pairsOf ds with
    | some p, some ps => some (p :: ps)
    | _, _ => none
def dcDict : DC := fun ds μ => match ds with
  | [d] => match (lstOf μ d).bind pairsOf with
    | some qs => ok (.dic (mergD [] [] qs).1 (mergD [] [] qs).2) μ
    | none => none
  | _ => none
theorem pairs_rep {K : PySem.W.Frag} {H G : Hp} {m : List Addr} {μ : Mu} (wf : Wf K H G m μ) : ∀ {ds : List D} {vs : List V} {qs : List (Key × D)}, pairsOf ds = some qs → RepL K G m ds vs →
    ∃ (ps : List Addr) (us : List V), vs = ps.map V.ref ∧ RepL K G m (qs.map (·.2)) us ∧ Paired (fun p kv => SqT K H p [kV kv.1, kv.2]) ps ((qs.map (·.1)).zip us)
  | [], _, qs, h, r => by
    cases h; cases r
    exact ⟨[], [], rfl, rfl, .nil⟩
  | d :: ds, _, qs, h, r => by
    obtain ⟨v, w, rfl, r1, r2⟩ := r
    rw [pairsOf] at h
    split at h
    · rename_i p ps e1 e2
      cases h
      obtain ⟨as, us, rfl, q1, q2⟩ := pairs_rep wf e2 r2
      unfold pairOf at e1
      split at e1
      · rename_i k y
        cases hk : keyOf k with
        | none => rw [hk] at e1; cases e1
        | some k' =>
          rw [hk] at e1; cases e1
          obtain ⟨a, zs, rfl, sq, rl⟩ := r1
          obtain ⟨z1, _, rfl, s1, z2, _, rfl, s2, s3⟩ := rl
          cases s3
          have := keyOf_rep hk s1
          subst this
          exact ⟨a :: as, z2 :: us, rfl, ⟨z2, us, rfl, s2, q1⟩, .cons (wf.sub.sqT sq) q2⟩
      · cases e1
    · cases h
theorem okF.dic {K : PySem.W.Frag} {W : WX} {σ : L2.St} {H G : Hp} {m : List Addr} {μ : Mu} {Q : VK} {ks : List Key} {ds : List D} (h : okF K W σ H G m μ (ok (.dic ks ds) μ) Q) (wf : Wf K H G m μ) {vs : List V} (hl : ks.length = ds.length) (l : RepL K G m ds vs) : ∀ p, H p = none → Q (.ref p) (upd H p (.dK (ks.zip vs))) :=
  fun p hp => h p vs H G m wf Step.refl hp hl l
section
variable {X : Cx} {W : WX} {k : Nat}
theorem cf_dict (hc : X.calm = true) : CallF X W (.type "dict") dcDict := ⟨_, call_dictP hc, fun ds vs σ H G m μ Q wf rl o => by
  unfold dcDict at o
  split at o
  · rename_i d
    obtain ⟨v, rfl, r⟩ := repL1 rl
    split at o
    · rename_i qs e
      obtain ⟨xs, e1, e2⟩ := lst_bind e
      obtain ⟨a, ws, rfl, q, l⟩ := lstOf_rep wf e1 r
      obtain ⟨ps, us, rfl, l2, pr⟩ := pairs_rep wf e2 l
      obtain ⟨zs, z1, z2, z3⟩ := merg_rep qs us [] [] [] l2 rfl rfl
      refine ⟨a, ps, _, rfl, q, pr, fun p hp => ?_⟩
      have z1 : mergeK [] ((qs.map (·.1)).zip us) = _ := z1
      rw [z1]
      exact okF.dic o wf z2 z3 p hp
    · exact o.elim
  · exact o.elim⟩
def intKs : List Key → Option (List Int)
  | [] => some []
  | .inl i :: r => (intKs r).map (i :: ·)
  | _ :: _ => none
theorem intKs_eq : ∀ {ks : List Key} {ns : List Int}, intKs ks = some ns → ks = ns.map Sum.inl
  | [], ns, h => by cases h; rfl
  | .inl i :: r, ns, h => by
    rw [intKs] at h
    cases e : intKs r with
    | none => rw [e] at h; cases h
    | some ms => rw [e] at h; cases h; rw [intKs_eq e]; rfl
  | .inr i :: r, ns, h => by cases h
def dcSortD : DC := fun ds μ => match ds with
  | [d] => match dicOf μ d with
    | some (ks, xs) => match intKs ks with
      | some ns => if ns.length < 64 ∧ ks.length = xs.length then ok (.lst ((sortI ns).map D.int)) μ else none
      | none => none
    | none => none
  | _ => none
theorem cf_sortD (hc : X.calm = true) : CallF X W (.builtin "sorted") dcSortD := ⟨_, call_sortedDI hc, fun ds vs σ H G m μ Q wf rl o => by
  unfold dcSortD at o
  split at o
  · rename_i d
    obtain ⟨v, rfl, r⟩ := repL1 rl
    split at o
    · rename_i ks xs e
      split at o
      · rename_i ns e2
        split at o
        · rename_i hz
          obtain ⟨a, ws, rfl, q, hl, l⟩ := dicOf_rep wf e r
          refine ⟨a, _, ns, rfl, q, ?_, hz.1, fun ys p hp hs hn => ?_⟩
          · rw [← intKs_eq e2]
            have : ks.length = ws.length := by rw [l.length]; exact hl
            exact List.map_fst_zip (Nat.le_of_eq this)
          · have : ys = sortI ns := sorted_unique (hp.trans (sortI_perm ns).symm) hs (sortI_sorted ns)
            subst this
            exact okF.lst o wf (ints_rep _) p hn
        · exact o.elim
      · exact o.elim
    · exact o.elim
  · exact o.elim⟩
def isLstB : List D → Mu → Bool := fun ds μ => match ds with
  | [d] => (lstOf μ d).isSome
  | _ => false
def dcSorted : DC := fun ds μ => if isLstB ds μ = true then dcSortI ds μ else dcSortD ds μ
theorem cf_sorted (hc : X.calm = true) : CallF X W (.builtin "sorted") dcSorted := CallF.or isLstB cf_sortI (cf_sortD hc)
variable {e : Expr} {es : List Expr} {fl : DL} {p pos : Pos}
theorem fDict (c : Ctx k W X) (hm : X.mg "dict" = none) (ha : PA X (e :: es) (TDs X.K W fl)) (hg : Gl X "dict" := by rfl) (he : starEach (e :: es) X.env = (false, eval e X.env) :: starEach es X.env := by rfl) (hpl : (backTo pos (starEach es X.env)).any (·.1) = false := by rfl) : PE X (.Call (.Name "dict" p) (e :: es) [] pos) (TF X.K W (callB dcDict fl)) := pef_callTy (cf_dict c.calm) hg hm (by decide +kernel) ha (by decide) (by decide) he hpl
theorem fSorted (c : Ctx k W X) (hm : X.mg "sorted" = none) (ha : PA X (e :: es) (TDs X.K W fl)) (hg : Gl X "sorted" := by rfl) (he : starEach (e :: es) X.env = (false, eval e X.env) :: starEach es X.env := by rfl) (hpl : (backTo pos (starEach es X.env)).any (·.1) = false := by rfl) : PE X (.Call (.Name "sorted" p) (e :: es) [] pos) (TF X.K W (callB dcSorted fl)) := pef_callB (cf_sorted c.calm) hg hm (by decide +kernel) ha (by decide) (by decide) he hpl
end
end Pd
end
section
namespace Pd
open PySem PySem.Spec L2 PyProof.Rows HT
/-! ### t[::-1] of a tuple -/
section
variable {prog : Program} {w : World} {A : Around} {E : Value → Shared → Prop} {s : Shared}
theorem rev_adjust (n : Nat) : Builtin.Slice.sliceAdjust none none (-1) (n : Int) = ((n : Int) - 1, -1) := rfl
theorem rev_places (n : Nat) : Builtin.Slice.slicePlaces ((n : Int) - 1) (-1) (-1) = n := by
  unfold Builtin.Slice.slicePlaces
  have h1 : ¬ ((-1 : Int) > 0) := by omega
  simp only [h1, if_false]
  by_cases h : (n : Int) - 1 > -1
  · rw [if_pos h]
    show ((((n : Int) - 1 - -1 - 1) / 1) + 1).toNat = n
    rw [Int.ediv_one]; omega
  · rw [if_neg h]; omega
theorem sliceApplied_rev {sl : Addr} {vs : Value} {n : Nat} {Q : Int × Int × Nat → Shared → Prop} (hs : s.heap.IsSliceOf sl .none .none vs) (ps : IsPart vs (some (-1)))
    (h : Q ((n : Int) - 1, -1, n) s) : wpAny (model prog w) A (Builtin.Slice.sliceApplied (.ref sl) (pure (n : Int))) Q E s := by
  obtain ⟨os, hos, hcs, hds⟩ := id hs
  unfold Builtin.Slice.sliceApplied Builtin.Slice.sliceFields
  refine wpAny_bind (wpAny_bind (wpAny_field hos hds (x := .none) rfl (wpAny_bind (wpAny_field hos hds (x := .none) rfl (wpAny_bind (wpAny_field hos hds (x := vs) rfl (wpAny_pure ?_)))))))
  refine wpAny_bind (slicePart_ ps ?_)
  show wpAny _ _ (if ((-1 : Int) == 0) = true then _ else _) _ _ s
  rw [if_neg (by decide)]
  refine wpAny_bind (slicePart_none (wpAny_bind (slicePart_none (wpAny_bind (wpAny_pure ?_)))))
  show wpAny _ _ (pure ((Builtin.Slice.sliceAdjust none none (-1) (n : Int)).1, (-1 : Int), Builtin.Slice.slicePlaces (Builtin.Slice.sliceAdjust none none (-1) (n : Int)).1 (Builtin.Slice.sliceAdjust none none (-1) (n : Int)).2 (-1))) Q E s
  rw [rev_adjust]
  show wpAny _ _ (pure ((n : Int) - 1, (-1 : Int), Builtin.Slice.slicePlaces ((n : Int) - 1) (-1) (-1))) Q E s
  rw [rev_places]
  exact wpAny_pure h
theorem fm_congr {α β : Type} {f g : α → Option β} : ∀ {l : List α}, (∀ a ∈ l, f a = g a) → l.filterMap f = l.filterMap g
  | [], _ => rfl
  | a :: l, h => by
    rw [List.filterMap_cons, List.filterMap_cons, h a (List.mem_cons_self ..), fm_congr fun b hb => h b (List.mem_cons_of_mem _ hb)]
theorem fm_all : ∀ l : List Value, (List.range l.length).filterMap (fun k => l[k]?) = l
  | [] => rfl
  | a :: l => by
    rw [List.length_cons, List.range_succ_eq_map, List.filterMap_cons]
    simp only [List.getElem?_cons_zero]
    rw [List.filterMap_map]
    congr 1
    exact fm_all l
theorem pick_rev (xs : Array Value) : (List.range xs.size).filterMap (fun (k : Nat) => xs[((xs.size : Int) - 1 + (k : Int) * -1).toNat]?) = xs.toList.reverse := by
  have h := fm_all xs.toList.reverse
  rw [List.length_reverse, Array.length_toList] at h
  refine Eq.trans (fm_congr fun k hk => ?_) h
  have hk := List.mem_range.mp hk
  have e : ((xs.size : Int) - 1 + (k : Int) * -1).toNat = xs.size - 1 - k := by omega
  rw [e, List.getElem?_reverse (by simpa using hk)]
  simp
theorem getItem_tuple_rev {t sl : Addr} {items : Array Value} {vs : Value} {Q : Value → Shared → Prop} (ht : IsTup s.heap t items) (hs : s.heap.IsSliceOf sl .none .none vs) (ps : IsPart vs (some (-1)))
    (h : Q (.ref s.heap.objs.size) { s with heap := s.heap.push { cls := .type "tuple", data := .seq items.toList.reverse.toArray } })
    (hsz : items.size ≤ sizeLine) : wpAny (model prog w) A (getItem (.ref t) (.ref sl)) Q E s := by
  have htake : sizeOk (.seq items.toList.reverse.toArray) := by
    show items.toList.reverse.toArray.size ≤ sizeLine
    rw [List.size_toArray, List.length_reverse, Array.length_toList]
    omega
  obtain ⟨os, hos, hcs, hds⟩ := id hs
  have hTs : s.TypeIs (.ref sl) "slice" := ⟨os, hos, hcs⟩
  unfold getItem
  try with_reducible refine wpAny_holding ?_
  first | refine wpAny_bind (wpAny_pure ?_) | skip
  refine wpAny_bind (wpAny_sequenceKey ht.typeIs (by decide) ?_)
  refine wpAny_bind (wpAny_callSpecial?_slot (name := Str.ofString "__getitem__") ht.typeIs PyProof.Rows.slot_tuple_getitem
    (wpAny_call_entry PyProof.Rows.slot_tuple_getitem ht.typeIs entry_tuple_getitem ?_ (args_tuple_getitem _ _)))
  show wpAny _ _ (Builtin.Tuple.tupleItemsOf (.ref t) >>= _) _ _ s
  refine wpAny_bind (tupleItemsOf_ ht ?_)
  refine wpAny_bind (wpAny_typeOf hTs ?_)
  rw [if_pos (by decide)]
  refine wpAny_bind (sliceApplied_rev hs ps ?_)
  have hno : ¬ ((((items.size : Int) - 1) == 0 && (-1 : Int) == 1 && items.size == items.size) = true) := by
    intro q
    rw [Bool.and_eq_true, Bool.and_eq_true] at q
    exact absurd q.1.2 (by decide)
  show wpAny _ _ (if (((items.size : Int) - 1) == 0 && (-1 : Int) == 1 && items.size == items.size) = true then _ else _) _ _ s
  rw [if_neg hno, pick_rev]
  first
    | exact wpAny_bind (m := Builtin.Tuple.tupleExact _) (wpAny_newObj_type (wpAny_pure ⟨_, rfl, wpAny_pure h⟩) htake)
    | exact wpAny_bind (m := Builtin.Tuple.tupleExact _) (wpAny_newObj_type (wpAny_bind (wpAny_pure (wpAny_pure ⟨_, rfl, wpAny_pure h⟩))) htake)
    | exact wpAny_bind (wpAny_bind (m := Builtin.Tuple.tupleExact _) (wpAny_newObj_type (wpAny_pure (wpAny_pure ⟨_, rfl, wpAny_pure h⟩)) htake))
    | exact wpAny_bind (wpAny_bind (m := Builtin.Tuple.tupleExact _) (wpAny_newObj_type (wpAny_pure ⟨_, rfl, wpAny_pure h⟩) htake))
end
def tRevT (K : PySem.W.Frag) (te : TE) : TE := fun σ H Q => te σ H fun x H1 => ∃ a xs, x = .ref a ∧ SqT K H1 a xs ∧ ∀ p, H1 p = none → Q (.ref p) (upd H1 p (.tup xs.reverse))
theorem pe_revT {X : Cx} {e : Expr} {te : TE} {k : Nat} {p1 p2 p3 pos : Pos} (he : PE X e te) : PE X (.Subscript e (.Slice none none (some (.UnaryOp .USub (.Constant (.int 1) k p1) p2)) p3) pos) (tRevT X.K te) := by
  refine ⟨fun pins s σ H Q I h => ?_⟩
  refine Subscript_ (thn (he.run pins s σ H _ I h) fun v s1 ⟨x, H1, I1, r1, q1⟩ => ?_)
  obtain ⟨a, xs, ex, hx, q⟩ := q1
  subst ex
  cases r1
  have hst : PO X (some (.UnaryOp .USub (.Constant (.int 1) k p1) p2)) (tPart (tUn (rU fun i => .int (-i)) (tC (.int 1)))) := po_some (pe_un un_neg pe_int)
  refine wpAny_Slice (thn (po_none.run pins s1 σ H1 (fun o H2 => o = none ∧ H2 = H1) I1 ⟨rfl, rfl⟩) fun vl s2 ⟨l, H2, I2, pl, el, e2⟩ => ?_)
  subst el e2
  refine thn (po_none.run pins s2 σ H2 (fun o H3 => o = none ∧ H3 = H2) I2 ⟨rfl, rfl⟩) fun vu s3 ⟨u, H3, I3, pu, eu, e3⟩ => ?_
  subst eu e3
  refine thn (hst.run pins s3 σ H3 (fun o H4 => o = some (-1) ∧ H4 = H3) I3 ⟨1, rfl, -1, rfl, rfl, rfl⟩) fun vs s4 ⟨o, H4, I4, ps, eo, e4⟩ => ?_
  subst eo e4
  cases pl
  cases pu
  have I5 : Inv X pins σ H4 { s4 with heap := s4.heap.push { cls := .type "slice", data := .fields #[.none, .none, vs] } } := I4.kept (t' := s4.toks) fun b ob q => Heap.get?_push_of_some _ q
  obtain ⟨its, r, ht, hz⟩ := I5.tuple hx
  have hlen := r.length
  show wpAny (model X.prog X.w) X.A (subscriptTail e (.Slice none none (some (.UnaryOp .USub (.Constant (.int 1) k p1) p2)) p3) (.ref a) (.ref s4.heap.objs.size)) (EP X pins σ Q) X.xe { s4 with heap := s4.heap.push { cls := .type "slice", data := .fields #[.none, .none, vs] } }
  refine tail_any (ops := [.ref a, .ref s4.heap.objs.size]) ht.typeIs (PyProof.Rows.slot_tuple_getitem.lookup) ?_ (by with_unfolding_all rfl)
  refine getItem_tuple_rev ht (Heap.IsSliceOf.new _ .none .none vs) ps ?_ (by rw [List.size_toArray]; omega)
  refine ⟨.ref _, _, I5.laid (t' := s4.toks) (o := .tup xs.reverse) (fun b ob q => Heap.get?_push_of_some _ q) (Nat.le_refl _) ?_, rfl, q _ (I5.hok.fresh (Nat.le_refl _))⟩
  exact ⟨by rw [List.length_reverse]; exact hz, _, r.reverse, by have := IsTup.new (s4.heap.push { cls := .type "slice", data := .fields #[Value.none, Value.none, vs] }) its.reverse.toArray; simpa using this⟩
/-- t[::-1], told -/
def revT (f : DE) : DE := fun sl μ => bindR (f sl μ) fun d μ1 => match d with
  | .tup ds => ok (.tup ds.reverse) μ1
  | _ => none
theorem ped_revT {X : Cx} {W : WX} {e : Expr} {fe : DE} {k : Nat} {p1 p2 p3 pos : Pos} (he : PE X e (TD X.K W fe)) : PE X (.Subscript e (.Slice none none (some (.UnaryOp .USub (.Constant (.int 1) k p1) p2)) p3) pos) (TD X.K W (revT fe)) :=
  PE_imp (pe_revT he) fun σ H Q h => (T.bindV h).imp fun v H1 ⟨d, G, m, μ, sl, wf, rs, r, o⟩ => by
    cases d with
    | tup ds =>
      have o : okA (repV X.K) X.K W σ H1 G m μ (ok (.tup ds.reverse) μ) Q := o
      obtain ⟨a, vs, rfl, q, l⟩ := r
      refine ⟨a, vs, rfl, wf.sub.sqT q, fun p hp => ?_⟩
      exact o (.ref p) _ (upd G p (.tup vs.reverse)) m (wf.laid hp) (Step.laid wf hp) ⟨p, vs.reverse, rfl, .inl (.inl upd_same), by have := l.rev.mono (r := []) (le_upd (o := .tup vs.reverse) (wf.gnone hp)); simpa using this⟩
    | _ => exact o.elim
end Pd
end
section
namespace Kn
open PySem PySem.Spec L2 Pd PySem.W PySem.Calls PyProof.Rows
/-! printed by gen.py -/
def top (i : Nat) : Stmt := PySem.Challenge.pw_forthandback_k15_what_is_made_nothing.main.body.getD i (.Pass ⟨0, 0, 0, 0⟩)
abbrev s_table_rests : Stmt := top 1
theorem sc_table_rests : FnScope ["table", "prime", "number", "row"] ["table", "prime"] (defScope s_table_rests) := ⟨rfl, rfl, rfl, by decide +kernel, rfl, by decide +kernel, by decide +kernel⟩
noncomputable def b_table_rests : DS :=
    (retS (callB dcTuple (consL (newD (lcD [3] (seqSrc' (varD 0)) (.nm 3) yesB (callB dcTuple (consL (newD (lcD [2] (seqSrc' (varD 3)) (.nm 2) yesB (binD modI (varD 2) (varD 1)))) nilL)))) nilL)))
noncomputable def f_table_rests : DC := bodyR b_table_rests 4
theorem ok_table_rests {P : Program} {w : World} {K : PySem.W.Frag} {mg : Str → Option Value} {base : Heap} (D : DefFact K mg "table_rests" s_table_rests) (g_tuple : mg "tuple" = none) :
    CalleeG P w K mg base "table_rests" 1 ["table", "prime"] f_table_rests :=
  calleeG D sc_table_rests (fun _ _ _ _ _ _ us hl => match us, hl with | [_, _], _ => rfl) fun f cdv A outer s H E c => have nd := sc_table_rests.nd
    (pssd_one (psd_ret (eTuple g_tuple (pad_cons (pef_new (pef_lc c.calm nd (pid_seq (eV 0)) (blkOk_by (own := [("row", 3)]) (by kernel_rfl)) (by decide) (fun s1 H1 C1 l1 p1 => (gN 3 nd)) (fun s1 H1 C1 l1 p1 => ptsd_nil) (fun s1 H1 C1 l1 p1 => (eTuple g_tuple (pad_cons (pef_new (pef_lc (c.blk _ _ _ _ _).calm nd (pid_seq (eV 3)) (blkOk_by (own := [("number", 2)]) (by kernel_rfl)) (by decide) (fun s2 H2 C2 l2 p2 => (gN 2 nd)) (fun s2 H2 C2 l2 p2 => ptsd_nil) (fun s2 H2 C2 l2 p2 => (ped_bin od_mod (eV 2) (eV 1))))) pad_nil))))) pad_nil))))
abbrev s_columns_of : Stmt := top 2
theorem sc_columns_of : FnScope ["table", "row", "place"] ["table"] (defScope s_columns_of) := ⟨rfl, rfl, rfl, by decide +kernel, rfl, by decide +kernel, by decide +kernel⟩
noncomputable def b_columns_of : DS :=
    (retS (newD (lcD [2] (rngSrc1 (consL (ifD (tstD (binD (cmpI fun i j => decide (j < i)) (callB dcLen (consL (varD 0) nilL)) (cD (.int 0)))) (callB dcLen (consL (binD ixD (varD 0) (cD (.int 0))) nilL)) (cD (.int 0))) nilL)) (.nm 2) yesB (callB dcTuple (consL (newD (lcD [1] (seqSrc' (varD 0)) (.nm 1) yesB (binD ixD (varD 1) (varD 2)))) nilL)))))
noncomputable def f_columns_of : DC := bodyR b_columns_of 3
theorem ok_columns_of {P : Program} {w : World} {K : PySem.W.Frag} {mg : Str → Option Value} {base : Heap} (D : DefFact K mg "columns_of" s_columns_of) (g_len : mg "len" = none) (g_range : mg "range" = none) (g_tuple : mg "tuple" = none) :
    CalleeG P w K mg base "columns_of" 1 ["table"] f_columns_of :=
  calleeG D sc_columns_of (fun _ _ _ _ _ _ us hl => match us, hl with | [_], _ => rfl) fun f cdv A outer s H E c => have nd := sc_columns_of.nd
    (pssd_one (psd_ret (pef_new (pef_lc c.calm nd (pid_range1 (by rfl) g_range (pad_cons (ped_if (tGt (eLen g_len (pad_cons (eV 0) pad_nil)) ped_int) (eLen g_len (pad_cons (eIx c (eV 0) ped_int) pad_nil)) ped_int) pad_nil)) (blkOk_by (own := [("place", 2)]) (by kernel_rfl)) (by decide) (fun s1 H1 C1 l1 p1 => (gN 2 nd)) (fun s1 H1 C1 l1 p1 => ptsd_nil) (fun s1 H1 C1 l1 p1 => (eTuple g_tuple (pad_cons (pef_new (pef_lc (c.blk _ _ _ _ _).calm nd (pid_seq (eV 0)) (blkOk_by (own := [("row", 1)]) (by kernel_rfl)) (by decide) (fun s2 H2 C2 l2 p2 => (gN 1 nd)) (fun s2 H2 C2 l2 p2 => ptsd_nil) (fun s2 H2 C2 l2 p2 => (eIx ((c.blk _ _ _ _ _).blk _ _ _ _ _) (eV 1) (eV 2))))) pad_nil)))))))
abbrev s_product_at : Stmt := top 3
theorem sc_product_at : FnScope ["one", "other", "prime", "columns", "here", "there", "column", "row"] ["one", "other", "prime"] (defScope s_product_at) := ⟨rfl, rfl, rfl, by decide +kernel, rfl, by decide +kernel, by decide +kernel⟩
noncomputable def b_product_at : DS :=
    (seqS (asgS (callB (callN 1 f_columns_of) (consL (varD 1) nilL)) (.nm 3))
    (retS (callB dcTuple (consL (newD (lcD [7] (seqSrc' (varD 0)) (.nm 7) yesB (callB dcTuple (consL (newD (lcD [6] (seqSrc' (varD 3)) (.nm 6) yesB (binD modI (callB dcSum (consL (newD (lcD [4, 5] (zipSrc true (consL (varD 7) (consL (varD 6) nilL))) (.tp [(.nm 4), (.nm 5)]) yesB (binD mulX (varD 4) (varD 5)))) nilL)) (varD 2)))) nilL)))) nilL))))
noncomputable def f_product_at : DC := bodyR b_product_at 8
theorem ok_product_at {P : Program} {w : World} {K : PySem.W.Frag} {mg : Str → Option Value} {base : Heap} (D : DefFact K mg "product_at" s_product_at) (g_sum : mg "sum" = none) (g_tuple : mg "tuple" = none) (g_zip : mg "zip" = none) (C_columns_of : CalleeG P w K mg base "columns_of" 1 ["table"] f_columns_of) :
    CalleeG P w K mg base "product_at" 2 ["one", "other", "prime"] f_product_at :=
  calleeG D sc_product_at (fun _ _ _ _ _ _ us hl => match us, hl with | [_, _, _], _ => rfl) fun f cdv A outer s H E c => have nd := sc_product_at.nd
    (pssd_cons (sSet 3 nd (eCall C_columns_of c (pad_cons (eV 1) pad_nil)))
    (pssd_one (psd_ret (eTuple g_tuple (pad_cons (pef_new (pef_lc c.calm nd (pid_seq (eV 0)) (blkOk_by (own := [("row", 7)]) (by kernel_rfl)) (by decide) (fun s1 H1 C1 l1 p1 => (gN 7 nd)) (fun s1 H1 C1 l1 p1 => ptsd_nil) (fun s1 H1 C1 l1 p1 => (eTuple g_tuple (pad_cons (pef_new (pef_lc (c.blk _ _ _ _ _).calm nd (pid_seq (eV 3)) (blkOk_by (own := [("column", 6)]) (by kernel_rfl)) (by decide) (fun s2 H2 C2 l2 p2 => (gN 6 nd)) (fun s2 H2 C2 l2 p2 => ptsd_nil) (fun s2 H2 C2 l2 p2 => (ped_bin od_mod (eSum ((c.blk _ _ _ _ _).blk _ _ _ _ _) g_sum (pad_cons (pef_new (pef_lc ((c.blk _ _ _ _ _).blk _ _ _ _ _).calm nd (pid_zipS (by rfl) g_zip (pad_cons (eV 7) (pad_cons (eV 6) pad_nil))) (blkOk_by (own := [("here", 4), ("there", 5)]) (by kernel_rfl)) (by decide) (fun s3 H3 C3 l3 p3 => (gT (((c.blk _ _ _ _ _).blk _ _ _ _ _).blk _ _ _ _ _) (pgsd_cons (gN 4 nd) (pgsd_cons (gN 5 nd) pgsd_nil)))) (fun s3 H3 C3 l3 p3 => ptsd_nil) (fun s3 H3 C3 l3 p3 => (ped_bin od_mulX (eV 4) (eV 5))))) pad_nil)) (eV 2))))) pad_nil))))) pad_nil)))))
abbrev s_one_over : Stmt := top 4
theorem sc_one_over : FnScope ["number", "prime", "here", "there", "found", "late", "many"] ["number", "prime"] (defScope s_one_over) := ⟨rfl, rfl, rfl, by decide +kernel, rfl, by decide +kernel, by decide +kernel⟩
noncomputable def b_one_over : DS :=
    (seqS (asgS (tupD (consL (varD 0) (consL (varD 1) (consL (cD (.int 1)) (consL (cD (.int 0)) nilL))))) (.tp [(.nm 2), (.nm 3), (.nm 4), (.nm 5)]))
    (seqS (whS (tstD (binD neD (varD 3) (cD (.int 0))))
    (seqS (asgS (binD fdivI (varD 2) (varD 3)) (.nm 6))
    (seqS (parS [2, 3] (consL (varD 3) (consL (binD subI (varD 2) (binD mulX (varD 6) (varD 3))) nilL)))
    (parS [4, 5] (consL (varD 5) (consL (binD subI (varD 4) (binD mulX (varD 6) (varD 5))) nilL))))))
    (retS (binD modI (varD 4) (varD 1)))))
noncomputable def f_one_over : DC := bodyR b_one_over 7
theorem ok_one_over {P : Program} {w : World} {K : PySem.W.Frag} {mg : Str → Option Value} {base : Heap} (D : DefFact K mg "one_over" s_one_over) :
    CalleeG P w K mg base "one_over" 1 ["number", "prime"] f_one_over :=
  calleeG D sc_one_over (fun _ _ _ _ _ _ us hl => match us, hl with | [_, _], _ => rfl) fun f cdv A outer s H E c => have nd := sc_one_over.nd
    (pssd_cons (psd_asg (ped_tup (pad_cons (eV 0) (pad_cons (eV 1) (pad_cons ped_int (pad_cons ped_int pad_nil))))) (gT c (pgsd_cons (gN 2 nd) (pgsd_cons (gN 3 nd) (pgsd_cons (gN 4 nd) (pgsd_cons (gN 5 nd) pgsd_nil))))))
    (pssd_cons (psd_while c.ps (tNe c (eV 3) ped_int)
    (pssd_cons (sSet 6 nd (ped_bin od_fdiv (eV 2) (eV 3)))
    (pssd_cons (psd_par (i := 2) (j := 3) c.calm nd rfl rfl (by decide) rfl rfl (pad_cons (eV 3) (pad_cons (ped_bin od_sub (eV 2) (ped_bin od_mulX (eV 6) (eV 3))) pad_nil)) (by rfl))
    (pssd_one (psd_par (i := 4) (j := 5) c.calm nd rfl rfl (by decide) rfl rfl (pad_cons (eV 5) (pad_cons (ped_bin od_sub (eV 4) (ped_bin od_mulX (eV 6) (eV 5))) pad_nil)) (by rfl))))))
    (pssd_one (psd_ret (ped_bin od_mod (eV 4) (eV 1))))))
abbrev s_row_off : Stmt := top 5
theorem sc_row_off : FnScope ["row", "head", "place", "prime", "many", "here", "there"] ["row", "head", "place", "prime"] (defScope s_row_off) := ⟨rfl, rfl, rfl, by decide +kernel, rfl, by decide +kernel, by decide +kernel⟩
noncomputable def b_row_off : DS :=
    (seqS (asgS (binD ixD (varD 0) (varD 2)) (.nm 4))
    (retS (newD (lcD [5, 6] (zipSrc true (consL (varD 0) (consL (varD 1) nilL))) (.tp [(.nm 5), (.nm 6)]) yesB (binD modI (binD subI (varD 5) (binD mulX (varD 4) (varD 6))) (varD 3))))))
noncomputable def f_row_off : DC := bodyR b_row_off 7
theorem ok_row_off {P : Program} {w : World} {K : PySem.W.Frag} {mg : Str → Option Value} {base : Heap} (D : DefFact K mg "row_off" s_row_off) (g_zip : mg "zip" = none) :
    CalleeG P w K mg base "row_off" 1 ["row", "head", "place", "prime"] f_row_off :=
  calleeG D sc_row_off (fun _ _ _ _ _ _ us hl => match us, hl with | [_, _, _, _], _ => rfl) fun f cdv A outer s H E c => have nd := sc_row_off.nd
    (pssd_cons (sSet 4 nd (eIx c (eV 0) (eV 2)))
    (pssd_one (psd_ret (pef_new (pef_lc c.calm nd (pid_zipS (by rfl) g_zip (pad_cons (eV 0) (pad_cons (eV 1) pad_nil))) (blkOk_by (own := [("here", 5), ("there", 6)]) (by kernel_rfl)) (by decide) (fun s1 H1 C1 l1 p1 => (gT (c.blk _ _ _ _ _) (pgsd_cons (gN 5 nd) (pgsd_cons (gN 6 nd) pgsd_nil)))) (fun s1 H1 C1 l1 p1 => ptsd_nil) (fun s1 H1 C1 l1 p1 => (ped_bin od_mod (ped_bin od_sub (eV 5) (ped_bin od_mulX (eV 4) (eV 6))) (eV 3))))))))
abbrev s_steps_at : Stmt := top 6
theorem sc_steps_at : FnScope ["table", "prime", "rows", "found", "places", "row", "place", "some", "many", "head", "number", "k", "j"] ["table", "prime"] (defScope s_steps_at) := ⟨rfl, rfl, rfl, by decide +kernel, rfl, by decide +kernel, by decide +kernel⟩
noncomputable def b_steps_at : DS :=
    (seqS (parS [2, 3, 4] (consL (newD (lcD [5] (seqSrc' (callB (callN 2 f_table_rests) (consL (varD 0) (consL (varD 1) nilL)))) (.nm 5) yesB (newD (callB dcList (consL (varD 5) nilL))))) (consL (newD (lstD nilL)) (consL (boxD (lstD nilL)) nilL))))
    (seqS (forS (rngSrc1 (consL (ifD (tstD (binD neD (varD 2) (newD (lstD nilL)))) (callB dcLen (consL (binD ixD (varD 2) (cD (.int 0))) nilL)) (cD (.int 0))) nilL)) (.nm 6)
    (seqS (asgS (newD (lcD [5] (seqSrc' (varD 2)) (.nm 5) (tstD (binD neD (binD ixD (varD 5) (varD 6)) (cD (.int 0)))) (varD 5))) (.nm 7))
    (ifS (tstD (binD neD (varD 7) (newD (lstD nilL))))
    (seqS (asgS (callB (callN 2 f_one_over) (consL (binD ixD (binD ixD (varD 7) (cD (.int 0))) (varD 6)) (consL (varD 1) nilL))) (.nm 8))
    (seqS (asgS (newD (lcD [10] (seqSrc' (binD ixD (varD 7) (cD (.int 0)))) (.nm 10) yesB (binD modI (binD mulX (varD 8) (varD 10)) (varD 1)))) (.nm 9))
    (seqS (asgS (methB .lst dmIndex (varD 2) (consL (binD ixD (varD 7) (cD (.int 0))) nilL)) (.nm 11))
    (seqS (asgS (newD (lcD [12, 5] (enSrc (varD 2)) (.tp [(.nm 12), (.nm 5)]) (tstD (binD neD (varD 12) (varD 11))) (callB (callN 4 f_row_off) (consL (varD 5) (consL (varD 9) (consL (varD 6) (consL (varD 1) nilL))))))) (.nm 2))
    (seqS (asgS (binD addD (newD (lcD [5] (seqSrc' (varD 3)) (.nm 5) yesB (callB (callN 4 f_row_off) (consL (varD 5) (consL (varD 9) (consL (varD 6) (consL (varD 1) nilL))))))) (newD (lstD (consL (varD 9) nilL)))) (.nm 3))
    (expS (methB .lst dmAppend (varD 4) (consL (varD 6) nilL))))))))
    nxS)))
    (retS (tupD (consL (callB dcTuple (consL (newD (lcD [5] (seqSrc' (varD 3)) (.nm 5) yesB (callB dcTuple (consL (varD 5) nilL)))) nilL)) (consL (callB dcTuple (consL (varD 4) nilL)) nilL))))))
noncomputable def f_steps_at : DC := bodyR b_steps_at 13
theorem ok_steps_at {P : Program} {w : World} {K : PySem.W.Frag} {mg : Str → Option Value} {base : Heap} (D : DefFact K mg "steps_at" s_steps_at) (g_enumerate : mg "enumerate" = none) (g_len : mg "len" = none) (g_list : mg "list" = none) (g_range : mg "range" = none) (g_tuple : mg "tuple" = none) (C_table_rests : CalleeG P w K mg base "table_rests" 1 ["table", "prime"] f_table_rests) (C_one_over : CalleeG P w K mg base "one_over" 1 ["number", "prime"] f_one_over) (C_row_off : CalleeG P w K mg base "row_off" 1 ["row", "head", "place", "prime"] f_row_off) :
    CalleeG P w K mg base "steps_at" 2 ["table", "prime"] f_steps_at :=
  calleeG D sc_steps_at (fun _ _ _ _ _ _ us hl => match us, hl with | [_, _], _ => rfl) fun f cdv A outer s H E c => have nd := sc_steps_at.nd
    (pssd_cons (psd_par3 (i := 2) (j := 3) (l := 4) c.calm nd rfl rfl rfl (by decide) (by decide) (by decide) rfl rfl rfl (pad_cons (pef_new (pef_lc c.calm nd (pid_seq (eCall C_table_rests c (pad_cons (eV 0) (pad_cons (eV 1) pad_nil)))) (blkOk_by (own := [("row", 5)]) (by kernel_rfl)) (by decide) (fun s1 H1 C1 l1 p1 => (gN 5 nd)) (fun s1 H1 C1 l1 p1 => ptsd_nil) (fun s1 H1 C1 l1 p1 => (pef_new (fList g_list (pad_cons (eV 5) pad_nil)))))) (pad_cons (pef_new (pef_lst pad_nil)) (pad_cons (pef_box (pef_lst pad_nil)) pad_nil))) (by rfl))
    (pssd_cons (psd_for c.ps c.calm (pid_range1 (by rfl) g_range (pad_cons (ped_if (tNe c (eV 2) (pef_new (pef_lst pad_nil))) (eLen g_len (pad_cons (eIx c (eV 2) ped_int) pad_nil)) ped_int) pad_nil)) (gN 6 nd)
    (pssd_cons (psd_setLc (i := 7) (md := newD) c.calm nd rfl rfl (fun _ _ _ _ h => TF.new h) (sw_true rfl rfl rfl rfl) (pid_seq (eV 2)) (blkOk_by (own := [("row", 5)]) (by kernel_rfl)) (by decide) (fun s1 H1 C1 l1 p1 => (gN 5 nd)) (fun s1 H1 C1 l1 p1 => (ptsd_one (tNe (c.blk _ _ _ _ _) (eIx (c.blk _ _ _ _ _) (eV 5) (eV 6)) ped_int))) (fun s1 H1 C1 l1 p1 => (eV 5)))
    (pssd_one (psd_if (tNe c (eV 7) (pef_new (pef_lst pad_nil)))
    (pssd_cons (sSet 8 nd (eCall C_one_over c (pad_cons (eIx c (eIx c (eV 7) ped_int) (eV 6)) (pad_cons (eV 1) pad_nil))))
    (pssd_cons (sSet 9 nd (pef_new (pef_lc c.calm nd (pid_seq (eIx c (eV 7) ped_int)) (blkOk_by (own := [("number", 10)]) (by kernel_rfl)) (by decide) (fun s1 H1 C1 l1 p1 => (gN 10 nd)) (fun s1 H1 C1 l1 p1 => ptsd_nil) (fun s1 H1 C1 l1 p1 => (ped_bin od_mod (ped_bin od_mulX (eV 8) (eV 10)) (eV 1))))))
    (pssd_cons (sSet 11 nd (eIndex c (eV 2) (pad_cons (eIx c (eV 7) ped_int) pad_nil)))
    (pssd_cons (psd_setLc (i := 2) (md := newD) c.calm nd rfl rfl (fun _ _ _ _ h => TF.new h) (sw_true rfl rfl rfl rfl) (pid_en (by rfl) g_enumerate (pad_one (eV 2))) (blkOk_by (own := [("j", 12), ("row", 5)]) (by kernel_rfl)) (by decide) (fun s1 H1 C1 l1 p1 => (gT (c.blk _ _ _ _ _) (pgsd_cons (gN 12 nd) (pgsd_cons (gN 5 nd) pgsd_nil)))) (fun s1 H1 C1 l1 p1 => (ptsd_one (tNe (c.blk _ _ _ _ _) (eV 12) (eV 11)))) (fun s1 H1 C1 l1 p1 => (eCall C_row_off (c.blk _ _ _ _ _) (pad_cons (eV 5) (pad_cons (eV 9) (pad_cons (eV 6) (pad_cons (eV 1) pad_nil)))))))
    (pssd_cons (sSet 3 nd (ped_bin od_add (pef_new (pef_lc c.calm nd (pid_seq (eV 3)) (blkOk_by (own := [("row", 5)]) (by kernel_rfl)) (by decide) (fun s1 H1 C1 l1 p1 => (gN 5 nd)) (fun s1 H1 C1 l1 p1 => ptsd_nil) (fun s1 H1 C1 l1 p1 => (eCall C_row_off (c.blk _ _ _ _ _) (pad_cons (eV 5) (pad_cons (eV 9) (pad_cons (eV 6) (pad_cons (eV 1) pad_nil)))))))) (pef_new (pef_lst (pad_cons (eV 9) pad_nil)))))
    (pssd_one (psd_expr (eAppend (eV 4) (pad_cons (eV 6) pad_nil)))))))))
    pssd_nil))))
    (pssd_one (psd_ret (ped_tup (pad_cons (eTuple g_tuple (pad_cons (pef_new (pef_lc c.calm nd (pid_seq (eV 3)) (blkOk_by (own := [("row", 5)]) (by kernel_rfl)) (by decide) (fun s1 H1 C1 l1 p1 => (gN 5 nd)) (fun s1 H1 C1 l1 p1 => ptsd_nil) (fun s1 H1 C1 l1 p1 => (eTuple g_tuple (pad_cons (eV 5) pad_nil))))) pad_nil)) (pad_cons (eTuple g_tuple (pad_cons (eV 4) pad_nil)) pad_nil)))))))
abbrev s_rank_at : Stmt := top 7
theorem sc_rank_at : FnScope ["table", "prime"] ["table", "prime"] (defScope s_rank_at) := ⟨rfl, rfl, rfl, by decide +kernel, rfl, by decide +kernel, by decide +kernel⟩
noncomputable def b_rank_at : DS :=
    (retS (callB dcLen (consL (binD ixD (callB (callN 2 f_steps_at) (consL (varD 0) (consL (varD 1) nilL))) (cD (.int 1))) nilL)))
noncomputable def f_rank_at : DC := bodyR b_rank_at 2
theorem ok_rank_at {P : Program} {w : World} {K : PySem.W.Frag} {mg : Str → Option Value} {base : Heap} (D : DefFact K mg "rank_at" s_rank_at) (g_len : mg "len" = none) (C_steps_at : CalleeG P w K mg base "steps_at" 2 ["table", "prime"] f_steps_at) :
    CalleeG P w K mg base "rank_at" 3 ["table", "prime"] f_rank_at :=
  calleeG D sc_rank_at (fun _ _ _ _ _ _ us hl => match us, hl with | [_, _], _ => rfl) fun f cdv A outer s H E c => have nd := sc_rank_at.nd
    (pssd_one (psd_ret (eLen g_len (pad_cons (eIx c (eCall C_steps_at c (pad_cons (eV 0) (pad_cons (eV 1) pad_nil))) ped_int) pad_nil))))
abbrev s_made_nothing : Stmt := top 8
theorem sc_made_nothing : FnScope ["table", "prime", "many", "rows", "places", "found", "free", "place", "thing", "row"] ["table", "prime", "many"] (defScope s_made_nothing) := ⟨rfl, rfl, rfl, by decide +kernel, rfl, by decide +kernel, by decide +kernel⟩
noncomputable def b_made_nothing : DS :=
    (seqS (asgS (callB (callN 2 f_steps_at) (consL (varD 0) (consL (varD 1) nilL))) (.tp [(.nm 3), (.nm 4)]))
    (seqS (asgS (boxD (lstD nilL)) (.nm 5))
    (seqS (forS (seqSrc' (newD (lcD [7] (rngSrc1 (consL (varD 2) nilL)) (.nm 7) (tstD (binD (inD true) (varD 7) (varD 4))) (varD 7)))) (.nm 6)
    (seqS (asgS (boxD (lcD [7] (rngSrc1 (consL (varD 2) nilL)) (.nm 7) yesB (callB dcInt (consL (binD eqD (varD 7) (varD 6)) nilL)))) (.nm 8))
    (seqS (forS (zipSrc true (consL (varD 3) (consL (varD 4) nilL))) (.tp [(.nm 9), (.nm 7)])
    (setS (binD modI (unD negI (binD ixD (varD 9) (varD 6))) (varD 1)) (varD 8) (varD 7)))
    (expS (methB .lst dmAppend (varD 5) (consL (callB dcTuple (consL (varD 8) nilL)) nilL))))))
    (retS (callB dcTuple (consL (varD 5) nilL))))))
noncomputable def f_made_nothing : DC := bodyR b_made_nothing 10
theorem ok_made_nothing {P : Program} {w : World} {K : PySem.W.Frag} {mg : Str → Option Value} {base : Heap} (D : DefFact K mg "made_nothing" s_made_nothing) (g_int : mg "int" = none) (g_range : mg "range" = none) (g_tuple : mg "tuple" = none) (g_zip : mg "zip" = none) (C_steps_at : CalleeG P w K mg base "steps_at" 2 ["table", "prime"] f_steps_at) :
    CalleeG P w K mg base "made_nothing" 3 ["table", "prime", "many"] f_made_nothing :=
  calleeG D sc_made_nothing (fun _ _ _ _ _ _ us hl => match us, hl with | [_, _, _], _ => rfl) fun f cdv A outer s H E c => have nd := sc_made_nothing.nd
    (pssd_cons (psd_asg (eCall C_steps_at c (pad_cons (eV 0) (pad_cons (eV 1) pad_nil))) (gT c (pgsd_cons (gN 3 nd) (pgsd_cons (gN 4 nd) pgsd_nil))))
    (pssd_cons (sSet 5 nd (pef_box (pef_lst pad_nil)))
    (pssd_cons (psd_for c.ps c.calm (pid_seq (pef_new (pef_lc c.calm nd (pid_range1 (by rfl) g_range (pad_cons (eV 2) pad_nil)) (blkOk_by (own := [("place", 7)]) (by kernel_rfl)) (by decide) (fun s1 H1 C1 l1 p1 => (gN 7 nd)) (fun s1 H1 C1 l1 p1 => (ptsd_one (tNin (c.blk _ _ _ _ _) (eV 7) (eV 4)))) (fun s1 H1 C1 l1 p1 => (eV 7))))) (gN 6 nd)
    (pssd_cons (psd_setLc (i := 8) (md := boxD) c.calm nd rfl rfl (fun _ _ _ _ h => TF.box h) (sw_true rfl rfl rfl rfl) (pid_range1 (by rfl) g_range (pad_cons (eV 2) pad_nil)) (blkOk_by (own := [("place", 7)]) (by kernel_rfl)) (by decide) (fun s1 H1 C1 l1 p1 => (gN 7 nd)) (fun s1 H1 C1 l1 p1 => ptsd_nil) (fun s1 H1 C1 l1 p1 => (eInt g_int (pad_cons (eEq (c.blk _ _ _ _ _) (eV 7) (eV 6)) pad_nil))))
    (pssd_cons (psd_for c.ps c.calm (pid_zipS (by rfl) g_zip (pad_cons (eV 3) (pad_cons (eV 4) pad_nil))) (gT c (pgsd_cons (gN 9 nd) (pgsd_cons (gN 7 nd) pgsd_nil)))
    (pssd_one (psd_sub c.u1 (ped_bin od_mod (ped_neg (eIx c (eV 9) (eV 6))) (eV 1)) (eV 8) (eV 7))))
    (pssd_one (psd_expr (eAppend (eV 5) (pad_cons (eTuple g_tuple (pad_cons (eV 8) pad_nil)) pad_nil)))))))
    (pssd_one (psd_ret (eTuple g_tuple (pad_cons (eV 5) pad_nil)))))))
abbrev s_thing_led : Stmt := top 9
theorem sc_thing_led : FnScope ["table", "thing", "prime", "here", "there", "row"] ["table", "thing", "prime"] (defScope s_thing_led) := ⟨rfl, rfl, rfl, by decide +kernel, rfl, by decide +kernel, by decide +kernel⟩
noncomputable def b_thing_led : DS :=
    (retS (callB dcTuple (consL (newD (lcD [5] (seqSrc' (varD 0)) (.nm 5) yesB (binD modI (callB dcSum (consL (newD (lcD [3, 4] (zipSrc true (consL (varD 5) (consL (varD 1) nilL))) (.tp [(.nm 3), (.nm 4)]) yesB (binD mulX (varD 3) (varD 4)))) nilL)) (varD 2)))) nilL)))
noncomputable def f_thing_led : DC := bodyR b_thing_led 6
theorem ok_thing_led {P : Program} {w : World} {K : PySem.W.Frag} {mg : Str → Option Value} {base : Heap} (D : DefFact K mg "thing_led" s_thing_led) (g_sum : mg "sum" = none) (g_tuple : mg "tuple" = none) (g_zip : mg "zip" = none) :
    CalleeG P w K mg base "thing_led" 1 ["table", "thing", "prime"] f_thing_led :=
  calleeG D sc_thing_led (fun _ _ _ _ _ _ us hl => match us, hl with | [_, _, _], _ => rfl) fun f cdv A outer s H E c => have nd := sc_thing_led.nd
    (pssd_one (psd_ret (eTuple g_tuple (pad_cons (pef_new (pef_lc c.calm nd (pid_seq (eV 0)) (blkOk_by (own := [("row", 5)]) (by kernel_rfl)) (by decide) (fun s1 H1 C1 l1 p1 => (gN 5 nd)) (fun s1 H1 C1 l1 p1 => ptsd_nil) (fun s1 H1 C1 l1 p1 => (ped_bin od_mod (eSum (c.blk _ _ _ _ _) g_sum (pad_cons (pef_new (pef_lc (c.blk _ _ _ _ _).calm nd (pid_zipS (by rfl) g_zip (pad_cons (eV 5) (pad_cons (eV 1) pad_nil))) (blkOk_by (own := [("here", 3), ("there", 4)]) (by kernel_rfl)) (by decide) (fun s2 H2 C2 l2 p2 => (gT ((c.blk _ _ _ _ _).blk _ _ _ _ _) (pgsd_cons (gN 3 nd) (pgsd_cons (gN 4 nd) pgsd_nil)))) (fun s2 H2 C2 l2 p2 => ptsd_nil) (fun s2 H2 C2 l2 p2 => (ped_bin od_mulX (eV 3) (eV 4))))) pad_nil)) (eV 2))))) pad_nil))))
abbrev s_led_to : Stmt := top 10
theorem sc_led_to : FnScope ["table", "thing", "prime", "many", "rows", "places", "row", "number", "found", "place"] ["table", "thing", "prime", "many"] (defScope s_led_to) := ⟨rfl, rfl, rfl, by decide +kernel, rfl, by decide +kernel, by decide +kernel⟩
noncomputable def b_led_to : DS :=
    (seqS (asgS (callB (callN 2 f_steps_at) (consL (newD (lcD [6, 7] (zipSrc true (consL (varD 0) (consL (varD 1) nilL))) (.tp [(.nm 6), (.nm 7)]) yesB (tupD (stL (varD 6) (consL (varD 7) nilL))))) (consL (varD 2) nilL))) (.tp [(.nm 4), (.nm 5)]))
    (seqS (ifS (tstD (binD (inD false) (varD 3) (varD 5)))
    (retS (cD .non))
    nxS)
    (seqS (asgS (boxD (binD mulL2 (newD (lstD (consL (cD (.int 0)) nilL))) (varD 3))) (.nm 8))
    (seqS (forS (zipSrc true (consL (varD 4) (consL (varD 5) nilL))) (.tp [(.nm 6), (.nm 9)])
    (setS (binD ixD (varD 6) (varD 3)) (varD 8) (varD 9)))
    (retS (callB dcTuple (consL (varD 8) nilL)))))))
noncomputable def f_led_to : DC := bodyR b_led_to 10
theorem ok_led_to {P : Program} {w : World} {K : PySem.W.Frag} {mg : Str → Option Value} {base : Heap} (D : DefFact K mg "led_to" s_led_to) (g_tuple : mg "tuple" = none) (g_zip : mg "zip" = none) (C_steps_at : CalleeG P w K mg base "steps_at" 2 ["table", "prime"] f_steps_at) :
    CalleeG P w K mg base "led_to" 3 ["table", "thing", "prime", "many"] f_led_to :=
  calleeG D sc_led_to (fun _ _ _ _ _ _ us hl => match us, hl with | [_, _, _, _], _ => rfl) fun f cdv A outer s H E c => have nd := sc_led_to.nd
    (pssd_cons (psd_asg (eCall C_steps_at c (pad_cons (pef_new (pef_lc c.calm nd (pid_zipS (by rfl) g_zip (pad_cons (eV 0) (pad_cons (eV 1) pad_nil))) (blkOk_by (own := [("row", 6), ("number", 7)]) (by kernel_rfl)) (by decide) (fun s1 H1 C1 l1 p1 => (gT (c.blk _ _ _ _ _) (pgsd_cons (gN 6 nd) (pgsd_cons (gN 7 nd) pgsd_nil)))) (fun s1 H1 C1 l1 p1 => ptsd_nil) (fun s1 H1 C1 l1 p1 => (ped_tup (pad_star (eV 6) (pad_cons (eV 7) pad_nil)))))) (pad_cons (eV 2) pad_nil))) (gT c (pgsd_cons (gN 4 nd) (pgsd_cons (gN 5 nd) pgsd_nil))))
    (pssd_cons (psd_if (tIn c (eV 3) (eV 5))
    (pssd_one (psd_ret ped_non))
    pssd_nil)
    (pssd_cons (sSet 8 nd (pef_box (pef_mul (pef_new (pef_lst (pad_cons ped_int pad_nil))) (eV 3))))
    (pssd_cons (psd_for c.ps c.calm (pid_zipS (by rfl) g_zip (pad_cons (eV 4) (pad_cons (eV 5) pad_nil))) (gT c (pgsd_cons (gN 6 nd) (pgsd_cons (gN 9 nd) pgsd_nil)))
    (pssd_one (psd_sub c.u1 (eIx c (eV 6) (eV 3)) (eV 8) (eV 9))))
    (pssd_one (psd_ret (eTuple g_tuple (pad_cons (eV 8) pad_nil))))))))
abbrev s_undone_at : Stmt := top 11
theorem sc_undone_at : FnScope ["table", "prime", "many", "rows", "places", "j", "k", "row"] ["table", "prime"] (defScope s_undone_at) := ⟨rfl, rfl, rfl, by decide +kernel, rfl, by decide +kernel, by decide +kernel⟩
noncomputable def b_undone_at : DS :=
    (seqS (asgS (callB dcLen (consL (varD 0) nilL)) (.nm 2))
    (seqS (asgS (callB (callN 2 f_steps_at) (consL (newD (lcD [6, 7] (enSrc (varD 0)) (.tp [(.nm 6), (.nm 7)]) yesB (tupD (stL (varD 7) (stL (newD (lcD [5] (rngSrc1 (consL (varD 2) nilL)) (.nm 5) yesB (callB dcInt (consL (binD eqD (varD 5) (varD 6)) nilL)))) nilL))))) (consL (varD 1) nilL))) (.tp [(.nm 3), (.nm 4)]))
    (seqS (ifS (tstD (binD neD (varD 4) (tupRg1 (varD 2))))
    (retS (cD .non))
    nxS)
    (retS (callB dcTuple (consL (newD (lcD [7] (seqSrc' (varD 3)) (.nm 7) yesB (sliceD (varD 7) (someO (varD 2)) noO))) nilL))))))
noncomputable def f_undone_at : DC := bodyR b_undone_at 8
theorem ok_undone_at {P : Program} {w : World} {K : PySem.W.Frag} {mg : Str → Option Value} {base : Heap} (D : DefFact K mg "undone_at" s_undone_at) (g_enumerate : mg "enumerate" = none) (g_int : mg "int" = none) (g_len : mg "len" = none) (g_range : mg "range" = none) (g_tuple : mg "tuple" = none) (C_steps_at : CalleeG P w K mg base "steps_at" 2 ["table", "prime"] f_steps_at) :
    CalleeG P w K mg base "undone_at" 3 ["table", "prime"] f_undone_at :=
  calleeG D sc_undone_at (fun _ _ _ _ _ _ us hl => match us, hl with | [_, _], _ => rfl) fun f cdv A outer s H E c => have nd := sc_undone_at.nd
    (pssd_cons (sSet 2 nd (eLen g_len (pad_cons (eV 0) pad_nil)))
    (pssd_cons (psd_asg (eCall C_steps_at c (pad_cons (pef_new (pef_lc c.calm nd (pid_en (by rfl) g_enumerate (pad_one (eV 0))) (blkOk_by (own := [("k", 6), ("row", 7)]) (by kernel_rfl)) (by decide) (fun s1 H1 C1 l1 p1 => (gT (c.blk _ _ _ _ _) (pgsd_cons (gN 6 nd) (pgsd_cons (gN 7 nd) pgsd_nil)))) (fun s1 H1 C1 l1 p1 => ptsd_nil) (fun s1 H1 C1 l1 p1 => (ped_tup (pad_star (eV 7) (pad_star (pef_new (pef_lc (c.blk _ _ _ _ _).calm nd (pid_range1 (by rfl) g_range (pad_cons (eV 2) pad_nil)) (blkOk_by (own := [("j", 5)]) (by kernel_rfl)) (by decide) (fun s2 H2 C2 l2 p2 => (gN 5 nd)) (fun s2 H2 C2 l2 p2 => ptsd_nil) (fun s2 H2 C2 l2 p2 => (eInt g_int (pad_cons (eEq ((c.blk _ _ _ _ _).blk _ _ _ _ _) (eV 5) (eV 6)) pad_nil))))) pad_nil)))))) (pad_cons (eV 1) pad_nil))) (gT c (pgsd_cons (gN 3 nd) (pgsd_cons (gN 4 nd) pgsd_nil))))
    (pssd_cons (psd_if (tNe c (eV 4) (eTupRg1 c.calm g_tuple g_range (eV 2)))
    (pssd_one (psd_ret ped_non))
    pssd_nil)
    (pssd_one (psd_ret (eTuple g_tuple (pad_cons (pef_new (pef_lc c.calm nd (pid_seq (eV 3)) (blkOk_by (own := [("row", 7)]) (by kernel_rfl)) (by decide) (fun s1 H1 C1 l1 p1 => (gN 7 nd)) (fun s1 H1 C1 l1 p1 => ptsd_nil) (fun s1 H1 C1 l1 p1 => (ped_slice (eV 7) (pod_some (eV 2)) pod_none)))) pad_nil)))))))
abbrev s__law_source : Stmt := top 13
theorem sc__law_source : FnScope ["script", "mixed", "cell"] ["script"] (defScope s__law_source) := ⟨rfl, rfl, rfl, by decide +kernel, rfl, by decide +kernel, by decide +kernel⟩
noncomputable def b__law_source : DS :=
    (seqS (asgS (cD (.int 11)) (.nm 1))
    (seqS (forS (seqSrc' (varD 0)) (.nm 2)
    (asgS (binD modI (callB dcInt (consL (binD addD (binD addD (binD mulX (varD 1) (cD (.int 69069))) (binD mulX (varD 2) (cD (.int 31)))) (cD (.int 5))) nilL)) (cD (.int 2147483629))) (.nm 1)))
    (retS (boxD (dispD [((cD (.str "cells")), (boxD (revL (newD (lcD [2] (seqSrc' (varD 0)) (.nm 2) yesB (callB dcAbs (consL (varD 2) nilL))))))), ((cD (.str "left")), (cD (.int 1))), ((cD (.str "mixed")), (varD 1)), ((cD (.str "turn")), (cD (.int 0)))])))))
noncomputable def f__law_source : DC := bodyR b__law_source 3
theorem ok__law_source {P : Program} {w : World} {K : PySem.W.Frag} {mg : Str → Option Value} {base : Heap} (D : DefFact K mg "_law_source" s__law_source) (g_abs : mg "abs" = none) (g_int : mg "int" = none) :
    CalleeG P w K mg base "_law_source" 1 ["script"] f__law_source :=
  calleeG D sc__law_source (fun _ _ _ _ _ _ us hl => match us, hl with | [_], _ => rfl) fun f cdv A outer s H E c => have nd := sc__law_source.nd
    (pssd_cons (sSet 1 nd ped_int)
    (pssd_cons (psd_for c.ps c.calm (pid_seq (eV 0)) (gN 2 nd)
    (pssd_one (sSet 1 nd (ped_bin od_mod (eInt g_int (pad_cons (ped_bin od_add (ped_bin od_add (ped_bin od_mulX (eV 1) ped_int) (ped_bin od_mulX (eV 2) ped_int)) ped_int) pad_nil)) ped_int))))
    (pssd_one (psd_ret (pef_box (pef_disp (.cons ped_str (pef_box (pef_rev (pef_new (pef_lc c.calm nd (pid_seq (eV 0)) (blkOk_by (own := [("cell", 2)]) (by kernel_rfl)) (by decide) (fun s1 H1 C1 l1 p1 => (gN 2 nd)) (fun s1 H1 C1 l1 p1 => ptsd_nil) (fun s1 H1 C1 l1 p1 => (eAbs g_abs (pad_cons (eV 2) pad_nil))))))) (.cons ped_str ped_int (.cons ped_str (eV 1) (.cons ped_str ped_int Prs.nil)))) rfl rfl (by decide) (by decide)))))))
abbrev s__law_pick : Stmt := top 14
theorem sc__law_pick : FnScope ["source", "many", "left", "mixed"] ["source", "many"] (defScope s__law_pick) := ⟨rfl, rfl, rfl, by decide +kernel, rfl, by decide +kernel, by decide +kernel⟩
noncomputable def b__law_pick : DS :=
    (seqS (whS (andB (tstD (binD (cmpI fun i j => decide (j < i)) (varD 1) (cD (.int 1)))) (andB (tstD (binD (cmpI fun i j => decide (i < j)) (binD ixD (varD 0) (cD (.str "left"))) (cD (.int 2)))) (tstD (binD (cmpI fun i j => decide (j < i)) (callB dcLen (consL (binD ixD (varD 0) (cD (.str "cells"))) nilL)) (cD (.int 0))))))
    (setS (meth0 .lst dmPop (binD ixD (varD 0) (cD (.str "cells")))) (varD 0) (cD (.str "left"))))
    (seqS (asgS (binD ixD (varD 0) (cD (.str "left"))) (.nm 2))
    (seqS (ifS (orB (tstD (binD (cmpI fun i j => decide (i < j)) (varD 1) (cD (.int 2)))) (tstD (binD (cmpI fun i j => decide (j < i)) (varD 2) (cD (.int 1)))))
    (seqS (setS (binD fdivI (varD 2) (callB dcMax2 (consL (cD (.int 1)) (consL (varD 1) nilL)))) (varD 0) (cD (.str "left")))
    (retS (binD modI (callB dcInt (consL (varD 2) nilL)) (callB dcMax2 (consL (cD (.int 1)) (consL (varD 1) nilL))))))
    nxS)
    (seqS (setS (binD addD (binD ixD (varD 0) (cD (.str "turn"))) (cD (.int 1))) (varD 0) (cD (.str "turn")))
    (seqS (asgS (binD modI (callB dcInt (consL (binD addD (binD ixD (varD 0) (cD (.str "mixed"))) (binD mulX (binD ixD (varD 0) (cD (.str "turn"))) (cD (.int 104729)))) nilL)) (cD (.int 998244353))) (.nm 3))
    (seqS (asgS (binD modI (callB dcInt (consL (binD addD (binD mulX (varD 3) (varD 3)) (binD mulX (binD ixD (varD 0) (cD (.str "turn"))) (cD (.int 17)))) nilL)) (cD (.int 2147483647))) (.nm 3))
    (seqS (setS (varD 3) (varD 0) (cD (.str "mixed")))
    (retS (binD modI (callB dcInt (consL (binD fdivI (varD 3) (cD (.int 16))) nilL)) (varD 1))))))))))
noncomputable def f__law_pick : DC := bodyR b__law_pick 4
theorem ok__law_pick {P : Program} {w : World} {K : PySem.W.Frag} {mg : Str → Option Value} {base : Heap} (D : DefFact K mg "_law_pick" s__law_pick) (g_int : mg "int" = none) (g_len : mg "len" = none) (g_max : mg "max" = none) :
    CalleeG P w K mg base "_law_pick" 1 ["source", "many"] f__law_pick :=
  calleeG D sc__law_pick (fun _ _ _ _ _ _ us hl => match us, hl with | [_, _], _ => rfl) fun f cdv A outer s H E c => have nd := sc__law_pick.nd
    (pssd_cons (psd_while c.ps (PW.pt (ptd_and (tGt (eV 1) ped_int) (ptd_and (tLt (eIx c (eV 0) ped_str) ped_int) (ptd_and1 (tGt (eLen g_len (pad_cons (eIx c (eV 0) ped_str) pad_nil)) ped_int)))))
    (pssd_one (psd_sub c.u1 (ePop (eIx c (eV 0) ped_str)) (eV 0) ped_str)))
    (pssd_cons (sSet 2 nd (eIx c (eV 0) ped_str))
    (pssd_cons (psd_if (PW.pt (ptd_or (tLt (eV 1) ped_int) (ptd_or1 (tGt (eV 2) ped_int))))
    (pssd_cons (psd_sub c.u1 (ped_bin od_fdiv (eV 2) (eMax2 c g_max (pad_cons ped_int (pad_cons (eV 1) pad_nil)))) (eV 0) ped_str)
    (pssd_one (psd_ret (ped_bin od_mod (eInt g_int (pad_cons (eV 2) pad_nil)) (eMax2 c g_max (pad_cons ped_int (pad_cons (eV 1) pad_nil)))))))
    pssd_nil)
    (pssd_cons (psd_sub c.u1 (ped_bin od_add (eIx c (eV 0) ped_str) ped_int) (eV 0) ped_str)
    (pssd_cons (sSet 3 nd (ped_bin od_mod (eInt g_int (pad_cons (ped_bin od_add (eIx c (eV 0) ped_str) (ped_bin od_mulX (eIx c (eV 0) ped_str) ped_int)) pad_nil)) ped_int))
    (pssd_cons (sSet 3 nd (ped_bin od_mod (eInt g_int (pad_cons (ped_bin od_add (ped_bin od_mulX (eV 3) (eV 3)) (ped_bin od_mulX (eIx c (eV 0) ped_str) ped_int)) pad_nil)) ped_int))
    (pssd_cons (psd_sub c.u1 (eV 3) (eV 0) ped_str)
    (pssd_one (psd_ret (ped_bin od_mod (eInt g_int (pad_cons (ped_bin od_fdiv (eV 3) ped_int) pad_nil)) (eV 1)))))))))))
abbrev s__law_of : Stmt := top 15
theorem sc__law_of : FnScope ["source", "some"] ["source", "some"] (defScope s__law_of) := ⟨rfl, rfl, rfl, by decide +kernel, rfl, by decide +kernel, by decide +kernel⟩
noncomputable def b__law_of : DS :=
    (retS (binD ixD (varD 1) (callB (callN 2 f__law_pick) (consL (varD 0) (consL (callB dcLen (consL (varD 1) nilL)) nilL)))))
noncomputable def f__law_of : DC := bodyR b__law_of 2
theorem ok__law_of {P : Program} {w : World} {K : PySem.W.Frag} {mg : Str → Option Value} {base : Heap} (D : DefFact K mg "_law_of" s__law_of) (g_len : mg "len" = none) (C__law_pick : CalleeG P w K mg base "_law_pick" 1 ["source", "many"] f__law_pick) :
    CalleeG P w K mg base "_law_of" 2 ["source", "some"] f__law_of :=
  calleeG D sc__law_of (fun _ _ _ _ _ _ us hl => match us, hl with | [_, _], _ => rfl) fun f cdv A outer s H E c => have nd := sc__law_of.nd
    (pssd_one (psd_ret (eIx c (eV 1) (eCall C__law_pick c (pad_cons (eV 0) (pad_cons (eLen g_len (pad_cons (eV 1) pad_nil)) pad_nil))))))
abbrev s__law_product : Stmt := top 16
theorem sc__law_product : FnScope ["one", "other", "found", "row", "a", "late", "k"] ["one", "other"] (defScope s__law_product) := ⟨rfl, rfl, rfl, by decide +kernel, rfl, by decide +kernel, by decide +kernel⟩
noncomputable def b__law_product : DS :=
    (seqS (asgS (boxD (lstD nilL)) (.nm 2))
    (seqS (forS (seqSrc' (varD 0)) (.nm 3)
    (expS (methB .lst dmAppend (varD 2) (consL (callB dcTuple (consL (newD (lcD [6] (rngSrc1 (consL (callB dcLen (consL (binD ixD (varD 1) (cD (.int 0))) nilL)) nilL)) (.nm 6) yesB (callB dcSum (consL (newD (lcD [4, 5] (zipSrc false (consL (varD 3) (consL (varD 1) nilL))) (.tp [(.nm 4), (.nm 5)]) yesB (binD mulX (varD 4) (binD ixD (varD 5) (varD 6))))) nilL)))) nilL)) nilL))))
    (retS (callB dcTuple (consL (varD 2) nilL)))))
noncomputable def f__law_product : DC := bodyR b__law_product 7
theorem ok__law_product {P : Program} {w : World} {K : PySem.W.Frag} {mg : Str → Option Value} {base : Heap} (D : DefFact K mg "_law_product" s__law_product) (g_len : mg "len" = none) (g_range : mg "range" = none) (g_sum : mg "sum" = none) (g_tuple : mg "tuple" = none) (g_zip : mg "zip" = none) :
    CalleeG P w K mg base "_law_product" 1 ["one", "other"] f__law_product :=
  calleeG D sc__law_product (fun _ _ _ _ _ _ us hl => match us, hl with | [_, _], _ => rfl) fun f cdv A outer s H E c => have nd := sc__law_product.nd
    (pssd_cons (sSet 2 nd (pef_box (pef_lst pad_nil)))
    (pssd_cons (psd_for c.ps c.calm (pid_seq (eV 0)) (gN 3 nd)
    (pssd_one (psd_expr (eAppend (eV 2) (pad_cons (eTuple g_tuple (pad_cons (pef_new (pef_lc c.calm nd (pid_range1 (by rfl) g_range (pad_cons (eLen g_len (pad_cons (eIx c (eV 1) ped_int) pad_nil)) pad_nil)) (blkOk_by (own := [("k", 6)]) (by kernel_rfl)) (by decide) (fun s1 H1 C1 l1 p1 => (gN 6 nd)) (fun s1 H1 C1 l1 p1 => ptsd_nil) (fun s1 H1 C1 l1 p1 => (eSum (c.blk _ _ _ _ _) g_sum (pad_cons (pef_new (pef_lc (c.blk _ _ _ _ _).calm nd (pid_zip (by rfl) g_zip (pad_cons (eV 3) (pad_cons (eV 1) pad_nil))) (blkOk_by (own := [("a", 4), ("late", 5)]) (by kernel_rfl)) (by decide) (fun s2 H2 C2 l2 p2 => (gT ((c.blk _ _ _ _ _).blk _ _ _ _ _) (pgsd_cons (gN 4 nd) (pgsd_cons (gN 5 nd) pgsd_nil)))) (fun s2 H2 C2 l2 p2 => ptsd_nil) (fun s2 H2 C2 l2 p2 => (ped_bin od_mulX (eV 4) (eIx ((c.blk _ _ _ _ _).blk _ _ _ _ _) (eV 5) (eV 6)))))) pad_nil))))) pad_nil)) pad_nil)))))
    (pssd_one (psd_ret (eTuple g_tuple (pad_cons (eV 2) pad_nil))))))
abbrev s__law_turned : Stmt := top 17
theorem sc__law_turned : FnScope ["table", "row", "k"] ["table"] (defScope s__law_turned) := ⟨rfl, rfl, rfl, by decide +kernel, rfl, by decide +kernel, by decide +kernel⟩
noncomputable def b__law_turned : DS :=
    (retS (callB dcTuple (consL (newD (lcD [2] (rngSrc1 (consL (callB dcLen (consL (binD ixD (varD 0) (cD (.int 0))) nilL)) nilL)) (.nm 2) yesB (callB dcTuple (consL (newD (lcD [1] (seqSrc' (varD 0)) (.nm 1) yesB (binD ixD (varD 1) (varD 2)))) nilL)))) nilL)))
noncomputable def f__law_turned : DC := bodyR b__law_turned 3
theorem ok__law_turned {P : Program} {w : World} {K : PySem.W.Frag} {mg : Str → Option Value} {base : Heap} (D : DefFact K mg "_law_turned" s__law_turned) (g_len : mg "len" = none) (g_range : mg "range" = none) (g_tuple : mg "tuple" = none) :
    CalleeG P w K mg base "_law_turned" 1 ["table"] f__law_turned :=
  calleeG D sc__law_turned (fun _ _ _ _ _ _ us hl => match us, hl with | [_], _ => rfl) fun f cdv A outer s H E c => have nd := sc__law_turned.nd
    (pssd_one (psd_ret (eTuple g_tuple (pad_cons (pef_new (pef_lc c.calm nd (pid_range1 (by rfl) g_range (pad_cons (eLen g_len (pad_cons (eIx c (eV 0) ped_int) pad_nil)) pad_nil)) (blkOk_by (own := [("k", 2)]) (by kernel_rfl)) (by decide) (fun s1 H1 C1 l1 p1 => (gN 2 nd)) (fun s1 H1 C1 l1 p1 => ptsd_nil) (fun s1 H1 C1 l1 p1 => (eTuple g_tuple (pad_cons (pef_new (pef_lc (c.blk _ _ _ _ _).calm nd (pid_seq (eV 0)) (blkOk_by (own := [("row", 1)]) (by kernel_rfl)) (by decide) (fun s2 H2 C2 l2 p2 => (gN 1 nd)) (fun s2 H2 C2 l2 p2 => ptsd_nil) (fun s2 H2 C2 l2 p2 => (eIx ((c.blk _ _ _ _ _).blk _ _ _ _ _) (eV 1) (eV 2))))) pad_nil))))) pad_nil))))
abbrev s__law_one : Stmt := top 18
theorem sc__law_one : FnScope ["many", "b", "a"] ["many"] (defScope s__law_one) := ⟨rfl, rfl, rfl, by decide +kernel, rfl, by decide +kernel, by decide +kernel⟩
noncomputable def b__law_one : DS :=
    (retS (callB dcTuple (consL (newD (lcD [2] (rngSrc1 (consL (varD 0) nilL)) (.nm 2) yesB (callB dcTuple (consL (newD (lcD [1] (rngSrc1 (consL (varD 0) nilL)) (.nm 1) yesB (callB dcInt (consL (binD eqD (varD 2) (varD 1)) nilL)))) nilL)))) nilL)))
noncomputable def f__law_one : DC := bodyR b__law_one 3
theorem ok__law_one {P : Program} {w : World} {K : PySem.W.Frag} {mg : Str → Option Value} {base : Heap} (D : DefFact K mg "_law_one" s__law_one) (g_int : mg "int" = none) (g_range : mg "range" = none) (g_tuple : mg "tuple" = none) :
    CalleeG P w K mg base "_law_one" 1 ["many"] f__law_one :=
  calleeG D sc__law_one (fun _ _ _ _ _ _ us hl => match us, hl with | [_], _ => rfl) fun f cdv A outer s H E c => have nd := sc__law_one.nd
    (pssd_one (psd_ret (eTuple g_tuple (pad_cons (pef_new (pef_lc c.calm nd (pid_range1 (by rfl) g_range (pad_cons (eV 0) pad_nil)) (blkOk_by (own := [("a", 2)]) (by kernel_rfl)) (by decide) (fun s1 H1 C1 l1 p1 => (gN 2 nd)) (fun s1 H1 C1 l1 p1 => ptsd_nil) (fun s1 H1 C1 l1 p1 => (eTuple g_tuple (pad_cons (pef_new (pef_lc (c.blk _ _ _ _ _).calm nd (pid_range1 (by rfl) g_range (pad_cons (eV 0) pad_nil)) (blkOk_by (own := [("b", 1)]) (by kernel_rfl)) (by decide) (fun s2 H2 C2 l2 p2 => (gN 1 nd)) (fun s2 H2 C2 l2 p2 => ptsd_nil) (fun s2 H2 C2 l2 p2 => (eInt g_int (pad_cons (eEq ((c.blk _ _ _ _ _).blk _ _ _ _ _) (eV 2) (eV 1)) pad_nil))))) pad_nil))))) pad_nil))))
abbrev s__law_drawn : Stmt := top 19
theorem sc__law_drawn : FnScope ["source", "rows", "columns", "some", "k", "lap"] ["source", "rows", "columns", "some"] (defScope s__law_drawn) := ⟨rfl, rfl, rfl, by decide +kernel, rfl, by decide +kernel, by decide +kernel⟩
noncomputable def b__law_drawn : DS :=
    (retS (callB dcTuple (consL (newD (lcD [5] (rngSrc1 (consL (varD 1) nilL)) (.nm 5) yesB (callB dcTuple (consL (newD (lcD [4] (rngSrc1 (consL (varD 2) nilL)) (.nm 4) yesB (callB (callN 2 f__law_of) (consL (varD 0) (consL (varD 3) nilL))))) nilL)))) nilL)))
noncomputable def f__law_drawn : DC := bodyR b__law_drawn 6
theorem ok__law_drawn {P : Program} {w : World} {K : PySem.W.Frag} {mg : Str → Option Value} {base : Heap} (D : DefFact K mg "_law_drawn" s__law_drawn) (g_range : mg "range" = none) (g_tuple : mg "tuple" = none) (C__law_of : CalleeG P w K mg base "_law_of" 2 ["source", "some"] f__law_of) :
    CalleeG P w K mg base "_law_drawn" 3 ["source", "rows", "columns", "some"] f__law_drawn :=
  calleeG D sc__law_drawn (fun _ _ _ _ _ _ us hl => match us, hl with | [_, _, _, _], _ => rfl) fun f cdv A outer s H E c => have nd := sc__law_drawn.nd
    (pssd_one (psd_ret (eTuple g_tuple (pad_cons (pef_new (pef_lc c.calm nd (pid_range1 (by rfl) g_range (pad_cons (eV 1) pad_nil)) (blkOk_by (own := [("lap", 5)]) (by kernel_rfl)) (by decide) (fun s1 H1 C1 l1 p1 => (gN 5 nd)) (fun s1 H1 C1 l1 p1 => ptsd_nil) (fun s1 H1 C1 l1 p1 => (eTuple g_tuple (pad_cons (pef_new (pef_lc (c.blk _ _ _ _ _).calm nd (pid_range1 (by rfl) g_range (pad_cons (eV 2) pad_nil)) (blkOk_by (own := [("k", 4)]) (by kernel_rfl)) (by decide) (fun s2 H2 C2 l2 p2 => (gN 4 nd)) (fun s2 H2 C2 l2 p2 => ptsd_nil) (fun s2 H2 C2 l2 p2 => (eCall C__law_of ((c.blk _ _ _ _ _).blk _ _ _ _ _) (pad_cons (eV 0) (pad_cons (eV 3) pad_nil)))))) pad_nil))))) pad_nil))))
abbrev s__law_undone_at : Stmt := top 20
theorem sc__law_undone_at : FnScope ["number", "p", "one", "other", "first", "second", "often"] ["number", "p"] (defScope s__law_undone_at) := ⟨rfl, rfl, rfl, by decide +kernel, rfl, by decide +kernel, by decide +kernel⟩
noncomputable def b__law_undone_at : DS :=
    (seqS (asgS (tupD (consL (varD 1) (consL (binD modI (callB dcInt (consL (varD 0) nilL)) (varD 1)) (consL (cD (.int 0)) (consL (cD (.int 1)) nilL))))) (.tp [(.nm 2), (.nm 3), (.nm 4), (.nm 5)]))
    (seqS (whS (tstD (binD (cmpI fun i j => decide (j < i)) (varD 3) (cD (.int 0))))
    (seqS (asgS (binD fdivI (varD 2) (varD 3)) (.nm 6))
    (asgS (tupD (consL (varD 3) (consL (binD subI (varD 2) (binD mulX (varD 6) (varD 3))) (consL (varD 5) (consL (binD subI (varD 4) (binD mulX (varD 6) (varD 5))) nilL))))) (.tp [(.nm 2), (.nm 3), (.nm 4), (.nm 5)]))))
    (retS (binD modI (callB dcInt (consL (varD 4) nilL)) (varD 1)))))
noncomputable def f__law_undone_at : DC := bodyR b__law_undone_at 7
theorem ok__law_undone_at {P : Program} {w : World} {K : PySem.W.Frag} {mg : Str → Option Value} {base : Heap} (D : DefFact K mg "_law_undone_at" s__law_undone_at) (g_int : mg "int" = none) :
    CalleeG P w K mg base "_law_undone_at" 1 ["number", "p"] f__law_undone_at :=
  calleeG D sc__law_undone_at (fun _ _ _ _ _ _ us hl => match us, hl with | [_, _], _ => rfl) fun f cdv A outer s H E c => have nd := sc__law_undone_at.nd
    (pssd_cons (psd_asg (ped_tup (pad_cons (eV 1) (pad_cons (ped_bin od_mod (eInt g_int (pad_cons (eV 0) pad_nil)) (eV 1)) (pad_cons ped_int (pad_cons ped_int pad_nil))))) (gT c (pgsd_cons (gN 2 nd) (pgsd_cons (gN 3 nd) (pgsd_cons (gN 4 nd) (pgsd_cons (gN 5 nd) pgsd_nil))))))
    (pssd_cons (psd_while c.ps (tGt (eV 3) ped_int)
    (pssd_cons (sSet 6 nd (ped_bin od_fdiv (eV 2) (eV 3)))
    (pssd_one (psd_asg (ped_tup (pad_cons (eV 3) (pad_cons (ped_bin od_sub (eV 2) (ped_bin od_mulX (eV 6) (eV 3))) (pad_cons (eV 5) (pad_cons (ped_bin od_sub (eV 4) (ped_bin od_mulX (eV 6) (eV 5))) pad_nil))))) (gT c (pgsd_cons (gN 2 nd) (pgsd_cons (gN 3 nd) (pgsd_cons (gN 4 nd) (pgsd_cons (gN 5 nd) pgsd_nil)))))))))
    (pssd_one (psd_ret (ped_bin od_mod (eInt g_int (pad_cons (eV 4) pad_nil)) (eV 1))))))
abbrev s__law_rank : Stmt := top 21
theorem sc__law_rank : FnScope ["table", "p", "rows", "found", "number", "row", "k", "some", "place", "head", "late", "back", "a", "b"] ["table", "p"] (defScope s__law_rank) := ⟨rfl, rfl, rfl, by decide +kernel, rfl, by decide +kernel, by decide +kernel⟩
noncomputable def b__law_rank : DS :=
    (seqS (parS [2, 3] (consL (newD (lcD [5] (seqSrc' (varD 0)) (.nm 5) yesB (newD (lcD [4] (seqSrc' (varD 5)) (.nm 4) yesB (binD modI (callB dcInt (consL (varD 4) nilL)) (varD 1)))))) (consL (cD (.int 0)) nilL)))
    (seqS (forS (rngSrc1 (consL (callB dcLen (consL (binD ixD (varD 0) (cD (.int 0))) nilL)) nilL)) (.nm 6)
    (seqS (asgS (newD (lcD [8, 5] (enSrc (varD 2)) (.tp [(.nm 8), (.nm 5)]) (tstD (binD neD (binD ixD (varD 5) (varD 6)) (cD (.int 0)))) (varD 8))) (.nm 7))
    (ifS (tstD (binD neD (varD 7) (newD (lstD nilL))))
    (seqS (parS [9, 3, 10] (consL (binD ixD (varD 2) (binD ixD (varD 7) (cD (.int 0)))) (consL (binD addD (varD 3) (cD (.int 1))) (consL (boxD (lstD nilL)) nilL))))
    (seqS (asgS (callB (callN 2 f__law_undone_at) (consL (binD ixD (varD 9) (varD 6)) (consL (varD 1) nilL))) (.nm 11))
    (seqS (forS (enSrc (varD 2)) (.tp [(.nm 8), (.nm 5)])
    (ifS (tstD (binD neD (varD 8) (binD ixD (varD 7) (cD (.int 0)))))
    (expS (methB .lst dmAppend (varD 10) (consL (newD (lcD [12, 13] (zipSrc false (consL (varD 5) (consL (varD 9) nilL))) (.tp [(.nm 12), (.nm 13)]) yesB (binD modI (callB dcInt (consL (binD subI (varD 12) (binD mulX (binD mulX (binD ixD (varD 5) (varD 6)) (varD 11)) (varD 13))) nilL)) (varD 1)))) nilL)))
    nxS))
    (asgS (frzD (varD 10)) (.nm 2)))))
    nxS)))
    (retS (varD 3))))
noncomputable def f__law_rank : DC := bodyR b__law_rank 14
theorem ok__law_rank {P : Program} {w : World} {K : PySem.W.Frag} {mg : Str → Option Value} {base : Heap} (D : DefFact K mg "_law_rank" s__law_rank) (g_enumerate : mg "enumerate" = none) (g_int : mg "int" = none) (g_len : mg "len" = none) (g_range : mg "range" = none) (g_zip : mg "zip" = none) (C__law_undone_at : CalleeG P w K mg base "_law_undone_at" 1 ["number", "p"] f__law_undone_at) :
    CalleeG P w K mg base "_law_rank" 2 ["table", "p"] f__law_rank :=
  calleeG D sc__law_rank (fun _ _ _ _ _ _ us hl => match us, hl with | [_, _], _ => rfl) fun f cdv A outer s H E c => have nd := sc__law_rank.nd
    (pssd_cons (psd_par (i := 2) (j := 3) c.calm nd rfl rfl (by decide) rfl rfl (pad_cons (pef_new (pef_lc c.calm nd (pid_seq (eV 0)) (blkOk_by (own := [("row", 5)]) (by kernel_rfl)) (by decide) (fun s1 H1 C1 l1 p1 => (gN 5 nd)) (fun s1 H1 C1 l1 p1 => ptsd_nil) (fun s1 H1 C1 l1 p1 => (pef_new (pef_lc (c.blk _ _ _ _ _).calm nd (pid_seq (eV 5)) (blkOk_by (own := [("number", 4)]) (by kernel_rfl)) (by decide) (fun s2 H2 C2 l2 p2 => (gN 4 nd)) (fun s2 H2 C2 l2 p2 => ptsd_nil) (fun s2 H2 C2 l2 p2 => (ped_bin od_mod (eInt g_int (pad_cons (eV 4) pad_nil)) (eV 1)))))))) (pad_cons ped_int pad_nil)) (by rfl))
    (pssd_cons (psd_for c.ps c.calm (pid_range1 (by rfl) g_range (pad_cons (eLen g_len (pad_cons (eIx c (eV 0) ped_int) pad_nil)) pad_nil)) (gN 6 nd)
    (pssd_cons (psd_setLc (i := 7) (md := newD) c.calm nd rfl rfl (fun _ _ _ _ h => TF.new h) (sw_true rfl rfl rfl rfl) (pid_en (by rfl) g_enumerate (pad_one (eV 2))) (blkOk_by (own := [("place", 8), ("row", 5)]) (by kernel_rfl)) (by decide) (fun s1 H1 C1 l1 p1 => (gT (c.blk _ _ _ _ _) (pgsd_cons (gN 8 nd) (pgsd_cons (gN 5 nd) pgsd_nil)))) (fun s1 H1 C1 l1 p1 => (ptsd_one (tNe (c.blk _ _ _ _ _) (eIx (c.blk _ _ _ _ _) (eV 5) (eV 6)) ped_int))) (fun s1 H1 C1 l1 p1 => (eV 8)))
    (pssd_one (psd_if (tNe c (eV 7) (pef_new (pef_lst pad_nil)))
    (pssd_cons (psd_par3 (i := 9) (j := 3) (l := 10) c.calm nd rfl rfl rfl (by decide) (by decide) (by decide) rfl rfl rfl (pad_cons (eIx c (eV 2) (eIx c (eV 7) ped_int)) (pad_cons (ped_bin od_add (eV 3) ped_int) (pad_cons (pef_box (pef_lst pad_nil)) pad_nil))) (by rfl))
    (pssd_cons (sSet 11 nd (eCall C__law_undone_at c (pad_cons (eIx c (eV 9) (eV 6)) (pad_cons (eV 1) pad_nil))))
    (pssd_cons (psd_for c.ps c.calm (pid_en (by rfl) g_enumerate (pad_one (eV 2))) (gT c (pgsd_cons (gN 8 nd) (pgsd_cons (gN 5 nd) pgsd_nil)))
    (pssd_one (psd_if (tNe c (eV 8) (eIx c (eV 7) ped_int))
    (pssd_one (psd_expr (eAppend (eV 10) (pad_cons (pef_new (pef_lc c.calm nd (pid_zip (by rfl) g_zip (pad_cons (eV 5) (pad_cons (eV 9) pad_nil))) (blkOk_by (own := [("a", 12), ("b", 13)]) (by kernel_rfl)) (by decide) (fun s1 H1 C1 l1 p1 => (gT (c.blk _ _ _ _ _) (pgsd_cons (gN 12 nd) (pgsd_cons (gN 13 nd) pgsd_nil)))) (fun s1 H1 C1 l1 p1 => ptsd_nil) (fun s1 H1 C1 l1 p1 => (ped_bin od_mod (eInt g_int (pad_cons (ped_bin od_sub (eV 12) (ped_bin od_mulX (ped_bin od_mulX (eIx (c.blk _ _ _ _ _) (eV 5) (eV 6)) (eV 11)) (eV 13))) pad_nil)) (eV 1))))) pad_nil))))
    pssd_nil)))
    (pssd_one (sSet 2 nd (ped_frz (eV 10)))))))
    pssd_nil))))
    (pssd_one (psd_ret (eV 3)))))
abbrev s__law_led : Stmt := top 22
theorem sc__law_led : FnScope ["table", "thing", "p", "a", "b", "row"] ["table", "thing", "p"] (defScope s__law_led) := ⟨rfl, rfl, rfl, by decide +kernel, rfl, by decide +kernel, by decide +kernel⟩
noncomputable def b__law_led : DS :=
    (retS (callB dcTuple (consL (newD (lcD [5] (seqSrc' (varD 0)) (.nm 5) yesB (binD modI (callB dcInt (consL (callB dcSum (consL (newD (lcD [3, 4] (zipSrc false (consL (varD 5) (consL (varD 1) nilL))) (.tp [(.nm 3), (.nm 4)]) yesB (binD mulX (varD 3) (varD 4)))) nilL)) nilL)) (varD 2)))) nilL)))
noncomputable def f__law_led : DC := bodyR b__law_led 6
theorem ok__law_led {P : Program} {w : World} {K : PySem.W.Frag} {mg : Str → Option Value} {base : Heap} (D : DefFact K mg "_law_led" s__law_led) (g_int : mg "int" = none) (g_sum : mg "sum" = none) (g_tuple : mg "tuple" = none) (g_zip : mg "zip" = none) :
    CalleeG P w K mg base "_law_led" 1 ["table", "thing", "p"] f__law_led :=
  calleeG D sc__law_led (fun _ _ _ _ _ _ us hl => match us, hl with | [_, _, _], _ => rfl) fun f cdv A outer s H E c => have nd := sc__law_led.nd
    (pssd_one (psd_ret (eTuple g_tuple (pad_cons (pef_new (pef_lc c.calm nd (pid_seq (eV 0)) (blkOk_by (own := [("row", 5)]) (by kernel_rfl)) (by decide) (fun s1 H1 C1 l1 p1 => (gN 5 nd)) (fun s1 H1 C1 l1 p1 => ptsd_nil) (fun s1 H1 C1 l1 p1 => (ped_bin od_mod (eInt g_int (pad_cons (eSum (c.blk _ _ _ _ _) g_sum (pad_cons (pef_new (pef_lc (c.blk _ _ _ _ _).calm nd (pid_zip (by rfl) g_zip (pad_cons (eV 5) (pad_cons (eV 1) pad_nil))) (blkOk_by (own := [("a", 3), ("b", 4)]) (by kernel_rfl)) (by decide) (fun s2 H2 C2 l2 p2 => (gT ((c.blk _ _ _ _ _).blk _ _ _ _ _) (pgsd_cons (gN 3 nd) (pgsd_cons (gN 4 nd) pgsd_nil)))) (fun s2 H2 C2 l2 p2 => ptsd_nil) (fun s2 H2 C2 l2 p2 => (ped_bin od_mulX (eV 3) (eV 4))))) pad_nil)) pad_nil)) (eV 2))))) pad_nil))))
abbrev s__law_steps_right : Stmt := top 23
theorem sc__law_steps_right : FnScope ["steps", "heads", "many", "p", "head", "place", "row", "number", "other", "late"] ["steps", "heads", "many", "p"] (defScope s__law_steps_right) := ⟨rfl, rfl, rfl, by decide +kernel, rfl, by decide +kernel, by decide +kernel⟩
noncomputable def b__law_steps_right : DS :=
    (seqS (ifS (orB (tstD (binD neD (callB dcLen (consL (varD 1) nilL)) (callB dcLen (consL (varD 0) nilL)))) (tstD (binD neD (newD (callB dcList (consL (varD 1) nilL))) (newD (callB dcSorted (consL (newD (callB dcDict (consL (newD (lcD [4] (seqSrc' (varD 1)) (.nm 4) yesB (tupD (consL (varD 4) (consL (cD (.int 0)) nilL))))) nilL))) nilL))))))
    (retS (cD (.bl false)))
    nxS)
    (seqS (forS (enSrc (varD 0)) (.tp [(.nm 5), (.nm 6)])
    (seqS (ifS (orB (tstD (binD neD (callB dcLen (consL (varD 6) nilL)) (varD 2))) (orB (tstD (binD neD (newD (lcD [7] (seqSrc' (varD 6)) (.nm 7) (notB (tstD (chD (cmpI fun i j => decide (i ≤ j)) (cmpI fun i j => decide (i < j)) (cD (.int 0)) (varD 7) (varD 3)))) (varD 7))) (newD (lstD nilL)))) (tstD (binD neD (binD ixD (varD 6) (binD ixD (varD 1) (varD 5))) (cD (.int 1))))))
    (retS (cD (.bl false)))
    nxS)
    (seqS (ifS (tstD (binD neD (newD (lcD [7] (seqSrc' (sliceD (varD 6) noO (someO (binD ixD (varD 1) (varD 5))))) (.nm 7) (tstD (binD neD (varD 7) (cD (.int 0)))) (varD 7))) (newD (lstD nilL))))
    (retS (cD (.bl false)))
    nxS)
    (ifS (tstD (binD neD (newD (lcD [8, 9] (enSrc (varD 0)) (.tp [(.nm 8), (.nm 9)]) (andB (tstD (binD neD (varD 8) (varD 5))) (tstD (binD neD (binD ixD (varD 9) (binD ixD (varD 1) (varD 5))) (cD (.int 0))))) (cD (.int 1)))) (newD (lstD nilL))))
    (retS (cD (.bl false)))
    nxS))))
    (retS (cD (.bl true)))))
noncomputable def f__law_steps_right : DC := bodyR b__law_steps_right 10
theorem ok__law_steps_right {P : Program} {w : World} {K : PySem.W.Frag} {mg : Str → Option Value} {base : Heap} (D : DefFact K mg "_law_steps_right" s__law_steps_right) (g_dict : mg "dict" = none) (g_enumerate : mg "enumerate" = none) (g_len : mg "len" = none) (g_list : mg "list" = none) (g_sorted : mg "sorted" = none) :
    CalleeG P w K mg base "_law_steps_right" 1 ["steps", "heads", "many", "p"] f__law_steps_right :=
  calleeG D sc__law_steps_right (fun _ _ _ _ _ _ us hl => match us, hl with | [_, _, _, _], _ => rfl) fun f cdv A outer s H E c => have nd := sc__law_steps_right.nd
    (pssd_cons (psd_if (PW.pt (ptd_or (tNe c (eLen g_len (pad_cons (eV 1) pad_nil)) (eLen g_len (pad_cons (eV 0) pad_nil))) (ptd_or1 (tNe c (pef_new (fList g_list (pad_cons (eV 1) pad_nil))) (pef_new (fSorted c g_sorted (pad_cons (pef_new (fDict c g_dict (pad_cons (pef_new (pef_lc c.calm nd (pid_seq (eV 1)) (blkOk_by (own := [("head", 4)]) (by kernel_rfl)) (by decide) (fun s1 H1 C1 l1 p1 => (gN 4 nd)) (fun s1 H1 C1 l1 p1 => ptsd_nil) (fun s1 H1 C1 l1 p1 => (ped_tup (pad_cons (eV 4) (pad_cons ped_int pad_nil)))))) pad_nil))) pad_nil)))))))
    (pssd_one (psd_ret ped_bl))
    pssd_nil)
    (pssd_cons (psd_for c.ps c.calm (pid_en (by rfl) g_enumerate (pad_one (eV 0))) (gT c (pgsd_cons (gN 5 nd) (pgsd_cons (gN 6 nd) pgsd_nil)))
    (pssd_cons (psd_if (PW.pt (ptd_or (tNe c (eLen g_len (pad_cons (eV 6) pad_nil)) (eV 2)) (ptd_or (tNe c (pef_new (pef_lc c.calm nd (pid_seq (eV 6)) (blkOk_by (own := [("number", 7)]) (by kernel_rfl)) (by decide) (fun s1 H1 C1 l1 p1 => (gN 7 nd)) (fun s1 H1 C1 l1 p1 => (ptsd_one (ptd_not (ptd_chain od_le od_lt ped_int (eV 7) (eV 3))))) (fun s1 H1 C1 l1 p1 => (eV 7)))) (pef_new (pef_lst pad_nil))) (ptd_or1 (tNe c (eIx c (eV 6) (eIx c (eV 1) (eV 5))) ped_int)))))
    (pssd_one (psd_ret ped_bl))
    pssd_nil)
    (pssd_cons (psd_if (tNe c (pef_new (pef_lc c.calm nd (pid_seq (ped_slice (eV 6) pod_none (pod_some (eIx c (eV 1) (eV 5))))) (blkOk_by (own := [("number", 7)]) (by kernel_rfl)) (by decide) (fun s1 H1 C1 l1 p1 => (gN 7 nd)) (fun s1 H1 C1 l1 p1 => (ptsd_one (tNe (c.blk _ _ _ _ _) (eV 7) ped_int))) (fun s1 H1 C1 l1 p1 => (eV 7)))) (pef_new (pef_lst pad_nil)))
    (pssd_one (psd_ret ped_bl))
    pssd_nil)
    (pssd_one (psd_if (tNe c (pef_new (pef_lc c.calm nd (pid_en (by rfl) g_enumerate (pad_one (eV 0))) (blkOk_by (own := [("other", 8), ("late", 9)]) (by kernel_rfl)) (by decide) (fun s1 H1 C1 l1 p1 => (gT (c.blk _ _ _ _ _) (pgsd_cons (gN 8 nd) (pgsd_cons (gN 9 nd) pgsd_nil)))) (fun s1 H1 C1 l1 p1 => (ptsd_one (PW.pt (ptd_and (tNe (c.blk _ _ _ _ _) (eV 8) (eV 5)) (ptd_and1 (tNe (c.blk _ _ _ _ _) (eIx (c.blk _ _ _ _ _) (eV 9) (eIx (c.blk _ _ _ _ _) (eV 1) (eV 5))) ped_int)))))) (fun s1 H1 C1 l1 p1 => ped_int))) (pef_new (pef_lst pad_nil)))
    (pssd_one (psd_ret ped_bl))
    pssd_nil)))))
    (pssd_one (psd_ret ped_bl))))
abbrev s__law_made_right : Stmt := top 24
theorem sc__law_made_right : FnScope ["source", "table", "p", "many", "heads", "base", "free", "k", "place", "thing", "number", "due", "one", "is_nothing"] ["source", "table", "p", "many", "heads"] (defScope s__law_made_right) := ⟨rfl, rfl, rfl, by decide +kernel, rfl, by decide +kernel, by decide +kernel⟩
noncomputable def b__law_made_right : DS :=
    (seqS (parS [5, 6] (consL (callB (callN 3 f_made_nothing) (consL (varD 1) (consL (varD 2) (consL (varD 3) nilL)))) (consL (newD (lcD [7] (rngSrc1 (consL (varD 3) nilL)) (.nm 7) (tstD (binD (inD true) (varD 7) (varD 4))) (varD 7))) nilL)))
    (seqS (ifS (tstD (binD neD (callB dcLen (consL (varD 5) nilL)) (callB dcLen (consL (varD 6) nilL))))
    (retS (cD (.bl false)))
    nxS)
    (seqS (forS (zipSrc false (consL (varD 6) (consL (varD 5) nilL))) (.tp [(.nm 8), (.nm 9)])
    (seqS (ifS (orB (tstD (binD neD (newD (lcD [7] (seqSrc' (varD 6)) (.nm 7) yesB (binD ixD (varD 9) (varD 7)))) (newD (lcD [7] (seqSrc' (varD 6)) (.nm 7) yesB (callB dcInt (consL (binD eqD (varD 7) (varD 8)) nilL)))))) (tstD (binD neD (callB dcLen (consL (varD 9) nilL)) (varD 3))))
    (retS (cD (.bl false)))
    nxS)
    (ifS (tstD (binD neD (newD (lcD [10] (seqSrc' (callB (callN 3 f__law_led) (consL (varD 1) (consL (varD 9) (consL (varD 2) nilL))))) (.nm 10) (tstD (binD neD (varD 10) (cD (.int 0)))) (varD 10))) (newD (lstD nilL))))
    (retS (cD (.bl false)))
    nxS)))
    (seqS (asgS (callB dcTuple (consL (newD (lcD [7] (rngSrc1 (consL (varD 3) nilL)) (.nm 7) yesB (callB (callN 2 f__law_pick) (consL (varD 0) (consL (cD (.int 5)) nilL))))) nilL)) (.nm 9))
    (seqS (asgS (boxD (lstD nilL)) (.nm 11))
    (seqS (forS (rngSrc1 (consL (varD 3) nilL)) (.nm 7)
    (expS (methB .lst dmAppend (varD 11) (consL (binD modI (callB dcInt (consL (callB dcSum (consL (newD (lcD [8, 12] (zipSrc false (consL (varD 6) (consL (varD 5) nilL))) (.tp [(.nm 8), (.nm 12)]) yesB (binD mulX (binD ixD (varD 9) (varD 8)) (binD ixD (varD 12) (varD 7))))) nilL)) nilL)) (varD 2)) nilL))))
    (seqS (asgS (binD eqD (newD (lcD [10] (seqSrc' (callB (callN 3 f__law_led) (consL (varD 1) (consL (varD 9) (consL (varD 2) nilL))))) (.nm 10) (tstD (binD neD (varD 10) (cD (.int 0)))) (varD 10))) (newD (lstD nilL))) (.nm 13))
    (retS (binD eqD (varD 13) (binD eqD (newD (lcD [10] (seqSrc' (varD 9)) (.nm 10) yesB (binD modI (callB dcInt (consL (varD 10) nilL)) (varD 2)))) (varD 11)))))))))))
noncomputable def f__law_made_right : DC := bodyR b__law_made_right 14
theorem ok__law_made_right {P : Program} {w : World} {K : PySem.W.Frag} {mg : Str → Option Value} {base : Heap} (D : DefFact K mg "_law_made_right" s__law_made_right) (g_int : mg "int" = none) (g_len : mg "len" = none) (g_range : mg "range" = none) (g_sum : mg "sum" = none) (g_tuple : mg "tuple" = none) (g_zip : mg "zip" = none) (C_made_nothing : CalleeG P w K mg base "made_nothing" 3 ["table", "prime", "many"] f_made_nothing) (C__law_pick : CalleeG P w K mg base "_law_pick" 1 ["source", "many"] f__law_pick) (C__law_led : CalleeG P w K mg base "_law_led" 1 ["table", "thing", "p"] f__law_led) :
    CalleeG P w K mg base "_law_made_right" 4 ["source", "table", "p", "many", "heads"] f__law_made_right :=
  calleeG D sc__law_made_right (fun _ _ _ _ _ _ us hl => match us, hl with | [_, _, _, _, _], _ => rfl) fun f cdv A outer s H E c => have nd := sc__law_made_right.nd
    (pssd_cons (psd_par (i := 5) (j := 6) c.calm nd rfl rfl (by decide) rfl rfl (pad_cons (eCall C_made_nothing c (pad_cons (eV 1) (pad_cons (eV 2) (pad_cons (eV 3) pad_nil)))) (pad_cons (pef_new (pef_lc c.calm nd (pid_range1 (by rfl) g_range (pad_cons (eV 3) pad_nil)) (blkOk_by (own := [("k", 7)]) (by kernel_rfl)) (by decide) (fun s1 H1 C1 l1 p1 => (gN 7 nd)) (fun s1 H1 C1 l1 p1 => (ptsd_one (tNin (c.blk _ _ _ _ _) (eV 7) (eV 4)))) (fun s1 H1 C1 l1 p1 => (eV 7)))) pad_nil)) (by rfl))
    (pssd_cons (psd_if (tNe c (eLen g_len (pad_cons (eV 5) pad_nil)) (eLen g_len (pad_cons (eV 6) pad_nil)))
    (pssd_one (psd_ret ped_bl))
    pssd_nil)
    (pssd_cons (psd_for c.ps c.calm (pid_zip (by rfl) g_zip (pad_cons (eV 6) (pad_cons (eV 5) pad_nil))) (gT c (pgsd_cons (gN 8 nd) (pgsd_cons (gN 9 nd) pgsd_nil)))
    (pssd_cons (psd_if (PW.pt (ptd_or (tNe c (pef_new (pef_lc c.calm nd (pid_seq (eV 6)) (blkOk_by (own := [("k", 7)]) (by kernel_rfl)) (by decide) (fun s1 H1 C1 l1 p1 => (gN 7 nd)) (fun s1 H1 C1 l1 p1 => ptsd_nil) (fun s1 H1 C1 l1 p1 => (eIx (c.blk _ _ _ _ _) (eV 9) (eV 7))))) (pef_new (pef_lc c.calm nd (pid_seq (eV 6)) (blkOk_by (own := [("k", 7)]) (by kernel_rfl)) (by decide) (fun s1 H1 C1 l1 p1 => (gN 7 nd)) (fun s1 H1 C1 l1 p1 => ptsd_nil) (fun s1 H1 C1 l1 p1 => (eInt g_int (pad_cons (eEq (c.blk _ _ _ _ _) (eV 7) (eV 8)) pad_nil)))))) (ptd_or1 (tNe c (eLen g_len (pad_cons (eV 9) pad_nil)) (eV 3)))))
    (pssd_one (psd_ret ped_bl))
    pssd_nil)
    (pssd_one (psd_if (tNe c (pef_new (pef_lc c.calm nd (pid_seq (eCall C__law_led c (pad_cons (eV 1) (pad_cons (eV 9) (pad_cons (eV 2) pad_nil))))) (blkOk_by (own := [("number", 10)]) (by kernel_rfl)) (by decide) (fun s1 H1 C1 l1 p1 => (gN 10 nd)) (fun s1 H1 C1 l1 p1 => (ptsd_one (tNe (c.blk _ _ _ _ _) (eV 10) ped_int))) (fun s1 H1 C1 l1 p1 => (eV 10)))) (pef_new (pef_lst pad_nil)))
    (pssd_one (psd_ret ped_bl))
    pssd_nil))))
    (pssd_cons (sSet 9 nd (eTuple g_tuple (pad_cons (pef_new (pef_lc c.calm nd (pid_range1 (by rfl) g_range (pad_cons (eV 3) pad_nil)) (blkOk_by (own := [("k", 7)]) (by kernel_rfl)) (by decide) (fun s1 H1 C1 l1 p1 => (gN 7 nd)) (fun s1 H1 C1 l1 p1 => ptsd_nil) (fun s1 H1 C1 l1 p1 => (eCall C__law_pick (c.blk _ _ _ _ _) (pad_cons (eV 0) (pad_cons ped_int pad_nil)))))) pad_nil)))
    (pssd_cons (sSet 11 nd (pef_box (pef_lst pad_nil)))
    (pssd_cons (psd_for c.ps c.calm (pid_range1 (by rfl) g_range (pad_cons (eV 3) pad_nil)) (gN 7 nd)
    (pssd_one (psd_expr (eAppend (eV 11) (pad_cons (ped_bin od_mod (eInt g_int (pad_cons (eSum c g_sum (pad_cons (pef_new (pef_lc c.calm nd (pid_zip (by rfl) g_zip (pad_cons (eV 6) (pad_cons (eV 5) pad_nil))) (blkOk_by (own := [("place", 8), ("one", 12)]) (by kernel_rfl)) (by decide) (fun s1 H1 C1 l1 p1 => (gT (c.blk _ _ _ _ _) (pgsd_cons (gN 8 nd) (pgsd_cons (gN 12 nd) pgsd_nil)))) (fun s1 H1 C1 l1 p1 => ptsd_nil) (fun s1 H1 C1 l1 p1 => (ped_bin od_mulX (eIx (c.blk _ _ _ _ _) (eV 9) (eV 8)) (eIx (c.blk _ _ _ _ _) (eV 12) (eV 7)))))) pad_nil)) pad_nil)) (eV 2)) pad_nil)))))
    (pssd_cons (sSet 13 nd (eEq c (pef_new (pef_lc c.calm nd (pid_seq (eCall C__law_led c (pad_cons (eV 1) (pad_cons (eV 9) (pad_cons (eV 2) pad_nil))))) (blkOk_by (own := [("number", 10)]) (by kernel_rfl)) (by decide) (fun s1 H1 C1 l1 p1 => (gN 10 nd)) (fun s1 H1 C1 l1 p1 => (ptsd_one (tNe (c.blk _ _ _ _ _) (eV 10) ped_int))) (fun s1 H1 C1 l1 p1 => (eV 10)))) (pef_new (pef_lst pad_nil))))
    (pssd_one (psd_ret (eEq c (eV 13) (eEq c (pef_new (pef_lc c.calm nd (pid_seq (eV 9)) (blkOk_by (own := [("number", 10)]) (by kernel_rfl)) (by decide) (fun s1 H1 C1 l1 p1 => (gN 10 nd)) (fun s1 H1 C1 l1 p1 => ptsd_nil) (fun s1 H1 C1 l1 p1 => (ped_bin od_mod (eInt g_int (pad_cons (eV 10) pad_nil)) (eV 2))))) (eV 11))))))))))))
abbrev s_law : Stmt := top 25
theorem sc_law : FnScope ["script", "source", "p", "rows", "many", "table", "number", "rest", "row", "rank", "steps", "heads", "thing", "k", "goal", "told", "other", "wide", "late", "due", "square", "back", "one"] ["script"] (defScope s_law) := ⟨rfl, rfl, rfl, by decide +kernel, rfl, by decide +kernel, by decide +kernel⟩
noncomputable def b_law : DS :=
    (seqS (asgS (callB (callN 1 f__law_source) (consL (varD 0) nilL)) (.nm 1))
    (seqS (asgS (callB (callN 2 f__law_of) (consL (varD 1) (consL (newD (lstD (consL (cD (.int 2)) (consL (cD (.int 2)) (consL (cD (.int 3)) (consL (cD (.int 3)) (consL (cD (.int 5)) (consL (cD (.int 7)) (consL (cD (.int 13)) (consL (cD (.int 101)) (consL (cD (.int 9973)) (consL (cD (.int 999999937)) nilL)))))))))))) nilL))) (.nm 2))
    (seqS (parS [3, 4] (consL (callB (callN 2 f__law_pick) (consL (varD 1) (consL (cD (.int 6)) nilL))) (consL (binD addD (cD (.int 1)) (callB (callN 2 f__law_pick) (consL (varD 1) (consL (cD (.int 6)) nilL)))) nilL)))
    (seqS (asgS (callB (callN 4 f__law_drawn) (consL (varD 1) (consL (varD 3) (consL (varD 4) (consL (newD (lstD (consL (cD (.int 0)) (consL (cD (.int 0)) (consL (cD (.int 1)) (consL (unD negI (cD (.int 1))) (consL (cD (.int 2)) (consL (cD (.int 3)) (consL (varD 2) (consL (cD (.int 5)) (consL (unD negI (varD 2)) (consL (cD (.int 6)) (consL (binD addD (varD 2) (cD (.int 1))) nilL))))))))))))) nilL))))) (.nm 5))
    (seqS (ifS (andB (tstD (binD (cmpI fun i j => decide (j < i)) (varD 3) (cD (.int 1)))) (tstD (binD eqD (callB (callN 2 f__law_pick) (consL (varD 1) (consL (cD (.int 2)) nilL))) (cD (.int 0)))))
    (asgS (binD addD (sliceD (varD 5) noO (someO (unD negI (cD (.int 1))))) (tupD (consL (callB dcTuple (consL (newD (lcD [6] (seqSrc' (binD ixD (varD 5) (cD (.int 0)))) (.nm 6) yesB (binD mulX (cD (.int 2)) (varD 6)))) nilL)) nilL))) (.nm 5))
    nxS)
    (seqS (asgS (callB dcTuple (consL (newD (lcD [8] (seqSrc' (varD 5)) (.nm 8) yesB (callB dcTuple (consL (newD (lcD [6] (seqSrc' (varD 8)) (.nm 6) yesB (binD modI (callB dcInt (consL (varD 6) nilL)) (varD 2)))) nilL)))) nilL)) (.nm 7))
    (seqS (asgS (ifD (tstD (binD (cmpI fun i j => decide (j < i)) (varD 3) (cD (.int 0)))) (callB (callN 2 f__law_rank) (consL (varD 5) (consL (varD 2) nilL))) (cD (.int 0))) (.nm 9))
    (seqS (asgS (callB (callN 2 f_steps_at) (consL (varD 5) (consL (varD 2) nilL))) (.tp [(.nm 10), (.nm 11)]))
    (seqS (ifS (orB (tstD (binD neD (callB dcRepr (consL (callB (callN 2 f_table_rests) (consL (varD 5) (consL (varD 2) nilL))) nilL)) (callB dcRepr (consL (varD 7) nilL)))) (orB (tstD (binD neD (callB (callN 2 f_rank_at) (consL (varD 5) (consL (varD 2) nilL))) (varD 9))) (tstD (binD neD (callB dcLen (consL (varD 10) nilL)) (varD 9)))))
    (retS (cD (.bl false)))
    nxS)
    (seqS (ifS (orB (notB (truB (callB (callN 4 f__law_steps_right) (consL (varD 10) (consL (varD 11) (consL (varD 4) (consL (varD 2) nilL))))))) (notB (truB (callB (callN 5 f__law_made_right) (consL (varD 1) (consL (varD 5) (consL (varD 2) (consL (varD 4) (consL (varD 11) nilL)))))))))
    (retS (cD (.bl false)))
    nxS)
    (seqS (ifS (tstD (binD neD (callB dcRepr (consL (callB (callN 2 f_steps_at) (consL (revT (varD 5)) (consL (varD 2) nilL))) nilL)) (callB dcRepr (consL (tupD (consL (varD 10) (consL (varD 11) nilL))) nilL))))
    (retS (cD (.bl false)))
    nxS)
    (seqS (ifS (andB (tstD (binD (cmpI fun i j => decide (j < i)) (varD 3) (cD (.int 0)))) (tstD (binD neD (callB (callN 2 f__law_rank) (consL (binD addD (varD 5) (callB dcTuple (consL (varD 10) nilL))) (consL (varD 2) nilL))) (varD 9))))
    (retS (cD (.bl false)))
    nxS)
    (seqS (ifS (tstD (binD eqD (varD 3) (cD (.int 0))))
    (retS (andD (binD eqD (callB dcRepr (consL (callB (callN 4 f_led_to) (consL (tupD nilL) (consL (tupD nilL) (consL (varD 2) (consL (varD 4) nilL))))) nilL)) (callB dcRepr (consL (binD mulX (tupD (consL (cD (.int 0)) nilL)) (varD 4)) nilL))) (binD eqD (callB (callN 2 f_steps_at) (consL (tupD nilL) (consL (varD 2) nilL))) (tupD (consL (tupD nilL) (consL (tupD nilL) nilL))))))
    nxS)
    (seqS (asgS (callB dcTuple (consL (newD (lcD [13] (rngSrc1 (consL (varD 4) nilL)) (.nm 13) yesB (binD subI (callB (callN 2 f__law_pick) (consL (varD 1) (consL (cD (.int 9)) nilL))) (cD (.int 4))))) nilL)) (.nm 12))
    (seqS (asgS (callB (callN 3 f_thing_led) (consL (varD 5) (consL (varD 12) (consL (varD 2) nilL)))) (.nm 14))
    (seqS (ifS (tstD (binD neD (callB dcRepr (consL (varD 14) nilL)) (callB dcRepr (consL (callB (callN 3 f__law_led) (consL (varD 5) (consL (varD 12) (consL (varD 2) nilL)))) nilL))))
    (retS (cD (.bl false)))
    nxS)
    (seqS (asgS (callB (callN 4 f_led_to) (consL (varD 5) (consL (varD 14) (consL (varD 2) (consL (varD 4) nilL))))) (.nm 15))
    (seqS (ifS (orB (tstD (binD isD (varD 15) (cD .non))) (tstD (binD neD (callB (callN 3 f__law_led) (consL (varD 5) (consL (varD 15) (consL (varD 2) nilL)))) (varD 14))))
    (retS (cD (.bl false)))
    nxS)
    (seqS (ifS (tstD (binD neD (newD (lcD [13] (rngSrc1 (consL (varD 4) nilL)) (.nm 13) (andB (tstD (binD (inD true) (varD 13) (varD 11))) (tstD (binD neD (binD ixD (varD 15) (varD 13)) (cD (.int 0))))) (binD ixD (varD 15) (varD 13)))) (newD (lstD nilL))))
    (retS (cD (.bl false)))
    nxS)
    (seqS (asgS (callB dcTuple (consL (newD (lcD [8] (seqSrc' (varD 5)) (.nm 8) yesB (callB (callN 2 f__law_pick) (consL (varD 1) (consL (cD (.int 4)) nilL))))) nilL)) (.nm 16))
    (seqS (asgS (callB dcTuple (consL (newD (lcD [8, 6] (zipSrc false (consL (varD 5) (consL (varD 16) nilL))) (.tp [(.nm 8), (.nm 6)]) yesB (binD addD (varD 8) (tupD (consL (varD 6) nilL))))) nilL)) (.nm 17))
    (seqS (asgS (callB (callN 4 f_led_to) (consL (varD 5) (consL (varD 16) (consL (varD 2) (consL (varD 4) nilL))))) (.nm 15))
    (seqS (ifS (tstD (binD neD (binD isD (varD 15) (cD .non)) (binD (cmpI fun i j => decide (j < i)) (callB (callN 2 f__law_rank) (consL (varD 17) (consL (varD 2) nilL))) (varD 9))))
    (retS (cD (.bl false)))
    nxS)
    (seqS (ifS (andB (tstD (binD isnotD (varD 15) (cD .non))) (tstD (binD neD (callB (callN 3 f__law_led) (consL (varD 5) (consL (varD 15) (consL (varD 2) nilL)))) (callB dcTuple (consL (newD (lcD [6] (seqSrc' (varD 16)) (.nm 6) yesB (binD modI (callB dcInt (consL (varD 6) nilL)) (varD 2)))) nilL)))))
    (retS (cD (.bl false)))
    nxS)
    (seqS (asgS (callB (callN 4 f__law_drawn) (consL (varD 1) (consL (varD 4) (consL (binD addD (cD (.int 1)) (callB (callN 2 f__law_pick) (consL (varD 1) (consL (cD (.int 3)) nilL)))) (consL (newD (lstD (consL (cD (.int 0)) (consL (cD (.int 1)) (consL (cD (.int 2)) (consL (unD negI (cD (.int 3))) (consL (binD subI (varD 2) (cD (.int 1))) nilL))))))) nilL))))) (.nm 18))
    (seqS (asgS (callB dcTuple (consL (newD (lcD [8] (seqSrc' (callB (callN 2 f__law_product) (consL (varD 5) (consL (varD 18) nilL)))) (.nm 8) yesB (callB dcTuple (consL (newD (lcD [6] (seqSrc' (varD 8)) (.nm 6) yesB (binD modI (callB dcInt (consL (varD 6) nilL)) (varD 2)))) nilL)))) nilL)) (.nm 19))
    (seqS (ifS (tstD (binD neD (callB dcRepr (consL (callB (callN 3 f_product_at) (consL (varD 5) (consL (varD 18) (consL (varD 2) nilL)))) nilL)) (callB dcRepr (consL (varD 19) nilL))))
    (retS (cD (.bl false)))
    nxS)
    (seqS (asgS (callB (callN 4 f__law_drawn) (consL (varD 1) (consL (varD 4) (consL (varD 4) (consL (newD (lstD (consL (cD (.int 0)) (consL (cD (.int 1)) (consL (cD (.int 1)) (consL (unD negI (cD (.int 1))) (consL (cD (.int 2)) (consL (varD 2) (consL (cD (.int 3)) nilL))))))))) nilL))))) (.nm 20))
    (seqS (asgS (callB (callN 2 f_undone_at) (consL (varD 20) (consL (varD 2) nilL))) (.nm 21))
    (seqS (ifS (tstD (binD neD (binD isD (varD 21) (cD .non)) (binD (cmpI fun i j => decide (i < j)) (callB (callN 2 f__law_rank) (consL (varD 20) (consL (varD 2) nilL))) (varD 4))))
    (retS (cD (.bl false)))
    nxS)
    (seqS (asgS (callB (callN 1 f__law_one) (consL (varD 4) nilL)) (.nm 22))
    (retS (orD (binD isD (varD 21) (cD .non)) (binD eqD (callB dcRepr (consL (newD (lstD (consL (callB (callN 3 f_product_at) (consL (varD 20) (consL (varD 21) (consL (varD 2) nilL)))) (consL (callB (callN 3 f_product_at) (consL (varD 21) (consL (varD 20) (consL (varD 2) nilL)))) nilL)))) nilL)) (callB dcRepr (consL (newD (lstD (consL (varD 22) (consL (varD 22) nilL)))) nilL))))))))))))))))))))))))))))))))))))
noncomputable def f_law : DC := bodyR b_law 23
theorem ok_law {P : Program} {w : World} {K : PySem.W.Frag} {mg : Str → Option Value} {base : Heap} {f : Addr} {fd : FuncData} (F : FunD K "law" "law" (defArgs s_law) (defBody s_law) (defScope s_law) [] [] f fd) (g_int : mg "int" = none) (g_len : mg "len" = none) (g_range : mg "range" = none) (g_repr : mg "repr" = none) (g_tuple : mg "tuple" = none) (g_zip : mg "zip" = none) (C_table_rests : CalleeG P w K mg base "table_rests" 1 ["table", "prime"] f_table_rests) (C_product_at : CalleeG P w K mg base "product_at" 2 ["one", "other", "prime"] f_product_at) (C_steps_at : CalleeG P w K mg base "steps_at" 2 ["table", "prime"] f_steps_at) (C_rank_at : CalleeG P w K mg base "rank_at" 3 ["table", "prime"] f_rank_at) (C_thing_led : CalleeG P w K mg base "thing_led" 1 ["table", "thing", "prime"] f_thing_led) (C_led_to : CalleeG P w K mg base "led_to" 3 ["table", "thing", "prime", "many"] f_led_to) (C_undone_at : CalleeG P w K mg base "undone_at" 3 ["table", "prime"] f_undone_at) (C__law_source : CalleeG P w K mg base "_law_source" 1 ["script"] f__law_source) (C__law_pick : CalleeG P w K mg base "_law_pick" 1 ["source", "many"] f__law_pick) (C__law_of : CalleeG P w K mg base "_law_of" 2 ["source", "some"] f__law_of) (C__law_product : CalleeG P w K mg base "_law_product" 1 ["one", "other"] f__law_product) (C__law_one : CalleeG P w K mg base "_law_one" 1 ["many"] f__law_one) (C__law_drawn : CalleeG P w K mg base "_law_drawn" 3 ["source", "rows", "columns", "some"] f__law_drawn) (C__law_rank : CalleeG P w K mg base "_law_rank" 2 ["table", "p"] f__law_rank) (C__law_led : CalleeG P w K mg base "_law_led" 1 ["table", "thing", "p"] f__law_led) (C__law_steps_right : CalleeG P w K mg base "_law_steps_right" 1 ["steps", "heads", "many", "p"] f__law_steps_right) (C__law_made_right : CalleeG P w K mg base "_law_made_right" 4 ["source", "table", "p", "many", "heads"] f__law_made_right) :
    FnG P w K mg base 5 f fd ["script"] f_law :=
  fnG F sc_law fun cdv A outer s H E c => have nd := sc_law.nd
    (pssd_cons (sSet 1 nd (eCall C__law_source c (pad_cons (eV 0) pad_nil)))
    (pssd_cons (sSet 2 nd (eCall C__law_of c (pad_cons (eV 1) (pad_cons (pef_new (pef_lst (pad_cons ped_int (pad_cons ped_int (pad_cons ped_int (pad_cons ped_int (pad_cons ped_int (pad_cons ped_int (pad_cons ped_int (pad_cons ped_int (pad_cons ped_int (pad_cons ped_int pad_nil)))))))))))) pad_nil))))
    (pssd_cons (psd_par (i := 3) (j := 4) c.calm nd rfl rfl (by decide) rfl rfl (pad_cons (eCall C__law_pick c (pad_cons (eV 1) (pad_cons ped_int pad_nil))) (pad_cons (ped_bin od_add ped_int (eCall C__law_pick c (pad_cons (eV 1) (pad_cons ped_int pad_nil)))) pad_nil)) (by rfl))
    (pssd_cons (sSet 5 nd (eCall C__law_drawn c (pad_cons (eV 1) (pad_cons (eV 3) (pad_cons (eV 4) (pad_cons (pef_new (pef_lst (pad_cons ped_int (pad_cons ped_int (pad_cons ped_int (pad_cons (ped_neg ped_int) (pad_cons ped_int (pad_cons ped_int (pad_cons (eV 2) (pad_cons ped_int (pad_cons (ped_neg (eV 2)) (pad_cons ped_int (pad_cons (ped_bin od_add (eV 2) ped_int) pad_nil))))))))))))) pad_nil))))))
    (pssd_cons (psd_if (PW.pt (ptd_and (tGt (eV 3) ped_int) (ptd_and1 (tEq c (eCall C__law_pick c (pad_cons (eV 1) (pad_cons ped_int pad_nil))) ped_int))))
    (pssd_one (sSet 5 nd (ped_bin od_add (ped_slice (eV 5) pod_none (pod_some (ped_neg ped_int))) (ped_tup (pad_cons (eTuple g_tuple (pad_cons (pef_new (pef_lc c.calm nd (pid_seq (eIx c (eV 5) ped_int)) (blkOk_by (own := [("number", 6)]) (by kernel_rfl)) (by decide) (fun s1 H1 C1 l1 p1 => (gN 6 nd)) (fun s1 H1 C1 l1 p1 => ptsd_nil) (fun s1 H1 C1 l1 p1 => (ped_bin od_mulX ped_int (eV 6))))) pad_nil)) pad_nil)))))
    pssd_nil)
    (pssd_cons (sSet 7 nd (eTuple g_tuple (pad_cons (pef_new (pef_lc c.calm nd (pid_seq (eV 5)) (blkOk_by (own := [("row", 8)]) (by kernel_rfl)) (by decide) (fun s1 H1 C1 l1 p1 => (gN 8 nd)) (fun s1 H1 C1 l1 p1 => ptsd_nil) (fun s1 H1 C1 l1 p1 => (eTuple g_tuple (pad_cons (pef_new (pef_lc (c.blk _ _ _ _ _).calm nd (pid_seq (eV 8)) (blkOk_by (own := [("number", 6)]) (by kernel_rfl)) (by decide) (fun s2 H2 C2 l2 p2 => (gN 6 nd)) (fun s2 H2 C2 l2 p2 => ptsd_nil) (fun s2 H2 C2 l2 p2 => (ped_bin od_mod (eInt g_int (pad_cons (eV 6) pad_nil)) (eV 2))))) pad_nil))))) pad_nil)))
    (pssd_cons (sSet 9 nd (ped_if (tGt (eV 3) ped_int) (eCall C__law_rank c (pad_cons (eV 5) (pad_cons (eV 2) pad_nil))) ped_int))
    (pssd_cons (psd_asg (eCall C_steps_at c (pad_cons (eV 5) (pad_cons (eV 2) pad_nil))) (gT c (pgsd_cons (gN 10 nd) (pgsd_cons (gN 11 nd) pgsd_nil))))
    (pssd_cons (psd_if (PW.pt (ptd_or (tNe c (eRepr c g_repr (pad_cons (eCall C_table_rests c (pad_cons (eV 5) (pad_cons (eV 2) pad_nil))) pad_nil)) (eRepr c g_repr (pad_cons (eV 7) pad_nil))) (ptd_or (tNe c (eCall C_rank_at c (pad_cons (eV 5) (pad_cons (eV 2) pad_nil))) (eV 9)) (ptd_or1 (tNe c (eLen g_len (pad_cons (eV 10) pad_nil)) (eV 9))))))
    (pssd_one (psd_ret ped_bl))
    pssd_nil)
    (pssd_cons (psd_if (PW.pt (ptd_or (ptd_not (tTr (eCall C__law_steps_right c (pad_cons (eV 10) (pad_cons (eV 11) (pad_cons (eV 4) (pad_cons (eV 2) pad_nil))))))) (ptd_or1 (ptd_not (tTr (eCall C__law_made_right c (pad_cons (eV 1) (pad_cons (eV 5) (pad_cons (eV 2) (pad_cons (eV 4) (pad_cons (eV 11) pad_nil)))))))))))
    (pssd_one (psd_ret ped_bl))
    pssd_nil)
    (pssd_cons (psd_if (tNe c (eRepr c g_repr (pad_cons (eCall C_steps_at c (pad_cons (ped_revT (eV 5)) (pad_cons (eV 2) pad_nil))) pad_nil)) (eRepr c g_repr (pad_cons (ped_tup (pad_cons (eV 10) (pad_cons (eV 11) pad_nil))) pad_nil)))
    (pssd_one (psd_ret ped_bl))
    pssd_nil)
    (pssd_cons (psd_if (PW.pt (ptd_and (tGt (eV 3) ped_int) (ptd_and1 (tNe c (eCall C__law_rank c (pad_cons (ped_bin od_add (eV 5) (eTuple g_tuple (pad_cons (eV 10) pad_nil))) (pad_cons (eV 2) pad_nil))) (eV 9)))))
    (pssd_one (psd_ret ped_bl))
    pssd_nil)
    (pssd_cons (psd_if (tEq c (eV 3) ped_int)
    (pssd_one (psd_ret (ped_and (eEq c (eRepr c g_repr (pad_cons (eCall C_led_to c (pad_cons (ped_tup pad_nil) (pad_cons (ped_tup pad_nil) (pad_cons (eV 2) (pad_cons (eV 4) pad_nil))))) pad_nil)) (eRepr c g_repr (pad_cons (ped_bin od_mulX (ped_tup (pad_cons ped_int pad_nil)) (eV 4)) pad_nil))) (ped_one (eEq c (eCall C_steps_at c (pad_cons (ped_tup pad_nil) (pad_cons (eV 2) pad_nil))) (ped_tup (pad_cons (ped_tup pad_nil) (pad_cons (ped_tup pad_nil) pad_nil))))))))
    pssd_nil)
    (pssd_cons (sSet 12 nd (eTuple g_tuple (pad_cons (pef_new (pef_lc c.calm nd (pid_range1 (by rfl) g_range (pad_cons (eV 4) pad_nil)) (blkOk_by (own := [("k", 13)]) (by kernel_rfl)) (by decide) (fun s1 H1 C1 l1 p1 => (gN 13 nd)) (fun s1 H1 C1 l1 p1 => ptsd_nil) (fun s1 H1 C1 l1 p1 => (ped_bin od_sub (eCall C__law_pick (c.blk _ _ _ _ _) (pad_cons (eV 1) (pad_cons ped_int pad_nil))) ped_int)))) pad_nil)))
    (pssd_cons (sSet 14 nd (eCall C_thing_led c (pad_cons (eV 5) (pad_cons (eV 12) (pad_cons (eV 2) pad_nil)))))
    (pssd_cons (psd_if (tNe c (eRepr c g_repr (pad_cons (eV 14) pad_nil)) (eRepr c g_repr (pad_cons (eCall C__law_led c (pad_cons (eV 5) (pad_cons (eV 12) (pad_cons (eV 2) pad_nil)))) pad_nil)))
    (pssd_one (psd_ret ped_bl))
    pssd_nil)
    (pssd_cons (sSet 15 nd (eCall C_led_to c (pad_cons (eV 5) (pad_cons (eV 14) (pad_cons (eV 2) (pad_cons (eV 4) pad_nil))))))
    (pssd_cons (psd_if (PW.pt (ptd_or (tIs (eV 15) ped_non) (ptd_or1 (tNe c (eCall C__law_led c (pad_cons (eV 5) (pad_cons (eV 15) (pad_cons (eV 2) pad_nil)))) (eV 14)))))
    (pssd_one (psd_ret ped_bl))
    pssd_nil)
    (pssd_cons (psd_if (tNe c (pef_new (pef_lc c.calm nd (pid_range1 (by rfl) g_range (pad_cons (eV 4) pad_nil)) (blkOk_by (own := [("k", 13)]) (by kernel_rfl)) (by decide) (fun s1 H1 C1 l1 p1 => (gN 13 nd)) (fun s1 H1 C1 l1 p1 => (ptsd_one (PW.pt (ptd_and (tNin (c.blk _ _ _ _ _) (eV 13) (eV 11)) (ptd_and1 (tNe (c.blk _ _ _ _ _) (eIx (c.blk _ _ _ _ _) (eV 15) (eV 13)) ped_int)))))) (fun s1 H1 C1 l1 p1 => (eIx (c.blk _ _ _ _ _) (eV 15) (eV 13))))) (pef_new (pef_lst pad_nil)))
    (pssd_one (psd_ret ped_bl))
    pssd_nil)
    (pssd_cons (sSet 16 nd (eTuple g_tuple (pad_cons (pef_new (pef_lc c.calm nd (pid_seq (eV 5)) (blkOk_by (own := [("row", 8)]) (by kernel_rfl)) (by decide) (fun s1 H1 C1 l1 p1 => (gN 8 nd)) (fun s1 H1 C1 l1 p1 => ptsd_nil) (fun s1 H1 C1 l1 p1 => (eCall C__law_pick (c.blk _ _ _ _ _) (pad_cons (eV 1) (pad_cons ped_int pad_nil)))))) pad_nil)))
    (pssd_cons (sSet 17 nd (eTuple g_tuple (pad_cons (pef_new (pef_lc c.calm nd (pid_zip (by rfl) g_zip (pad_cons (eV 5) (pad_cons (eV 16) pad_nil))) (blkOk_by (own := [("row", 8), ("number", 6)]) (by kernel_rfl)) (by decide) (fun s1 H1 C1 l1 p1 => (gT (c.blk _ _ _ _ _) (pgsd_cons (gN 8 nd) (pgsd_cons (gN 6 nd) pgsd_nil)))) (fun s1 H1 C1 l1 p1 => ptsd_nil) (fun s1 H1 C1 l1 p1 => (ped_bin od_add (eV 8) (ped_tup (pad_cons (eV 6) pad_nil)))))) pad_nil)))
    (pssd_cons (sSet 15 nd (eCall C_led_to c (pad_cons (eV 5) (pad_cons (eV 16) (pad_cons (eV 2) (pad_cons (eV 4) pad_nil))))))
    (pssd_cons (psd_if (tNe c (eIs (eV 15) ped_non) (eGt (eCall C__law_rank c (pad_cons (eV 17) (pad_cons (eV 2) pad_nil))) (eV 9)))
    (pssd_one (psd_ret ped_bl))
    pssd_nil)
    (pssd_cons (psd_if (PW.pt (ptd_and (tIsn (eV 15) ped_non) (ptd_and1 (tNe c (eCall C__law_led c (pad_cons (eV 5) (pad_cons (eV 15) (pad_cons (eV 2) pad_nil)))) (eTuple g_tuple (pad_cons (pef_new (pef_lc c.calm nd (pid_seq (eV 16)) (blkOk_by (own := [("number", 6)]) (by kernel_rfl)) (by decide) (fun s1 H1 C1 l1 p1 => (gN 6 nd)) (fun s1 H1 C1 l1 p1 => ptsd_nil) (fun s1 H1 C1 l1 p1 => (ped_bin od_mod (eInt g_int (pad_cons (eV 6) pad_nil)) (eV 2))))) pad_nil))))))
    (pssd_one (psd_ret ped_bl))
    pssd_nil)
    (pssd_cons (sSet 18 nd (eCall C__law_drawn c (pad_cons (eV 1) (pad_cons (eV 4) (pad_cons (ped_bin od_add ped_int (eCall C__law_pick c (pad_cons (eV 1) (pad_cons ped_int pad_nil)))) (pad_cons (pef_new (pef_lst (pad_cons ped_int (pad_cons ped_int (pad_cons ped_int (pad_cons (ped_neg ped_int) (pad_cons (ped_bin od_sub (eV 2) ped_int) pad_nil))))))) pad_nil))))))
    (pssd_cons (sSet 19 nd (eTuple g_tuple (pad_cons (pef_new (pef_lc c.calm nd (pid_seq (eCall C__law_product c (pad_cons (eV 5) (pad_cons (eV 18) pad_nil)))) (blkOk_by (own := [("row", 8)]) (by kernel_rfl)) (by decide) (fun s1 H1 C1 l1 p1 => (gN 8 nd)) (fun s1 H1 C1 l1 p1 => ptsd_nil) (fun s1 H1 C1 l1 p1 => (eTuple g_tuple (pad_cons (pef_new (pef_lc (c.blk _ _ _ _ _).calm nd (pid_seq (eV 8)) (blkOk_by (own := [("number", 6)]) (by kernel_rfl)) (by decide) (fun s2 H2 C2 l2 p2 => (gN 6 nd)) (fun s2 H2 C2 l2 p2 => ptsd_nil) (fun s2 H2 C2 l2 p2 => (ped_bin od_mod (eInt g_int (pad_cons (eV 6) pad_nil)) (eV 2))))) pad_nil))))) pad_nil)))
    (pssd_cons (psd_if (tNe c (eRepr c g_repr (pad_cons (eCall C_product_at c (pad_cons (eV 5) (pad_cons (eV 18) (pad_cons (eV 2) pad_nil)))) pad_nil)) (eRepr c g_repr (pad_cons (eV 19) pad_nil)))
    (pssd_one (psd_ret ped_bl))
    pssd_nil)
    (pssd_cons (sSet 20 nd (eCall C__law_drawn c (pad_cons (eV 1) (pad_cons (eV 4) (pad_cons (eV 4) (pad_cons (pef_new (pef_lst (pad_cons ped_int (pad_cons ped_int (pad_cons ped_int (pad_cons (ped_neg ped_int) (pad_cons ped_int (pad_cons (eV 2) (pad_cons ped_int pad_nil))))))))) pad_nil))))))
    (pssd_cons (sSet 21 nd (eCall C_undone_at c (pad_cons (eV 20) (pad_cons (eV 2) pad_nil))))
    (pssd_cons (psd_if (tNe c (eIs (eV 21) ped_non) (eLt (eCall C__law_rank c (pad_cons (eV 20) (pad_cons (eV 2) pad_nil))) (eV 4)))
    (pssd_one (psd_ret ped_bl))
    pssd_nil)
    (pssd_cons (sSet 22 nd (eCall C__law_one c (pad_cons (eV 4) pad_nil)))
    (pssd_one (psd_ret (ped_or (eIs (eV 21) ped_non) (ped_one (eEq c (eRepr c g_repr (pad_cons (pef_new (pef_lst (pad_cons (eCall C_product_at c (pad_cons (eV 20) (pad_cons (eV 21) (pad_cons (eV 2) pad_nil)))) (pad_cons (eCall C_product_at c (pad_cons (eV 21) (pad_cons (eV 20) (pad_cons (eV 2) pad_nil)))) pad_nil)))) pad_nil)) (eRepr c g_repr (pad_cons (pef_new (pef_lst (pad_cons (eV 22) (pad_cons (eV 22) pad_nil)))) pad_nil))))))))))))))))))))))))))))))))))))))
/-! the head -/
def fn : List He.DefD := [⟨("table_rests", none), "table_rests", "table_rests", defArgs s_table_rests, defBody s_table_rests, defScope s_table_rests, [], []⟩,
  ⟨("columns_of", none), "columns_of", "columns_of", defArgs s_columns_of, defBody s_columns_of, defScope s_columns_of, [], []⟩,
  ⟨("product_at", none), "product_at", "product_at", defArgs s_product_at, defBody s_product_at, defScope s_product_at, [], []⟩,
  ⟨("one_over", none), "one_over", "one_over", defArgs s_one_over, defBody s_one_over, defScope s_one_over, [], []⟩,
  ⟨("row_off", none), "row_off", "row_off", defArgs s_row_off, defBody s_row_off, defScope s_row_off, [], []⟩,
  ⟨("steps_at", none), "steps_at", "steps_at", defArgs s_steps_at, defBody s_steps_at, defScope s_steps_at, [], []⟩,
  ⟨("rank_at", none), "rank_at", "rank_at", defArgs s_rank_at, defBody s_rank_at, defScope s_rank_at, [], []⟩,
  ⟨("made_nothing", none), "made_nothing", "made_nothing", defArgs s_made_nothing, defBody s_made_nothing, defScope s_made_nothing, [], []⟩,
  ⟨("thing_led", none), "thing_led", "thing_led", defArgs s_thing_led, defBody s_thing_led, defScope s_thing_led, [], []⟩,
  ⟨("led_to", none), "led_to", "led_to", defArgs s_led_to, defBody s_led_to, defScope s_led_to, [], []⟩,
  ⟨("undone_at", none), "undone_at", "undone_at", defArgs s_undone_at, defBody s_undone_at, defScope s_undone_at, [], []⟩,
  ⟨("_law_source", none), "_law_source", "_law_source", defArgs s__law_source, defBody s__law_source, defScope s__law_source, [], []⟩,
  ⟨("_law_pick", none), "_law_pick", "_law_pick", defArgs s__law_pick, defBody s__law_pick, defScope s__law_pick, [], []⟩,
  ⟨("_law_of", none), "_law_of", "_law_of", defArgs s__law_of, defBody s__law_of, defScope s__law_of, [], []⟩,
  ⟨("_law_product", none), "_law_product", "_law_product", defArgs s__law_product, defBody s__law_product, defScope s__law_product, [], []⟩,
  ⟨("_law_one", none), "_law_one", "_law_one", defArgs s__law_one, defBody s__law_one, defScope s__law_one, [], []⟩,
  ⟨("_law_drawn", none), "_law_drawn", "_law_drawn", defArgs s__law_drawn, defBody s__law_drawn, defScope s__law_drawn, [], []⟩,
  ⟨("_law_undone_at", none), "_law_undone_at", "_law_undone_at", defArgs s__law_undone_at, defBody s__law_undone_at, defScope s__law_undone_at, [], []⟩,
  ⟨("_law_rank", none), "_law_rank", "_law_rank", defArgs s__law_rank, defBody s__law_rank, defScope s__law_rank, [], []⟩,
  ⟨("_law_led", none), "_law_led", "_law_led", defArgs s__law_led, defBody s__law_led, defScope s__law_led, [], []⟩,
  ⟨("_law_steps_right", none), "_law_steps_right", "_law_steps_right", defArgs s__law_steps_right, defBody s__law_steps_right, defScope s__law_steps_right, [], []⟩,
  ⟨("_law_made_right", none), "_law_made_right", "_law_made_right", defArgs s__law_made_right, defBody s__law_made_right, defScope s__law_made_right, [], []⟩,
  ⟨("law", none), "law", "law", defArgs s_law, defBody s_law, defScope s_law, [], []⟩]
def fa : List He.Fa := [.glo "table_rests", .glo "columns_of", .glo "product_at", .glo "one_over", .glo "row_off", .glo "steps_at", .glo "rank_at", .glo "made_nothing", .glo "thing_led", .glo "led_to", .glo "undone_at", .glo "_law_source", .glo "_law_pick", .glo "_law_of", .glo "_law_product", .glo "_law_one", .glo "_law_drawn", .glo "_law_undone_at", .glo "_law_rank", .glo "_law_led", .glo "_law_steps_right", .glo "_law_made_right", .glo "law", .free "abs", .free "dict", .free "enumerate", .free "int", .free "len", .free "list", .free "max", .free "range", .free "repr", .free "sorted", .free "sum", .free "tuple", .free "zip"]
def cs : List ExcD := []
def ex (K : PySem.W.Frag) : Bool := true
abbrev PP : Program := PySem.Challenge.pw_forthandback_k15_what_is_made_nothing
abbrev RR : PySem.W.OpenRow := PySem.W.OpenLaw.row PySem.Challenge.rw_forthandback_k15_what_is_made_nothing
abbrev hk : PySem.W.Hook := hookE PP 6 fa fn cs ex
def ob (s : PySem.W.SharedT) : AlE := obsE PP 6 fa fn cs ex (HandSHeadRun.getT s)
theorem ob_eq (s : PySem.W.SharedT) : ob s = hk.obs s.abs := obsE_eq (HandSHeadRun.getT_eq s)
def loose : List PySem.Str := (["table_rests", "columns_of", "product_at", "one_over", "row_off", "steps_at", "rank_at", "made_nothing", "thing_led", "led_to", "undone_at", "_law_source", "_law_pick", "_law_of", "_law_product", "_law_turned", "_law_one", "_law_drawn", "_law_undone_at", "_law_rank", "_law_led", "_law_steps_right", "_law_made_right"] : List PySem.Str)
theorem run (w : World) : HandSHeadRun.RunEq RR (PySem.W.view RR.prog [25]) hk ob 3000 loose w := by
  intro os
  kernel_rfl
theorem facts {w : World} {K : PySem.W.Frag} {h : Heap} {mg : Str → Option Value} {f : Addr} (X : K.In h) (G : h.Ns mainGlobals mg) (hfa : mg ("law" : Str) = some (.ref f)) (c : SaysE PP fa fn cs ex K) :
    ∃ fd : FuncData, (∀ (s : Shared) (v : Value), BindsTo s fd ⟨[v], []⟩ [("script", v)]) ∧ ∀ base : Heap, K.In base → base.Ns mainGlobals mg → FnG PP w K mg base 5 f fd ["script"] f_law := by
  obtain ⟨fd, F⟩ := c.d.def_ 22
  have e := hfa.symm.trans (He.glo_ok X G (c.d.fact 22 (f := .glo "law") rfl))
  cases e
  have g_abs := He.free_ok X G (c.d.fact 23 (f := .free "abs") rfl)
  have g_dict := He.free_ok X G (c.d.fact 24 (f := .free "dict") rfl)
  have g_enumerate := He.free_ok X G (c.d.fact 25 (f := .free "enumerate") rfl)
  have g_int := He.free_ok X G (c.d.fact 26 (f := .free "int") rfl)
  have g_len := He.free_ok X G (c.d.fact 27 (f := .free "len") rfl)
  have g_list := He.free_ok X G (c.d.fact 28 (f := .free "list") rfl)
  have g_max := He.free_ok X G (c.d.fact 29 (f := .free "max") rfl)
  have g_range := He.free_ok X G (c.d.fact 30 (f := .free "range") rfl)
  have g_repr := He.free_ok X G (c.d.fact 31 (f := .free "repr") rfl)
  have g_sorted := He.free_ok X G (c.d.fact 32 (f := .free "sorted") rfl)
  have g_sum := He.free_ok X G (c.d.fact 33 (f := .free "sum") rfl)
  have g_tuple := He.free_ok X G (c.d.fact 34 (f := .free "tuple") rfl)
  have g_zip := He.free_ok X G (c.d.fact 35 (f := .free "zip") rfl)
  have D_table_rests : DefFact K mg "table_rests" s_table_rests := by
    obtain ⟨fd1, F1⟩ := c.d.def_ 0
    exact ⟨_, fd1, F1, He.glo_ok X G (c.d.fact 0 (f := .glo "table_rests") rfl)⟩
  have D_columns_of : DefFact K mg "columns_of" s_columns_of := by
    obtain ⟨fd1, F1⟩ := c.d.def_ 1
    exact ⟨_, fd1, F1, He.glo_ok X G (c.d.fact 1 (f := .glo "columns_of") rfl)⟩
  have D_product_at : DefFact K mg "product_at" s_product_at := by
    obtain ⟨fd1, F1⟩ := c.d.def_ 2
    exact ⟨_, fd1, F1, He.glo_ok X G (c.d.fact 2 (f := .glo "product_at") rfl)⟩
  have D_one_over : DefFact K mg "one_over" s_one_over := by
    obtain ⟨fd1, F1⟩ := c.d.def_ 3
    exact ⟨_, fd1, F1, He.glo_ok X G (c.d.fact 3 (f := .glo "one_over") rfl)⟩
  have D_row_off : DefFact K mg "row_off" s_row_off := by
    obtain ⟨fd1, F1⟩ := c.d.def_ 4
    exact ⟨_, fd1, F1, He.glo_ok X G (c.d.fact 4 (f := .glo "row_off") rfl)⟩
  have D_steps_at : DefFact K mg "steps_at" s_steps_at := by
    obtain ⟨fd1, F1⟩ := c.d.def_ 5
    exact ⟨_, fd1, F1, He.glo_ok X G (c.d.fact 5 (f := .glo "steps_at") rfl)⟩
  have D_rank_at : DefFact K mg "rank_at" s_rank_at := by
    obtain ⟨fd1, F1⟩ := c.d.def_ 6
    exact ⟨_, fd1, F1, He.glo_ok X G (c.d.fact 6 (f := .glo "rank_at") rfl)⟩
  have D_made_nothing : DefFact K mg "made_nothing" s_made_nothing := by
    obtain ⟨fd1, F1⟩ := c.d.def_ 7
    exact ⟨_, fd1, F1, He.glo_ok X G (c.d.fact 7 (f := .glo "made_nothing") rfl)⟩
  have D_thing_led : DefFact K mg "thing_led" s_thing_led := by
    obtain ⟨fd1, F1⟩ := c.d.def_ 8
    exact ⟨_, fd1, F1, He.glo_ok X G (c.d.fact 8 (f := .glo "thing_led") rfl)⟩
  have D_led_to : DefFact K mg "led_to" s_led_to := by
    obtain ⟨fd1, F1⟩ := c.d.def_ 9
    exact ⟨_, fd1, F1, He.glo_ok X G (c.d.fact 9 (f := .glo "led_to") rfl)⟩
  have D_undone_at : DefFact K mg "undone_at" s_undone_at := by
    obtain ⟨fd1, F1⟩ := c.d.def_ 10
    exact ⟨_, fd1, F1, He.glo_ok X G (c.d.fact 10 (f := .glo "undone_at") rfl)⟩
  have D__law_source : DefFact K mg "_law_source" s__law_source := by
    obtain ⟨fd1, F1⟩ := c.d.def_ 11
    exact ⟨_, fd1, F1, He.glo_ok X G (c.d.fact 11 (f := .glo "_law_source") rfl)⟩
  have D__law_pick : DefFact K mg "_law_pick" s__law_pick := by
    obtain ⟨fd1, F1⟩ := c.d.def_ 12
    exact ⟨_, fd1, F1, He.glo_ok X G (c.d.fact 12 (f := .glo "_law_pick") rfl)⟩
  have D__law_of : DefFact K mg "_law_of" s__law_of := by
    obtain ⟨fd1, F1⟩ := c.d.def_ 13
    exact ⟨_, fd1, F1, He.glo_ok X G (c.d.fact 13 (f := .glo "_law_of") rfl)⟩
  have D__law_product : DefFact K mg "_law_product" s__law_product := by
    obtain ⟨fd1, F1⟩ := c.d.def_ 14
    exact ⟨_, fd1, F1, He.glo_ok X G (c.d.fact 14 (f := .glo "_law_product") rfl)⟩
  have D__law_one : DefFact K mg "_law_one" s__law_one := by
    obtain ⟨fd1, F1⟩ := c.d.def_ 15
    exact ⟨_, fd1, F1, He.glo_ok X G (c.d.fact 15 (f := .glo "_law_one") rfl)⟩
  have D__law_drawn : DefFact K mg "_law_drawn" s__law_drawn := by
    obtain ⟨fd1, F1⟩ := c.d.def_ 16
    exact ⟨_, fd1, F1, He.glo_ok X G (c.d.fact 16 (f := .glo "_law_drawn") rfl)⟩
  have D__law_undone_at : DefFact K mg "_law_undone_at" s__law_undone_at := by
    obtain ⟨fd1, F1⟩ := c.d.def_ 17
    exact ⟨_, fd1, F1, He.glo_ok X G (c.d.fact 17 (f := .glo "_law_undone_at") rfl)⟩
  have D__law_rank : DefFact K mg "_law_rank" s__law_rank := by
    obtain ⟨fd1, F1⟩ := c.d.def_ 18
    exact ⟨_, fd1, F1, He.glo_ok X G (c.d.fact 18 (f := .glo "_law_rank") rfl)⟩
  have D__law_led : DefFact K mg "_law_led" s__law_led := by
    obtain ⟨fd1, F1⟩ := c.d.def_ 19
    exact ⟨_, fd1, F1, He.glo_ok X G (c.d.fact 19 (f := .glo "_law_led") rfl)⟩
  have D__law_steps_right : DefFact K mg "_law_steps_right" s__law_steps_right := by
    obtain ⟨fd1, F1⟩ := c.d.def_ 20
    exact ⟨_, fd1, F1, He.glo_ok X G (c.d.fact 20 (f := .glo "_law_steps_right") rfl)⟩
  have D__law_made_right : DefFact K mg "_law_made_right" s__law_made_right := by
    obtain ⟨fd1, F1⟩ := c.d.def_ 21
    exact ⟨_, fd1, F1, He.glo_ok X G (c.d.fact 21 (f := .glo "_law_made_right") rfl)⟩
  have b := FunD.bindsA (ps := ["script"]) F fun _ _ _ _ _ _ us hl => match us, hl with | [_], _ => rfl
  refine ⟨fd, fun s v => b s [v] rfl, fun base _ _ => ?_⟩
  have C_table_rests : CalleeG PP w K mg base "table_rests" 1 ["table", "prime"] f_table_rests := ok_table_rests D_table_rests g_tuple
  have C_columns_of : CalleeG PP w K mg base "columns_of" 1 ["table"] f_columns_of := ok_columns_of D_columns_of g_len g_range g_tuple
  have C_one_over : CalleeG PP w K mg base "one_over" 1 ["number", "prime"] f_one_over := ok_one_over D_one_over 
  have C_row_off : CalleeG PP w K mg base "row_off" 1 ["row", "head", "place", "prime"] f_row_off := ok_row_off D_row_off g_zip
  have C_thing_led : CalleeG PP w K mg base "thing_led" 1 ["table", "thing", "prime"] f_thing_led := ok_thing_led D_thing_led g_sum g_tuple g_zip
  have C__law_source : CalleeG PP w K mg base "_law_source" 1 ["script"] f__law_source := ok__law_source D__law_source g_abs g_int
  have C__law_pick : CalleeG PP w K mg base "_law_pick" 1 ["source", "many"] f__law_pick := ok__law_pick D__law_pick g_int g_len g_max
  have C__law_product : CalleeG PP w K mg base "_law_product" 1 ["one", "other"] f__law_product := ok__law_product D__law_product g_len g_range g_sum g_tuple g_zip
  have C__law_one : CalleeG PP w K mg base "_law_one" 1 ["many"] f__law_one := ok__law_one D__law_one g_int g_range g_tuple
  have C__law_undone_at : CalleeG PP w K mg base "_law_undone_at" 1 ["number", "p"] f__law_undone_at := ok__law_undone_at D__law_undone_at g_int
  have C__law_led : CalleeG PP w K mg base "_law_led" 1 ["table", "thing", "p"] f__law_led := ok__law_led D__law_led g_int g_sum g_tuple g_zip
  have C__law_steps_right : CalleeG PP w K mg base "_law_steps_right" 1 ["steps", "heads", "many", "p"] f__law_steps_right := ok__law_steps_right D__law_steps_right g_dict g_enumerate g_len g_list g_sorted
  have C_product_at : CalleeG PP w K mg base "product_at" 2 ["one", "other", "prime"] f_product_at := ok_product_at D_product_at g_sum g_tuple g_zip C_columns_of
  have C_steps_at : CalleeG PP w K mg base "steps_at" 2 ["table", "prime"] f_steps_at := ok_steps_at D_steps_at g_enumerate g_len g_list g_range g_tuple C_table_rests C_one_over C_row_off
  have C__law_of : CalleeG PP w K mg base "_law_of" 2 ["source", "some"] f__law_of := ok__law_of D__law_of g_len C__law_pick
  have C__law_rank : CalleeG PP w K mg base "_law_rank" 2 ["table", "p"] f__law_rank := ok__law_rank D__law_rank g_enumerate g_int g_len g_range g_zip C__law_undone_at
  have C_rank_at : CalleeG PP w K mg base "rank_at" 3 ["table", "prime"] f_rank_at := ok_rank_at D_rank_at g_len C_steps_at
  have C_made_nothing : CalleeG PP w K mg base "made_nothing" 3 ["table", "prime", "many"] f_made_nothing := ok_made_nothing D_made_nothing g_int g_range g_tuple g_zip C_steps_at
  have C_led_to : CalleeG PP w K mg base "led_to" 3 ["table", "thing", "prime", "many"] f_led_to := ok_led_to D_led_to g_tuple g_zip C_steps_at
  have C_undone_at : CalleeG PP w K mg base "undone_at" 3 ["table", "prime"] f_undone_at := ok_undone_at D_undone_at g_enumerate g_int g_len g_range g_tuple C_steps_at
  have C__law_drawn : CalleeG PP w K mg base "_law_drawn" 3 ["source", "rows", "columns", "some"] f__law_drawn := ok__law_drawn D__law_drawn g_range g_tuple C__law_of
  have C__law_made_right : CalleeG PP w K mg base "_law_made_right" 4 ["source", "table", "p", "many", "heads"] f__law_made_right := ok__law_made_right D__law_made_right g_int g_len g_range g_sum g_tuple g_zip C_made_nothing C__law_pick C__law_led
  exact ok_law F g_int g_len g_range g_repr g_tuple g_zip C_table_rests C_product_at C_steps_at C_rank_at C_thing_led C_led_to C_undone_at C__law_source C__law_pick C__law_of C__law_product C__law_one C__law_drawn C__law_rank C__law_led C__law_steps_right C__law_made_right
theorem law_holds (hL : LawD 63 f_law) : PySem.Challenge.rw_forthandback_k15_what_is_made_nothing.Holds := by
  w_on; o_law
  refine HandSHeadRun.head_any (r := RR) (q := PySem.W.view RR.prog [25]) (H := hk) (ob := ob) (M := 3000) (loose := loose) (d := HandSHeadRun.topDef RR.prog 25) (kwd := []) ob_eq
    (by kernel_rfl) (fun s => by kernel_rfl) run (by kernel_rfl) (by kernel_rfl) (by kernel_rfl) (by rfl) (by first | assumption | decide +kernel) (by decide +kernel) ⟨rfl, rfl, rfl, rfl, rfl, by decide +kernel⟩ ?hw ?hc
  case hw => w_witness2
  case hc =>
    refine walkG (l := PySem.Challenge.rw_forthandback_k15_what_is_made_nothing) (n := 63) (k := 5) (x := "script") rfl (by decide) (by kernel_rfl) ⟨rfl, by decide, by decide⟩ ?F
    intro w mg fa h Y G hmg0
    obtain ⟨K, KX, c⟩ := Y
    have hmg : mg ("law" : PySem.Str) = some (.ref fa) := by
      have e : (HandSHeadRun.topDef RR.prog 25).name = ("law" : PySem.Str) := by kernel_rfl
      rw [← e]
      exact hmg0
    obtain ⟨fd, hb, hF⟩ := facts (w := w) KX G hmg c
    exact ⟨K, fd, f_law, KX, hb, hL, hF⟩
end Kn
end
section
namespace Pd
open PySem PySem.Spec L2
/-! ### the laws' drawing: the mirrors as gen.py prints them in every law -/
noncomputable def b__law_source : DS :=
    (seqS (asgS (cD (.int 11)) (.nm 1))
    (seqS (forS (seqSrc' (varD 0)) (.nm 2)
    (asgS (binD modI (callB dcInt (consL (binD addD (binD addD (binD mulX (varD 1) (cD (.int 69069))) (binD mulX (varD 2) (cD (.int 31)))) (cD (.int 5))) nilL)) (cD (.int 2147483629))) (.nm 1)))
    (retS (boxD (dispD [((cD (.str "cells")), (boxD (revL (newD (lcD [2] (seqSrc' (varD 0)) (.nm 2) yesB (callB dcAbs (consL (varD 2) nilL))))))), ((cD (.str "left")), (cD (.int 1))), ((cD (.str "mixed")), (varD 1)), ((cD (.str "turn")), (cD (.int 0)))])))))
noncomputable def f__law_source : DC := bodyR b__law_source 3
noncomputable def b__law_pick : DS :=
    (seqS (whS (andB (tstD (binD (cmpI fun i j => decide (j < i)) (varD 1) (cD (.int 1)))) (andB (tstD (binD (cmpI fun i j => decide (i < j)) (binD ixD (varD 0) (cD (.str "left"))) (cD (.int 2)))) (tstD (binD (cmpI fun i j => decide (j < i)) (callB dcLen (consL (binD ixD (varD 0) (cD (.str "cells"))) nilL)) (cD (.int 0))))))
    (setS (meth0 .lst dmPop (binD ixD (varD 0) (cD (.str "cells")))) (varD 0) (cD (.str "left"))))
    (seqS (asgS (binD ixD (varD 0) (cD (.str "left"))) (.nm 2))
    (seqS (ifS (orB (tstD (binD (cmpI fun i j => decide (i < j)) (varD 1) (cD (.int 2)))) (tstD (binD (cmpI fun i j => decide (j < i)) (varD 2) (cD (.int 1)))))
    (seqS (setS (binD fdivI (varD 2) (callB dcMax2 (consL (cD (.int 1)) (consL (varD 1) nilL)))) (varD 0) (cD (.str "left")))
    (retS (binD modI (callB dcInt (consL (varD 2) nilL)) (callB dcMax2 (consL (cD (.int 1)) (consL (varD 1) nilL))))))
    nxS)
    (seqS (setS (binD addD (binD ixD (varD 0) (cD (.str "turn"))) (cD (.int 1))) (varD 0) (cD (.str "turn")))
    (seqS (asgS (binD modI (callB dcInt (consL (binD addD (binD ixD (varD 0) (cD (.str "mixed"))) (binD mulX (binD ixD (varD 0) (cD (.str "turn"))) (cD (.int 104729)))) nilL)) (cD (.int 998244353))) (.nm 3))
    (seqS (asgS (binD modI (callB dcInt (consL (binD addD (binD mulX (varD 3) (varD 3)) (binD mulX (binD ixD (varD 0) (cD (.str "turn"))) (cD (.int 17)))) nilL)) (cD (.int 2147483647))) (.nm 3))
    (seqS (setS (varD 3) (varD 0) (cD (.str "mixed")))
    (retS (binD modI (callB dcInt (consL (binD fdivI (varD 3) (cD (.int 16))) nilL)) (varD 1))))))))))
noncomputable def f__law_pick : DC := bodyR b__law_pick 4
noncomputable def b__law_of : DS :=
    (retS (binD ixD (varD 1) (callB (callN 2 f__law_pick) (consL (varD 0) (consL (callB dcLen (consL (varD 1) nilL)) nilL)))))
noncomputable def f__law_of : DC := bodyR b__law_of 2
/-! ### the plain machine, by simp -/
section
variable {α β : Type}
theorem bindR_ok {a : α} {μ : Mu} {f : α → Mu → R β} : bindR (ok a μ) f = f a μ := rfl
theorem bindR_none {f : α → Mu → R β} : bindR (none : R α) f = none := rfl
theorem lifA_ok {f : Sl → Mu → R α} {k : Sl → α → Mu → Option OutS} {sl : Sl} {μ μ1 : Mu} {a : α} (h : f sl μ = ok a μ1) : lifA f k sl μ = k sl a μ1 := by unfold lifA; rw [h]; rfl
theorem seqS_nx {f g : DS} {sl sl1 : Sl} {μ μ1 : Mu} (h : f sl μ = some (.nx sl1 μ1)) : seqS f g sl μ = g sl1 μ1 := by unfold seqS; rw [h]
theorem seqS_rt {f g : DS} {sl : Sl} {d : D} {μ μ1 : Mu} (h : f sl μ = some (.rt d μ1)) : seqS f g sl μ = some (.rt d μ1) := by unfold seqS; rw [h]
theorem seqS_ct {f g : DS} {sl sl1 : Sl} {μ μ1 : Mu} (h : f sl μ = some (.ct sl1 μ1)) : seqS f g sl μ = some (.ct sl1 μ1) := by unfold seqS; rw [h]
theorem whF_go {c : Sl → Mu → R Bool} {body : DS} {n : Nat} {sl sl2 : Sl} {μ μ1 μ2 : Mu} (hc : c sl μ = ok true μ1) (hb : body sl μ1 = some (.nx sl2 μ2) ∨ body sl μ1 = some (.ct sl2 μ2)) : whF c body (n + 1) sl μ = whF c body n sl2 μ2 := by
  rw [whF, hc]
  rcases hb with hb | hb <;> simp only [ok, hb]
theorem whF_end {c : Sl → Mu → R Bool} {body : DS} {n : Nat} {sl : Sl} {μ μ1 : Mu} (hc : c sl μ = ok false μ1) : whF c body (n + 1) sl μ = some (.nx sl μ1) := by
  rw [whF, hc]; rfl
end
def runA {α : Type} (r : R α) (g : α → Mu → Option OutS) (sl : Sl) : Option OutS := match r with
  | some (.ok a μ1) => g a μ1
  | some (.exc x μ1) => some (.exc x sl μ1)
  | none => none
def seqR (o : Option OutS) (g : DS) : Option OutS := match o with
  | some (.nx sl1 μ1) => g sl1 μ1
  | o => o
section
variable {α : Type} {f : Sl → Mu → R α} {k : Sl → α → Mu → Option OutS} {sl sl1 : Sl} {μ μ1 : Mu} {a : α} {g : α → Mu → Option OutS} {s t : DS} {d : D} {x : Exn}
theorem lifA_run : lifA f k sl μ = runA (f sl μ) (k sl) sl := rfl
theorem runA_ok : runA (ok a μ) g sl = g a μ := rfl
theorem runA_exc : runA (some (.exc x μ)) g sl = some (.exc x sl μ) := rfl
theorem seqS_run : seqS s t sl μ = seqR (s sl μ) t := rfl
theorem seqR_nx : seqR (some (.nx sl μ)) t = t sl μ := rfl
theorem seqR_rt : seqR (some (.rt d μ)) t = some (.rt d μ) := rfl
theorem seqR_ct : seqR (some (.ct sl μ)) t = some (.ct sl μ) := rfl
theorem seqR_bk : seqR (some (.bk sl μ)) t = some (.bk sl μ) := rfl
theorem seqR_exc : seqR (some (.exc x sl μ)) t = some (.exc x sl μ) := rfl
theorem nxS_run : nxS sl μ = some (.nx sl μ) := rfl
theorem ctS_run : ctS sl μ = some (.ct sl μ) := rfl
theorem bkS_run : bkS sl μ = some (.bk sl μ) := rfl
theorem varD_none {i : Nat} (h : sl[i]? = some (some d)) : varD i sl μ = ok d μ := by unfold varD; rw [h]
theorem bindR_exc {β : Type} {f : α → Mu → R β} : bindR (some (.exc x μ)) f = some (.exc x μ) := rfl
end

/-! ### where the numbers are drawn from -/
def keysS : List Key := [.inr "cells", .inr "left", .inr "mixed", .inr "turn"]
structure SrcAt (μ : Mu) (l c : Nat) (cs : List Int) (a m t : Int) : Prop where
  hl : μ[l]? = some (some (.dic keysS [.ref c, .int a, .int m, .int t]))
  hc : μ[c]? = some (some (.lst (cs.map D.int)))
theorem SrcAt.ne {μ : Mu} {l c : Nat} {cs : List Int} {a m t : Int} (h : SrcAt μ l c cs a m t) : l ≠ c := fun z => by
  have h1 := h.hl
  rw [z, h.hc] at h1
  cases h1
section
variable {μ : Mu} {l c : Nat} {cs : List Int} {a m t : Int}
theorem src_left (h : SrcAt μ l c cs a m t) : ixD (.ref l) (.str "left") μ = ok (.int a) μ := by
  simp only [ixD, dicOf, h.hl]; rfl
theorem src_mixed (h : SrcAt μ l c cs a m t) : ixD (.ref l) (.str "mixed") μ = ok (.int m) μ := by
  simp only [ixD, dicOf, h.hl]; rfl
theorem src_turn (h : SrcAt μ l c cs a m t) : ixD (.ref l) (.str "turn") μ = ok (.int t) μ := by
  simp only [ixD, dicOf, h.hl]; rfl
theorem src_cells (h : SrcAt μ l c cs a m t) : ixD (.ref l) (.str "cells") μ = ok (.ref c) μ := by
  simp only [ixD, dicOf, h.hl]; rfl
def putS (μ : Mu) (l c : Nat) (a m t : Int) : Mu := μ.set l (some (.dic keysS [.ref c, .int a, .int m, .int t]))
theorem set_left (h : SrcAt μ l c cs a m t) (x : Int) : setD (.ref l) (.str "left") (.int x) μ = some (putS μ l c x m t) := by
  simp only [setD, h.hl, keyOf]; rfl
theorem set_mixed (h : SrcAt μ l c cs a m t) (x : Int) : setD (.ref l) (.str "mixed") (.int x) μ = some (putS μ l c a x t) := by
  simp only [setD, h.hl, keyOf]; rfl
theorem set_turn (h : SrcAt μ l c cs a m t) (x : Int) : setD (.ref l) (.str "turn") (.int x) μ = some (putS μ l c a m x) := by
  simp only [setD, h.hl, keyOf]; rfl
theorem SrcAt.put (h : SrcAt μ l c cs a m t) (a' m' t' : Int) : SrcAt (putS μ l c a' m' t') l c cs a' m' t' := by
  have hl := (List.getElem?_eq_some_iff.mp h.hl).1
  refine ⟨List.getElem?_set_self hl, ?_⟩
  unfold putS
  rw [List.getElem?_set_ne h.ne]; exact h.hc
theorem src_pop {x : Int} (h : SrcAt μ l c (cs ++ [x]) a m t) : dmPop (.ref c) [] μ = ok (.int x) (setL μ c (cs.map D.int)) := by
  simp [dmPop, rawL, h.hc]
theorem SrcAt.popped {x : Int} (h : SrcAt μ l c (cs ++ [x]) a m t) : SrcAt (setL μ c (cs.map D.int)) l c cs a m t := by
  have hc := (List.getElem?_eq_some_iff.mp h.hc).1
  refine ⟨?_, List.getElem?_set_self hc⟩
  unfold setL
  rw [List.getElem?_set_ne (Ne.symm h.ne)]; exact h.hl
end
end Pd
end
section
namespace Pd
open PySem PySem.Spec L2
theorem bits_le {i : Int} {k : Nat} (h : i.natAbs < 2 ^ k) : Builtin.Int.intBits i ≤ k := by
  unfold Builtin.Int.intBits
  split
  · exact Nat.zero_le _
  · rename_i hi
    have : i.natAbs ≠ 0 := by simpa using hi
    have := (Nat.log2_lt this).mpr h
    omega
theorem mulOk_small {i j : Int} (hi : i.natAbs < 2 ^ 64) (hj : j.natAbs < 2 ^ 64) : mulOk i j = true := by
  unfold mulOk
  have := bits_le hi
  have := bits_le hj
  exact decide_eq_true (by omega)
section
variable {μ : Mu} {l c : Nat} {cs : List Int} {a m t many : Int}
def pickC : Sl → Mu → R Bool := (andB (tstD (binD (cmpI fun i j => decide (j < i)) (varD 1) (cD (.int 1)))) (andB (tstD (binD (cmpI fun i j => decide (i < j)) (binD ixD (varD 0) (cD (.str "left"))) (cD (.int 2)))) (tstD (binD (cmpI fun i j => decide (j < i)) (callB dcLen (consL (binD ixD (varD 0) (cD (.str "cells"))) nilL)) (cD (.int 0))))))
def pickB : DS := (setS (meth0 .lst dmPop (binD ixD (varD 0) (cD (.str "cells")))) (varD 0) (cD (.str "left")))
theorem len_cells (h : SrcAt μ l c cs a m t) : dcLen [.ref c] μ = ok (.int cs.length) μ := by
  simp only [dcLen, seqOf, lstOf, h.hc, List.length_map]
theorem pick_cond (h : SrcAt μ l c cs a m t) {x y : Option D} : pickC [some (.ref l), some (.int many), x, y] μ = ok (decide (1 < many) && (decide (a < 2) && decide (0 < cs.length))) μ := by
  unfold pickC
  simp only [lifA_run, runA_ok, runA_exc, seqS_run, seqR_nx, seqR_rt, seqR_ct, seqR_bk, seqR_exc, nxS_run, ctS_run, bkS_run, asgS, parS, retS, expS, ifS, setS, augS, varD, cD, binD, tstD, andB, orB, notB, truB, callB, callN, consL, nilL, meth0, bindR_ok, bindR_none, bindR_exc, bindT, bindTs, int2, cmpI, addD, addI, subI, mulX, mulD, mulI, fdivI, modI, dcInt, dcMax2, dcMin2, dcAbs, List.getElem?_cons_zero, List.getElem?_cons_succ, List.getElem?_nil, if_true, if_false, Bool.true_and, Bool.and_true, List.set_cons_zero, List.set_cons_succ, List.length_cons, List.length_nil, reduceIte, Nat.reduceAdd, Nat.reduceEqDiff, decide_true, decide_false, Bool.false_eq_true, src_left h, src_cells h, len_cells h]
  by_cases h1 : (1 : Int) < many
  · by_cases h2 : a < 2
    · simp [h1, h2]
    · simp [h1, h2]
  · simp [h1]
theorem pick_body {x : Int} (h : SrcAt μ l c (cs ++ [x]) a m t) {u v : Option D} : pickB [some (.ref l), some (.int many), u, v] μ = some (.nx [some (.ref l), some (.int many), u, v] (putS (setL μ c (cs.map D.int)) l c x m t)) := by
  have ht : tyD .lst μ (.ref c) = true := by simp [tyD, lstOf, h.hc]
  unfold pickB
  simp only [lifA_run, runA_ok, runA_exc, seqS_run, seqR_nx, seqR_rt, seqR_ct, seqR_bk, seqR_exc, nxS_run, ctS_run, bkS_run, asgS, parS, retS, expS, ifS, setS, augS, varD, cD, binD, tstD, andB, orB, notB, truB, callB, callN, consL, nilL, meth0, bindR_ok, bindR_none, bindR_exc, bindT, bindTs, int2, cmpI, addD, addI, subI, mulX, mulD, mulI, fdivI, modI, dcInt, dcMax2, dcMin2, dcAbs, List.getElem?_cons_zero, List.getElem?_cons_succ, List.getElem?_nil, if_true, if_false, Bool.true_and, Bool.and_true, List.set_cons_zero, List.set_cons_succ, List.length_cons, List.length_nil, reduceIte, Nat.reduceAdd, Nat.reduceEqDiff, decide_true, decide_false, Bool.false_eq_true, src_cells h, ht, src_pop h, set_left h.popped]
/-- nothing else of the store is touched -/
structure Frm (μ μ' : Mu) (l c : Nat) : Prop where
  len : μ'.length = μ.length
  at_ : ∀ j, j ≠ l → j ≠ c → μ'[j]? = μ[j]?
theorem Frm.refl : Frm μ μ l c := ⟨rfl, fun _ _ _ => rfl⟩
theorem Frm.trans {μ' μ'' : Mu} (h : Frm μ μ' l c) (h' : Frm μ' μ'' l c) : Frm μ μ'' l c := ⟨h'.len.trans h.len, fun j h1 h2 => (h'.at_ j h1 h2).trans (h.at_ j h1 h2)⟩
theorem Frm.put {a m t : Int} : Frm μ (putS μ l c a m t) l c := ⟨by simp [putS], fun j h1 _ => by unfold putS; rw [List.getElem?_set_ne (Ne.symm h1)]⟩
theorem Frm.setL {ds : List D} : Frm μ (setL μ c ds) l c := ⟨by simp [Pd.setL], fun j _ h2 => by unfold Pd.setL; rw [List.getElem?_set_ne (Ne.symm h2)]⟩
/-- the loop of _law_pick -/
theorem pick_loop {x y : Option D} : ∀ (n : Nat) (cs : List Int) (μ : Mu) (a : Int), cs.length = n → SrcAt μ l c cs a m t → (∀ z ∈ cs, 0 ≤ z) → 0 ≤ a →
    ∃ cs' a' μ', whF pickC pickB (n + 1) [some (.ref l), some (.int many), x, y] μ = some (.nx [some (.ref l), some (.int many), x, y] μ') ∧ SrcAt μ' l c cs' a' m t ∧ (∀ z ∈ cs', 0 ≤ z) ∧ 0 ≤ a' ∧ Frm μ μ' l c := by
  intro n
  induction n with
  | zero =>
    intro cs μ a hn h hp ha
    have : cs = [] := List.length_eq_zero_iff.mp hn
    subst this
    refine ⟨[], a, μ, whF_end ?_, h, hp, ha, .refl⟩
    rw [pick_cond h]
    simp
  | succ n ih =>
    intro cs μ a hn h hp ha
    by_cases hc : (decide (1 < many) && (decide (a < 2) && decide (0 < cs.length))) = true
    · rcases List.eq_nil_or_concat cs with rfl | ⟨cs', z, rfl⟩
      · simp at hn
      · rw [List.concat_eq_append] at *
        have hl : cs'.length = n := by simpa using hn
        obtain ⟨cs2, a2, μ2, e, q1, q2, q3, q4⟩ := ih cs' (putS (setL μ c (cs'.map D.int)) l c z m t) z hl (h.popped.put z m t) (fun w hw => hp w (List.mem_append_left _ hw)) (hp z (by simp))
        refine ⟨cs2, a2, μ2, ?_, q1, q2, q3, (Frm.setL.trans Frm.put).trans q4⟩
        rw [whF_go (by rw [pick_cond h, hc]) (.inl (pick_body h)), e]
    · refine ⟨cs, a, μ, whF_end ?_, h, hp, ha, .refl⟩
      rw [pick_cond h]
      simp only [Bool.not_eq_true] at hc
      rw [hc]
end
end Pd
end
section
namespace Pd
open PySem PySem.Spec L2
theorem divOk_of {i j : Int} (h0 : j ≠ 0) (h : j.natAbs.log2 < 9000) : divOk i j = true := by
  unfold divOk
  rw [decide_eq_true h0, decide_eq_true h]; rfl
section
variable {μ : Mu} {l c : Nat} {cs : List Int} {a m t many : Int}
theorem bodyR_rt {b : DS} {n : Nat} {ds : List D} {d : D} {μ' : Mu} (h : b (ds.map some ++ List.replicate (n - ds.length) none) μ = some (.rt d μ')) : bodyR b n ds μ = ok d μ' := by
  unfold bodyR; rw [h]
/-- source: the state of the drawing -/
structure SrcOk' (μ : Mu) (l c : Nat) (cs : List Int) (a m t : Int) : Prop extends SrcAt μ l c cs a m t where
  hcs : ∀ z ∈ cs, 0 ≤ z
  ha : 0 ≤ a
  hm : 0 ≤ m ∧ m < 2147483648
  ht : 0 ≤ t
theorem pick_ok (h : SrcOk' μ l c cs a m t) (ht : t < 2 ^ 40) (hmany : many.natAbs.log2 < 9000) :
    ∃ r cs' a' m' t' μ', f__law_pick [.ref l, .int many] μ = ok (.int r) μ' ∧ SrcOk' μ' l c cs' a' m' t' ∧ t' ≤ t + 1 ∧ 0 ≤ r ∧ (r < many ∨ r = 0) ∧ Frm μ μ' l c := by
  obtain ⟨cs1, a1, μ1, e1, h1, q1, q2, q3⟩ := pick_loop (many := many) (x := none) (y := none) cs.length cs μ a rfl h.toSrcAt h.hcs h.ha
  have w1 : whS pickC pickB [some (.ref l), some (.int many), none, none] μ = some (.nx [some (.ref l), some (.int many), none, none] μ1) := whS_of e1
  have hmax : ∀ μ : Mu, dcMax2 [.int 1, .int many] μ = ok (.int (if many > 1 then many else 1)) μ := fun _ => rfl
  have hmx0 : (if many > 1 then many else 1) ≠ 0 := by split <;> omega
  have hmxp : 0 < (if many > 1 then many else 1) := by split <;> omega
  have hmxd : divOk a1 (if many > 1 then many else 1) = true := divOk_of hmx0 (by split; exact hmany; decide)
  by_cases hb : many < 2 ∨ a1 > 1
  · -- the number at hand
    refine ⟨a1.fmod (if many > 1 then many else 1), cs1, a1.fdiv (if many > 1 then many else 1), m, t, putS μ1 l c (a1.fdiv (if many > 1 then many else 1)) m t, ?_, ⟨h1.put _ _ _, q1, Int.fdiv_nonneg q2 (Int.le_of_lt hmxp), h.hm, h.ht⟩, by omega, Int.fmod_nonneg_of_pos _ hmxp, ?_, q3.trans Frm.put⟩
    · refine bodyR_rt ?_
      show b__law_pick [some (.ref l), some (.int many), none, none] μ = _
      unfold b__law_pick
      refine (seqS_nx w1).trans ?_
      by_cases hm2 : many < 2
      · simp only [lifA_run, runA_ok, runA_exc, seqS_run, seqR_nx, seqR_rt, seqR_ct, seqR_bk, seqR_exc, nxS_run, ctS_run, bkS_run, asgS, parS, retS, expS, ifS, setS, augS, varD, cD, binD, tstD, andB, orB, notB, truB, callB, callN, consL, nilL, meth0, bindR_ok, bindR_none, bindR_exc, bindT, bindTs, int2, cmpI, addD, addI, subI, mulX, mulD, mulI, fdivI, modI, dcInt, dcMax2, dcMin2, dcAbs, List.getElem?_cons_zero, List.getElem?_cons_succ, List.getElem?_nil, if_true, if_false, Bool.true_and, Bool.and_true, List.set_cons_zero, List.set_cons_succ, List.length_cons, List.length_nil, reduceIte, Nat.reduceAdd, Nat.reduceEqDiff, decide_true, decide_false, Bool.false_eq_true, src_left h1, hmax, hmxd, set_left h1, decide_eq_true hm2, decide_eq_true hmx0]
      · have h2 : 1 < a1 := by omega
        simp only [lifA_run, runA_ok, runA_exc, seqS_run, seqR_nx, seqR_rt, seqR_ct, seqR_bk, seqR_exc, nxS_run, ctS_run, bkS_run, asgS, parS, retS, expS, ifS, setS, augS, varD, cD, binD, tstD, andB, orB, notB, truB, callB, callN, consL, nilL, meth0, bindR_ok, bindR_none, bindR_exc, bindT, bindTs, int2, cmpI, addD, addI, subI, mulX, mulD, mulI, fdivI, modI, dcInt, dcMax2, dcMin2, dcAbs, List.getElem?_cons_zero, List.getElem?_cons_succ, List.getElem?_nil, if_true, if_false, Bool.true_and, Bool.and_true, List.set_cons_zero, List.set_cons_succ, List.length_cons, List.length_nil, reduceIte, Nat.reduceAdd, Nat.reduceEqDiff, decide_true, decide_false, Bool.false_eq_true, src_left h1, hmax, hmxd, set_left h1, decide_eq_false hm2, decide_eq_true h2, decide_eq_true hmx0]
    · have := Int.fmod_lt_of_pos a1 hmxp
      by_cases hm2 : many > 1
      · rw [if_pos hm2] at this ⊢; exact .inl this
      · rw [if_neg hm2] at this ⊢
        have := Int.fmod_nonneg_of_pos a1 (b := 1) (by omega)
        exact .inr (by omega)
  · -- the mixed one
    have hm2 : ¬ many < 2 := fun z => hb (.inl z)
    have ha2 : ¬ 1 < a1 := fun z => hb (.inr z)
    have hmm : 0 < many := by omega
    have ht0 := h.ht
    have b1 : (t + 1).natAbs < 2 ^ 64 := by omega
    have ok1 : mulOk (t + 1) 104729 = true := mulOk_small b1 (by decide)
    have ok3 : mulOk (t + 1) 17 = true := mulOk_small b1 (by decide)
    have h2 := h1.put a1 m (t + 1)
    have m1p := Int.fmod_nonneg_of_pos (m + (t + 1) * 104729) (b := 998244353) (by omega)
    have m1l := Int.fmod_lt_of_pos (m + (t + 1) * 104729) (b := 998244353) (by omega)
    obtain ⟨m1, em1⟩ : ∃ m1, m1 = (m + (t + 1) * 104729).fmod 998244353 := ⟨_, rfl⟩
    rw [← em1] at m1p m1l
    have ok2 : mulOk m1 m1 = true := mulOk_small (by omega) (by omega)
    have m2p := Int.fmod_nonneg_of_pos (m1 * m1 + (t + 1) * 17) (b := 2147483647) (by omega)
    have m2l := Int.fmod_lt_of_pos (m1 * m1 + (t + 1) * 17) (b := 2147483647) (by omega)
    obtain ⟨m2, em2⟩ : ∃ m2, m2 = (m1 * m1 + (t + 1) * 17).fmod 2147483647 := ⟨_, rfl⟩
    rw [← em2] at m2p m2l
    have h3 := h2.put a1 m2 (t + 1)
    have d16 : divOk m2 16 = true := divOk_of (by decide) (by decide)
    refine ⟨(m2.fdiv 16).fmod many, cs1, a1, m2, t + 1, putS (putS μ1 l c a1 m (t + 1)) l c a1 m2 (t + 1), ?_, ⟨h3, q1, q2, ⟨m2p, by omega⟩, by have := h.ht; omega⟩, by omega, Int.fmod_nonneg_of_pos _ hmm, .inl (Int.fmod_lt_of_pos _ hmm), (q3.trans Frm.put).trans Frm.put⟩
    refine bodyR_rt ?_
    show b__law_pick [some (.ref l), some (.int many), none, none] μ = _
    unfold b__law_pick
    refine (seqS_nx w1).trans ?_
    have hne : many ≠ 0 := by omega
    simp only [lifA_run, runA_ok, runA_exc, seqS_run, seqR_nx, seqR_rt, seqR_ct, seqR_bk, seqR_exc, nxS_run, ctS_run, bkS_run, asgS, parS, retS, expS, ifS, setS, augS, varD, cD, binD, tstD, andB, orB, notB, truB, callB, callN, consL, nilL, meth0, bindR_ok, bindR_none, bindR_exc, bindT, bindTs, int2, cmpI, addD, addI, subI, mulX, mulD, mulI, fdivI, modI, dcInt, dcMax2, dcMin2, dcAbs, List.getElem?_cons_zero, List.getElem?_cons_succ, List.getElem?_nil, if_true, if_false, Bool.true_and, Bool.and_true, List.set_cons_zero, List.set_cons_succ, List.length_cons, List.length_nil, reduceIte, Nat.reduceAdd, Nat.reduceEqDiff, decide_true, decide_false, Bool.false_eq_true, src_left h1, decide_eq_false hm2, decide_eq_false ha2, src_turn h1, set_turn h1, src_turn h2, src_mixed h2, ok1, ← em1, ok2, ok3, ← em2, set_mixed h2, d16, decide_eq_true hne, (by decide : decide ((998244353 : Int) ≠ 0) = true), (by decide : decide ((2147483647 : Int) ≠ 0) = true)]
end
end Pd
end
section
namespace Pd
open PySem PySem.Spec L2
/-! ### _law_source -/
theorem forS_st {src : Sl → Mu → R Src} {t : Tg} {body : DS} {sl : Sl} {μ μ1 : Mu} {ds : List D} (h : src sl μ = ok (.st ds) μ1) : forS src t body sl μ = forL (fun _ => true) t body ds sl μ1 := by
  unfold forS
  rw [lifA_run, h]; rfl
theorem lcD_st {own : List Nat} {src : Sl → Mu → R Src} {t : Tg} {c : Sl → Mu → R Bool} {e : DE} {sl : Sl} {μ μ1 : Mu} {ds : List D} (h : src sl μ = ok (.st ds) μ1) : lcD own src t c e sl μ = lcL (fun _ => true) t c e (wipeD sl own) ds [] μ1 := by
  unfold lcD
  rw [h]; rfl
/-- a comprehension whose elements are told one by one -/
theorem lcL_mapP {own : Nat} {e : DE} {sl : Sl} {μ : Mu} (p : D → Prop) (f : D → D) (he : ∀ d, p d → e (sl.set own (some d)) μ = ok (f d) μ) : ∀ (ds acc : List D), (∀ d ∈ ds, p d) → acc.length + ds.length ≤ sizeLine → lcL (fun _ => true) (.nm own) yesB e sl ds acc μ = ok (.lst (acc ++ ds.map f)) μ
  | [], acc, _, _ => by simp [lcL]
  | d :: ds, acc, hp, hz => by
    have hz : acc.length + ds.length + 1 ≤ sizeLine := by simpa [Nat.add_assoc] using hz
    have ih := lcL_mapP p f he ds (acc ++ [f d]) (fun x hx => hp x (List.mem_cons_of_mem _ hx)) (by simp; omega)
    have h0 : acc.length < sizeLine := by omega
    have he' : e (sl.set own (some d)) μ = some (.ok (f d) μ) := he d (hp d List.mem_cons_self)
    simp only [lcL, if_true, bindT, yesB, ok]
    rw [he']
    simp only [if_pos h0]
    rw [ih]
    simp [ok]
def srcB : DS := (asgS (binD modI (callB dcInt (consL (binD addD (binD addD (binD mulX (varD 1) (cD (.int 69069))) (binD mulX (varD 2) (cD (.int 31)))) (cD (.int 5))) nilL)) (cD (.int 2147483629))) (.nm 1))
theorem src_loop {x : Option D} {μ : Mu} : ∀ (ns : List Int) (m : Int) (y : Option D), 0 ≤ m → m < 2147483648 → (∀ z ∈ ns, Builtin.Int.intBits z ≤ 1048576) →
    ∃ m' y', forL (fun _ => true) (.nm 2) srcB (ns.map D.int) [x, some (.int m), y] μ = some (.nx [x, some (.int m'), y'] μ) ∧ 0 ≤ m' ∧ m' < 2147483648
  | [], m, y, h1, h2, _ => ⟨m, y, by simp [forL], h1, h2⟩
  | n :: ns, m, y, h1, h2, hz => by
    have ok1 : mulOk m 69069 = true := mulOk_small (by omega) (by decide)
    have b1 := hz n List.mem_cons_self
    have b2 : Builtin.Int.intBits 31 ≤ 5 := bits_le (by decide)
    have ok2 : mulOk n 31 = true := by
      unfold mulOk
      exact decide_eq_true (by omega)
    have p := Int.fmod_nonneg_of_pos (m * 69069 + n * 31 + 5) (b := 2147483629) (by omega)
    have l := Int.fmod_lt_of_pos (m * 69069 + n * 31 + 5) (b := 2147483629) (by omega)
    obtain ⟨m', y', e, q1, q2⟩ := src_loop ns _ (some (.int n)) p (by omega) (fun z hz' => hz z (List.mem_cons_of_mem _ hz'))
    refine ⟨m', y', ?_, q1, q2⟩
    have step : srcB [x, some (.int m), some (.int n)] μ = some (.nx [x, some (.int ((m * 69069 + n * 31 + 5).fmod 2147483629)), some (.int n)] μ) := by
      unfold srcB
      simp only [lifA_run, runA_ok, runA_exc, seqS_run, seqR_nx, seqR_rt, seqR_ct, seqR_bk, seqR_exc, nxS_run, ctS_run, bkS_run, asgS, parS, retS, expS, ifS, setS, augS, varD, cD, binD, tstD, andB, orB, notB, truB, callB, callN, consL, nilL, meth0, bindR_ok, bindR_none, bindR_exc, bindT, bindTs, int2, cmpI, addD, addI, subI, mulX, mulD, mulI, fdivI, modI, dcInt, dcMax2, dcMin2, dcAbs, List.getElem?_cons_zero, List.getElem?_cons_succ, List.getElem?_nil, if_true, if_false, Bool.true_and, Bool.and_true, List.set_cons_zero, List.set_cons_succ, List.length_cons, List.length_nil, reduceIte, Nat.reduceAdd, Nat.reduceEqDiff, decide_true, decide_false, Bool.false_eq_true, ok1, ok2, (by decide : decide ((2147483629 : Int) ≠ 0) = true)]
    rw [List.map_cons, forL]
    simp only [if_true, bindT, List.set_cons_zero, List.set_cons_succ]
    rw [step]
    exact e
theorem source_ok (ns : List Int) (μ : Mu) (hn : ns.length ≤ 1000) (hz : ∀ z ∈ ns, Builtin.Int.intBits z ≤ 1048576) :
    ∃ (cs : List Int) (m : Int), f__law_source [.lst (ns.map D.int)] μ = ok (.ref (μ.length + 1)) (μ ++ [some (.lst (cs.map D.int)), some (.dic keysS [.ref μ.length, .int 1, .int m, .int 0])]) ∧ (∀ z ∈ cs, 0 ≤ z) ∧ 0 ≤ m ∧ m < 2147483648 := by
  obtain ⟨m, y, e, q1, q2⟩ := src_loop (x := some (.lst (ns.map D.int))) (μ := μ) ns 11 none (by omega) (by omega) hz
  have s1 : seqSrc' (varD 0) [some (.lst (ns.map D.int)), some (.int 11), none] μ = ok (.st (ns.map D.int)) μ := rfl
  have s2 : seqSrc' (varD 0) [some (.lst (ns.map D.int)), some (.int m), y] μ = ok (.st (ns.map D.int)) μ := rfl
  have f1 : forS (seqSrc' (varD 0)) (.nm 2) srcB [some (.lst (ns.map D.int)), some (.int 11), none] μ = some (.nx [some (.lst (ns.map D.int)), some (.int m), y] μ) := (forS_st s1).trans e
  have l1 : lcD [2] (seqSrc' (varD 0)) (.nm 2) yesB (callB dcAbs (consL (varD 2) nilL)) [some (.lst (ns.map D.int)), some (.int m), y] μ = ok (.lst ((ns.map fun i => if i < 0 then -i else i).map D.int)) μ := by
    rw [lcD_st s2]
    have := lcL_mapP (own := 2) (e := callB dcAbs (consL (varD 2) nilL)) (sl := wipeD [some (.lst (ns.map D.int)), some (.int m), y] [2]) (μ := μ) (fun d => ∃ i, d = .int i) (fun d => match d with | .int i => .int (if i < 0 then -i else i) | d => d) (fun d ⟨i, hd⟩ => by
      subst hd
      simp only [wipeD]
      simp only [lifA_run, runA_ok, runA_exc, seqS_run, seqR_nx, seqR_rt, seqR_ct, seqR_bk, seqR_exc, nxS_run, ctS_run, bkS_run, asgS, parS, retS, expS, ifS, setS, augS, varD, cD, binD, tstD, andB, orB, notB, truB, callB, callN, consL, nilL, meth0, bindR_ok, bindR_none, bindR_exc, bindT, bindTs, int2, cmpI, addD, addI, subI, mulX, mulD, mulI, fdivI, modI, dcInt, dcMax2, dcMin2, dcAbs, List.getElem?_cons_zero, List.getElem?_cons_succ, List.getElem?_nil, if_true, if_false, Bool.true_and, Bool.and_true, List.set_cons_zero, List.set_cons_succ, List.length_cons, List.length_nil, reduceIte, Nat.reduceAdd, Nat.reduceEqDiff, decide_true, decide_false, Bool.false_eq_true]) (ns.map D.int) [] (fun d hd => by
        obtain ⟨i, _, e⟩ := List.mem_map.mp hd
        exact ⟨i, e.symm⟩) (by rw [List.length_map, sizeLine_eq]; simp; omega)
    rw [this, List.nil_append, List.map_map, List.map_map]
    rfl
  refine ⟨(ns.map fun i => if i < 0 then -i else i).reverse, m, ?_, fun z hz' => ?_, q1, q2⟩
  · refine bodyR_rt ?_
    show b__law_source [some (.lst (ns.map D.int)), none, none] μ = _
    unfold b__law_source
    rw [seqS_nx (sl1 := [some (.lst (ns.map D.int)), some (.int 11), none]) (μ1 := μ) rfl]
    refine (seqS_nx f1).trans ?_
    have hm : mergD [] [] [((.inr "cells" : Key), D.ref μ.length), (.inr "left", D.int 1), (.inr "mixed", D.int m), (.inr "turn", D.int 0)] = (keysS, [.ref μ.length, .int 1, .int m, .int 0]) := by rfl
    simp only [lifA_run, runA_ok, runA_exc, seqS_run, seqR_nx, seqR_rt, seqR_ct, seqR_bk, seqR_exc, nxS_run, ctS_run, bkS_run, asgS, parS, retS, expS, ifS, setS, augS, varD, cD, binD, tstD, andB, orB, notB, truB, callB, callN, consL, nilL, meth0, bindR_ok, bindR_none, bindR_exc, bindT, bindTs, int2, cmpI, addD, addI, subI, mulX, mulD, mulI, fdivI, modI, dcInt, dcMax2, dcMin2, dcAbs, List.getElem?_cons_zero, List.getElem?_cons_succ, List.getElem?_nil, if_true, if_false, Bool.true_and, Bool.and_true, List.set_cons_zero, List.set_cons_succ, List.length_cons, List.length_nil, reduceIte, Nat.reduceAdd, Nat.reduceEqDiff, decide_true, decide_false, Bool.false_eq_true, boxD, dispD, pairD, revL, newD, l1, lstOf, keyOf, hm, (by decide : (4 : Nat) ≤ 15), List.length_append, List.append_assoc, List.map_reverse, List.cons_append, List.nil_append]
  · have hz' := List.mem_reverse.mp hz'
    obtain ⟨i, _, rfl⟩ := List.mem_map.mp hz'
    split <;> omega
end Pd
end
section
namespace Pd
open PySem PySem.Spec L2
/-! ### data that holds nothing changeable, as the kit's data -/
mutual
def pyD : D → Option PyData
  | .non => some .none
  | .bl b => some (.bool b)
  | .int i => some (.int i)
  | .str x => some (.str x)
  | .tup ds => match pyL ds with
    | some ps => some (.tuple ps)
    | none => none
  | .lst ds => match pyL ds with
    | some ps => some (.list ps)
    | none => none
  | .dic _ _ => none
  | .dit _ _ => none
  | .cst _ => none
  | .ref _ => none
  | .exn _ _ _ _ => none
def pyL : List D → Option (List PyData)
  | [] => some []
  | d :: ds => match pyD d, pyL ds with
    | some p, some ps => some (p :: ps)
    | _, _ => none
end
mutual
theorem toPy_pyD {μ : Mu} : ∀ (d : D) (n : Nat) (p : PyData), pyD d = some p → p.depth < n → toPy μ n d = some p
  | d, 0, p, _, h => absurd h (Nat.not_lt_zero _)
  | .non, n + 1, p, h, _ => by rw [pyD] at h; cases h; rfl
  | .bl b, n + 1, p, h, _ => by rw [pyD] at h; cases h; rfl
  | .int i, n + 1, p, h, _ => by rw [pyD] at h; cases h; rfl
  | .str x, n + 1, p, h, _ => by rw [pyD] at h; cases h; rfl
  | .tup ds, n + 1, p, h, hd => by
    rw [pyD] at h
    cases e : pyL ds with
    | none => rw [e] at h; cases h
    | some ps =>
      rw [e] at h; cases h
      rw [PyData.depth] at hd
      rw [toPy, toPys_pyL ds n ps e (by omega)]; rfl
  | .lst ds, n + 1, p, h, hd => by
    rw [pyD] at h
    cases e : pyL ds with
    | none => rw [e] at h; cases h
    | some ps =>
      rw [e] at h; cases h
      rw [PyData.depth] at hd
      rw [toPy, toPys_pyL ds n ps e (by omega)]; rfl
  | .dic _ _, n + 1, p, h, _ => by rw [pyD] at h; cases h
  | .dit _ _, n + 1, p, h, _ => by rw [pyD] at h; cases h
  | .cst _, n + 1, p, h, _ => by rw [pyD] at h; cases h
  | .ref _, n + 1, p, h, _ => by rw [pyD] at h; cases h
  | .exn _ _ _ _, n + 1, p, h, _ => by rw [pyD] at h; cases h
theorem toPys_pyL {μ : Mu} : ∀ (ds : List D) (n : Nat) (ps : List PyData), pyL ds = some ps → PyData.depthAll ps < n → ds.mapM (toPy μ n) = some ps
  | [], n, ps, h, _ => by rw [pyL] at h; cases h; rfl
  | d :: ds, n, ps, h, hd => by
    rw [pyL] at h
    cases e1 : pyD d with
    | none => rw [e1] at h; cases h
    | some p =>
      cases e2 : pyL ds with
      | none => rw [e1, e2] at h; cases h
      | some r =>
        rw [e1, e2] at h; cases h
        rw [PyData.depthAll] at hd
        rw [List.mapM_cons, toPy_pyD d n p e1 (by omega), toPys_pyL ds n r e2 (by omega)]; rfl
end
mutual
theorem pyD_inj : ∀ {d e : D} {p : PyData}, pyD d = some p → pyD e = some p → d = e
  | d, e, .none, h1, h2 => by
    cases d <;> cases e <;> simp_all [pyD] <;> (split at * <;> simp_all)
  | d, e, .bool b, h1, h2 => by
    cases d <;> cases e <;> simp_all [pyD] <;> (split at * <;> simp_all)
  | d, e, .int i, h1, h2 => by
    cases d <;> cases e <;> simp_all [pyD] <;> (split at * <;> simp_all)
  | d, e, .str x, h1, h2 => by
    cases d <;> cases e <;> simp_all [pyD] <;> (split at * <;> simp_all)
  | d, e, .dict x, h1, h2 => by
    cases d <;> cases e <;> simp_all [pyD] <;> (split at * <;> simp_all)
  | d, e, .list ps, h1, h2 => by
    cases d <;> simp_all [pyD] <;> (split at * <;> simp_all)
    rename_i ds ps1 e1
    cases e <;> simp_all [pyD] <;> (split at * <;> simp_all)
    rename_i es ps2 e2
    exact pyL_inj e1 e2
  | d, e, .tuple ps, h1, h2 => by
    cases d <;> simp_all [pyD] <;> (split at * <;> simp_all)
    rename_i ds ps1 e1
    cases e <;> simp_all [pyD] <;> (split at * <;> simp_all)
    rename_i es ps2 e2
    exact pyL_inj e1 e2
theorem pyL_inj : ∀ {ds es : List D} {ps : List PyData}, pyL ds = some ps → pyL es = some ps → ds = es
  | ds, es, [], h1, h2 => by
    cases ds <;> cases es <;> simp_all [pyL] <;> (split at * <;> simp_all)
  | ds, es, p :: ps, h1, h2 => by
    cases ds with
    | nil => simp [pyL] at h1
    | cons d ds =>
      cases es with
      | nil => simp [pyL] at h2
      | cons e es =>
        rw [pyL] at h1 h2
        split at h1
        · rename_i a b q1 q2
          cases h1
          split at h2
          · rename_i a' b' q3 q4
            cases h2
            rw [pyD_inj q1 q3, pyL_inj q2 q4]
          · cases h2
        · cases h1
end
end Pd
end
section
namespace Pd
open PySem PySem.Spec L2
/-! ### equal data -/
mutual
def nob : PyData → Bool
  | .none => true
  | .bool _ => false
  | .int _ => true
  | .str _ => true
  | .list ps => nobL ps
  | .tuple ps => nobL ps
  | .dict _ => false
def nobL : List PyData → Bool
  | [] => true
  | p :: ps => nob p && nobL ps
end
mutual
theorem eqv_eq : ∀ (p q : PyData), nob p = true → nob q = true → PyData.eqv p q = true → p = q
  | .none, q, _, _, h => by cases q <;> simp_all [PyData.eqv]
  | .bool b, q, h, _, _ => by simp [nob] at h
  | .int i, q, _, hq, h => by cases q <;> simp_all [PyData.eqv, nob]
  | .str x, q, _, _, h => by cases q <;> simp_all [PyData.eqv]
  | .list ps, q, hp, hq, h => by
    cases q with
    | list qs =>
      rw [PyData.eqv] at h
      rw [nob] at hp hq
      rw [eqvAll_eq ps qs hp hq h]
    | _ => simp [PyData.eqv] at h
  | .tuple ps, q, hp, hq, h => by
    cases q with
    | tuple qs =>
      rw [PyData.eqv] at h
      rw [nob] at hp hq
      rw [eqvAll_eq ps qs hp hq h]
    | _ => simp [PyData.eqv] at h
  | .dict _, q, h, _, _ => by simp [nob] at h
theorem eqvAll_eq : ∀ (ps qs : List PyData), nobL ps = true → nobL qs = true → PyData.eqvAll ps qs = true → ps = qs
  | [], [], _, _, _ => rfl
  | [], _ :: _, _, _, h => by simp [PyData.eqvAll] at h
  | _ :: _, [], _, _, h => by simp [PyData.eqvAll] at h
  | p :: ps, q :: qs, hp, hq, h => by
    rw [nobL, Bool.and_eq_true] at hp hq
    rw [PyData.eqvAll, Bool.and_eq_true] at h
    rw [eqv_eq p q hp.1 hq.1 h.1, eqvAll_eq ps qs hp.2 hq.2 h.2]
end
/-- plain data of little depth -/
structure Pl (d : D) (p : PyData) : Prop where
  py : pyD d = some p
  lay : p.canLay0 = true
  dep : p.depth ≤ 8
theorem Pl.shaped {d : D} {p : PyData} (h : Pl d p) : SeqAt.shaped p = true := by
  unfold SeqAt.shaped
  rw [h.lay, decide_eq_true (Nat.le_trans h.dep (by omega))]; rfl
theorem Pl.toPy {μ : Mu} {d : D} {p : PyData} (h : Pl d p) : Pd.toPy μ 9 d = some p := toPy_pyD d 9 p h.py (Nat.lt_succ_of_le h.dep)
theorem eqD0_pl {x y : D} {p q : PyData} {μ : Mu} (hx : Pl x p) (hy : Pl y q) : eqD0 x y μ = ok (.bl (PyData.eqv p q)) μ := by
  unfold eqD0
  rw [hx.toPy, hy.toPy]
  simp only [hx.shaped, hy.shaped, Bool.and_self, if_true]
theorem neD0_pl {x y : D} {p q : PyData} {μ : Mu} (hx : Pl x p) (hy : Pl y q) : neD0 x y μ = ok (.bl (!PyData.eqv p q)) μ := by
  unfold neD0
  rw [hx.toPy, hy.toPy]
  simp only [hx.shaped, hy.shaped, Bool.and_self, if_true]
theorem eq_strs {a b : Str} {μ : Mu} : eqD (.str a) (.str b) μ = ok (.bl (decide (a = b))) μ := rfl
theorem ne_strs {a b : Str} {μ : Mu} : neD (.str a) (.str b) μ = ok (.bl (!decide (a = b))) μ := rfl
theorem eqD_pl {x y : D} {p q : PyData} {μ : Mu} (hx : Pl x p) (hy : Pl y q) : eqD x y μ = ok (.bl (PyData.eqv p q)) μ := by
  cases e : twoS x y with
  | none => unfold eqD; rw [e]; exact eqD0_pl hx hy
  | some ab =>
    obtain ⟨a, b⟩ := ab
    cases x with
    | str x =>
      cases y with
      | str y =>
        have h1 := hx.py
        have h2 := hy.py
        rw [pyD] at h1 h2
        cases h1; cases h2
        rw [eq_strs]
        simp only [PyData.eqv]
        rfl
      | _ => simp [twoS] at e
    | _ => simp [twoS] at e
theorem neD_pl {x y : D} {p q : PyData} {μ : Mu} (hx : Pl x p) (hy : Pl y q) : neD x y μ = ok (.bl (!PyData.eqv p q)) μ := by
  cases e : twoS x y with
  | none => unfold neD; rw [e]; exact neD0_pl hx hy
  | some ab =>
    obtain ⟨a, b⟩ := ab
    cases x with
    | str x =>
      cases y with
      | str y =>
        have h1 := hx.py
        have h2 := hy.py
        rw [pyD] at h1 h2
        cases h1; cases h2
        rw [ne_strs]
        simp only [PyData.eqv]
        rfl
      | _ => simp [twoS] at e
    | _ => simp [twoS] at e
theorem Pl.self {d : D} {p : PyData} (h : Pl d p) : PyData.eqv p p = true := SeqAt.eqv_refl p h.lay
theorem Pl.ne {x y : D} {p q : PyData} (hx : Pl x p) (hy : Pl y q) (np : nob p = true) (nq : nob q = true) (h : x ≠ y) : PyData.eqv p q = false := by
  cases e : PyData.eqv p q with
  | false => rfl
  | true =>
    have := eqv_eq p q np nq e
    subst this
    exact absurd (pyD_inj hx.py hy.py) h
theorem eqD_self {x : D} {p : PyData} {μ : Mu} (h : Pl x p) : eqD x x μ = ok (.bl true) μ := by rw [eqD_pl h h, h.self]
theorem neD_self {x : D} {p : PyData} {μ : Mu} (h : Pl x p) : neD x x μ = ok (.bl false) μ := by rw [neD_pl h h, h.self]; rfl
theorem pl_int (i : Int) : Pl (.int i) (.int i) := ⟨rfl, rfl, by simp [PyData.depth]⟩
theorem pl_bl (b : Bool) : Pl (.bl b) (.bool b) := ⟨rfl, rfl, by simp [PyData.depth]⟩
theorem pl_non : Pl .non .none := ⟨rfl, rfl, by simp [PyData.depth]⟩
theorem pl_str {x : Str} (h : PyData.strOk x = true) : Pl (.str x) (.str x) := ⟨rfl, by rw [PyData.canLay0]; exact h, by simp [PyData.depth]⟩
/-! ### how long a repr may be -/
mutual
def shSz : PyData → Nat
  | .none => 4
  | .bool _ => 5
  | .int i => i.natAbs.log2 + 2
  | .str x => 10 * x.length + 2
  | .list ps => 2 + shSzL ps
  | .tuple ps => 3 + shSzL ps
  | .dict _ => 0
def shSzL : List PyData → Nat
  | [] => 0
  | p :: ps => shSz p + 2 + shSzL ps
end
theorem textFrom_le : ∀ (ts : List Str) (k : Nat) (acc : Str), (textFrom k acc ts).length ≤ acc.length + (ts.map fun t => t.length + 2).sum
  | [], k, acc => by simp [textFrom]
  | t :: ts, k, acc => by
    have ih := textFrom_le ts (k + 1) (acc ++ (if k > 0 then ", " else "" : String) ++ t)
    have e : (acc ++ (if k > 0 then ", " else "" : String) ++ t).length ≤ acc.length + 2 + t.length := by
      rw [strLen_append, strLen_append]
      have : ((if k > 0 then ", " else "" : String) : Str).length ≤ 2 := by
        split <;> decide
      omega
    rw [textFrom, List.map_cons, List.sum_cons]
    omega
mutual
theorem shown_le : ∀ p : PyData, p.canLay0 = true → p.shown.length ≤ shSz p
  | .none, _ => by rw [PyData.shown, shSz]; decide
  | .bool b, _ => by rw [PyData.shown, shSz]; cases b <;> decide
  | .int i, _ => by
    rw [PyData.shown, shSz, ofString_length]
    exact int_text_length_le (Nat.succ_pos _) (Nat.lt_succ_self _)
  | .str x, h => by
    rw [PyData.shown, shSz]
    refine StrLaws.reprText_len x fun c hc => ?_
    rw [PyData.canLay0] at h
    have := Array.all_eq_true'.mp (show x.cps.all (· < 0x110000) = true from h) c (Array.mem_def.mpr hc)
    have : c < 0x110000 := by simpa using this
    omega
  | .list ps, h => by
    rw [PyData.canLay0] at h
    rw [PyData.shown, shSz, listText, strLen_append]
    have h1 := textFrom_le (PyData.shownAll ps) 0 "["
    have h2 := shownAll_le ps h
    have h3 : (("[" : String) : Str).length = 1 := rfl
    have h4 : (("]" : String) : Str).length = 1 := rfl
    omega
  | .tuple ps, h => by
    rw [PyData.canLay0] at h
    rw [PyData.shown, shSz, tupleText, strLen_append, strLen_append]
    have h2 := shownAll_le ps h
    have h3 : (("(" : String) : Str).length = 1 := rfl
    have h4 : ((if (PyData.shownAll ps).length == 1 then ",)" else ")" : String) : Str).length ≤ 2 := by split <;> decide
    cases e : PyData.shownAll ps with
    | nil =>
      rw [e] at h4
      have : (Str.join ", " []).length = 0 := rfl
      omega
    | cons t ts =>
      have h5 := join_length_add (PyData.shownAll ps) (by rw [e]; simp)
      rw [e] at h4 h5 h2
      have h6 : piled (t :: ts) = ((t :: ts).map fun t => t.length + 2).sum := rfl
      omega
  | .dict _, h => by simp [PyData.canLay0] at h
theorem shownAll_le : ∀ ps : List PyData, PyData.canLayAll0 ps = true → ((PyData.shownAll ps).map fun t => t.length + 2).sum ≤ shSzL ps
  | [], _ => by simp [PyData.shownAll, shSzL]
  | p :: ps, h => by
    rw [PyData.canLayAll0, Bool.and_eq_true] at h
    have h1 := shown_le p h.1
    have h2 := shownAll_le ps h.2
    rw [PyData.shownAll, shSzL, List.map_cons, List.sum_cons]
    omega
end
/-- a repr that fits -/
theorem repr_pl {d : D} {p : PyData} {μ : Mu} (h : Pl d p) (hs : p.showable = true) (hz : shSz p ≤ sizeLine) : dcRepr [d] μ = ok (.str p.shown) μ := by
  unfold dcRepr
  simp only [h.toPy]
  have h1 := PyData.hasDict_of_canLay p h.lay
  have h2 : p.depth ≤ 60 := Nat.le_trans h.dep (by omega)
  have h3 : p.shown.length ≤ sizeLine := Nat.le_trans (shown_le p h.lay) hz
  rw [if_pos (by rw [hs, h1, decide_eq_true h2, decide_eq_true h3]; rfl)]
end Pd
end
section
namespace Pd
open PySem PySem.Spec L2
/-! ### texts -/
abbrev Tx (l : List Nat) : Str := ⟨l.toArray⟩
theorem tx_len (l : List Nat) : (Tx l).length = l.length := by show l.toArray.size = l.length; simp
theorem tx_list (l : List Nat) : (Tx l).cps.toList = l := rfl
theorem tx_self (x : Str) : Tx x.cps.toList = x := rfl
theorem tx_app (a b : List Nat) : Tx a ++ Tx b = Tx (a ++ b) := by
  show (⟨a.toArray ++ b.toArray⟩ : Str) = ⟨(a ++ b).toArray⟩
  rw [List.append_toArray]
theorem tx_inj {a b : List Nat} (h : Tx a = Tx b) : a = b := by
  have := congrArg (fun x : Str => x.cps.toList) h
  exact this
section
variable {μ : Mu} {l s : List Nat} {k c : Nat}
theorem ix_tx (h : l[k]? = some c) (hz : l.length ≤ sizeLine) : ixD (.str (Tx l)) (.int (k : Nat)) μ = ok (.str (Tx [c])) μ := by
  have e : atI (Tx l).cps.toList ((k : Nat) : Int) = some c := atI_nat h
  have hz : (Tx l).length ≤ sizeLine := by rw [tx_len]; exact hz
  simp only [ixD, seqOf, lstOf, if_pos hz, e]
theorem in_tx {s : Str} : inD false (.str (Tx [c])) (.str s) μ = ok (.bl (decide (c ∈ s.cps.toList))) μ := by
  have := StrLaws.found_one s c
  simp only [inD]
  rw [show (!(Builtin.Str.occurrences s (Tx [c]) 0 s.length 1).isEmpty) = decide (c ∈ s.cps.toList) from this]
  rfl
theorem nin_tx {s : Str} : inD true (.str (Tx [c])) (.str s) μ = ok (.bl (!decide (c ∈ s.cps.toList))) μ := by
  have := StrLaws.found_one s c
  simp only [inD]
  rw [show (!(Builtin.Str.occurrences s (Tx [c]) 0 s.length 1).isEmpty) = decide (c ∈ s.cps.toList) from this]
  rfl
theorem len_tx (hz : l.length ≤ sizeLine) : dcLen [.str (Tx l)] μ = ok (.int (l.length : Nat)) μ := by
  have hz' : (Tx l).length ≤ sizeLine := by rw [tx_len]; exact hz
  simp only [dcLen, tx_len, if_pos hz]
theorem cut_tx {a b : Nat} (ha : a ≤ b) (hb : b ≤ l.length) : cutS (Tx l) (some (a : Nat)) (some (b : Nat)) = Tx ((l.drop a).take (b - a)) := by
  unfold cutS
  rw [tx_len, HT.sIx_nat, HT.sIx_nat, Nat.min_eq_left hb, Nat.min_eq_left (by omega)]
theorem cut_to {b : Nat} (hb : b ≤ l.length) : cutS (Tx l) none (some (b : Nat)) = Tx (l.take b) := by
  unfold cutS
  rw [tx_len, HT.sIx_nat, HT.sIx_none, Nat.min_eq_left hb]
  simp
theorem cut_from {a : Nat} (ha : a ≤ l.length) : cutS (Tx l) (some (a : Nat)) none = Tx (l.drop a) := by
  unfold cutS
  rw [tx_len, HT.sIx_nat, HT.sIx_none, Nat.min_eq_left ha]
  rw [List.take_of_length_le (by simp)]
theorem sl_tx {lo hi : Option Int} (hz : l.length ≤ sizeLine) : slD (.str (Tx l)) lo hi μ = ok (.str (cutS (Tx l) lo hi)) μ := by
  have hz' : (Tx l).length ≤ sizeLine := by rw [tx_len]; exact hz
  simp only [slD, if_pos hz']
theorem add_tx {a b : List Nat} (hz : a.length + b.length ≤ sizeLine) : addD (.str (Tx a)) (.str (Tx b)) μ = ok (.str (Tx (a ++ b))) μ := by
  simp only [addD, addS, tx_len, if_pos hz, tx_app]
end
end Pd
end
section
namespace Pd
open PySem PySem.Spec L2
/-! ### the drawing, by what a law needs of it -/
/-- the source stands; it has been asked at most B times -/
def Sr (B : Nat) (l c : Nat) (μ : Mu) : Prop := ∃ cs a m t, SrcOk' μ l c cs a m t ∧ t ≤ (B : Int)
theorem Sr.mono {B B' l c : Nat} {μ : Mu} (h : Sr B l c μ) (hb : B ≤ B') : Sr B' l c μ := by
  obtain ⟨cs, a, m, t, h1, h2⟩ := h
  exact ⟨cs, a, m, t, h1, by omega⟩
/-- other things may come to the store -/
theorem Sr.app {B l c : Nat} {μ : Mu} (h : Sr B l c μ) (x : Mu) : Sr B l c (μ ++ x) := by
  obtain ⟨cs, a, m, t, h1, h2⟩ := h
  exact ⟨cs, a, m, t, ⟨⟨getE_app h1.hl, getE_app h1.hc⟩, h1.hcs, h1.ha, h1.hm, h1.ht⟩, h2⟩
theorem Sr.start (ns : List Int) (hn : ns.length ≤ 1000) (hz : ∀ z ∈ ns, Builtin.Int.intBits z ≤ 1048576) : ∃ μ, f__law_source [.lst (ns.map D.int)] [] = ok (.ref 1) μ ∧ Sr 0 1 0 μ := by
  obtain ⟨cs, m, e, h1, h2, h3⟩ := source_ok ns [] hn hz
  exact ⟨_, e, cs, 1, m, 0, ⟨⟨rfl, rfl⟩, h1, by omega, ⟨h2, h3⟩, by omega⟩, by omega⟩
theorem pickS {B l c : Nat} {μ : Mu} {many : Int} (h : Sr B l c μ) (hB : B < 2 ^ 39) (hm : many.natAbs.log2 < 9000) :
    ∃ (r : Nat) (μ' : Mu), f__law_pick [.ref l, .int many] μ = ok (.int (r : Nat)) μ' ∧ Sr (B + 1) l c μ' ∧ ((r : Int) < many ∨ r = 0) ∧ Frm μ μ' l c := by
  obtain ⟨cs, a, m, t, h1, h2⟩ := h
  obtain ⟨r, cs', a', m', t', μ', e, q1, q2, q3, q4, q5⟩ := pick_ok (many := many) h1 (by omega) hm
  refine ⟨r.toNat, μ', ?_, ⟨cs', a', m', t', q1, by omega⟩, ?_, q5⟩
  · rw [e, Int.toNat_of_nonneg q3]
  · rcases q4 with q4 | q4
    · left; omega
    · right; omega
theorem ofS {B l c : Nat} {μ : Mu} {ds : List D} (h : Sr B l c μ) (hB : B < 2 ^ 39) (hd : ds ≠ []) (hz : ds.length ≤ 100000) :
    ∃ x μ', f__law_of [.ref l, .lst ds] μ = ok x μ' ∧ x ∈ ds ∧ Sr (B + 1) l c μ' ∧ Frm μ μ' l c := by
  have hpos : 0 < ds.length := List.length_pos_iff.mpr hd
  have hlog : ((ds.length : Nat) : Int).natAbs.log2 < 9000 := by
    rw [Int.natAbs_natCast]
    have := (Nat.log2_lt (by omega : ds.length ≠ 0)).mpr (show ds.length < 2 ^ 17 by omega)
    omega
  obtain ⟨r, μ', e, q1, q2, q3⟩ := pickS h hB hlog
  have hr : r < ds.length := by omega
  have hget : atI ds ((r : Nat) : Int) = some ds[r] := atI_nat (List.getElem?_eq_getElem hr)
  refine ⟨ds[r], μ', ?_, List.getElem_mem hr, q1, q3⟩
  refine bodyR_rt ?_
  show b__law_of [some (.ref l), some (.lst ds)] μ = _
  unfold b__law_of
  have hl : dcLen [.lst ds] μ = ok (.int (ds.length : Nat)) μ := by simp only [dcLen, seqOf, lstOf]
  have hi : ixD (.lst ds) (.int (r : Nat)) μ' = ok ds[r] μ' := by simp only [ixD, seqOf, lstOf, hget]
  simp only [lifA_run, runA_ok, runA_exc, seqS_run, seqR_nx, seqR_rt, seqR_ct, seqR_bk, seqR_exc, nxS_run, ctS_run, bkS_run, asgS, parS, retS, expS, ifS, setS, augS, varD, cD, binD, tstD, andB, orB, notB, truB, callB, callN, consL, nilL, meth0, bindR_ok, bindR_none, bindR_exc, bindT, bindTs, int2, cmpI, addD, addI, subI, mulX, mulD, mulI, fdivI, modI, dcInt, dcMax2, dcMin2, dcAbs, List.getElem?_cons_zero, List.getElem?_cons_succ, List.getElem?_nil, if_true, if_false, Bool.true_and, Bool.and_true, List.set_cons_zero, List.set_cons_succ, List.length_cons, List.length_nil, reduceIte, Nat.reduceAdd, Nat.reduceEqDiff, decide_true, decide_false, Bool.false_eq_true, hl, e, hi]
/-- a loop over what can't change, by an invariant -/
theorem forL_inv {t : Tg} {body : DS} (P : Nat → Sl → Mu → Prop) : ∀ (ds : List D) (i : Nat) (sl : Sl) (μ : Mu), (∀ j d sl μ, ds[j]? = some d → P (i + j) sl μ → ∃ sl1 sl2 μ2, bindT μ t d sl = some sl1 ∧ body sl1 μ = some (.nx sl2 μ2) ∧ P (i + j + 1) sl2 μ2) → P i sl μ →
    ∃ sl' μ', forL (fun _ => true) t body ds sl μ = some (.nx sl' μ') ∧ P (i + ds.length) sl' μ'
  | [], i, sl, μ, _, h => ⟨sl, μ, by simp [forL], h⟩
  | d :: ds, i, sl, μ, hs, h => by
    obtain ⟨sl1, sl2, μ2, e1, e2, h2⟩ := hs 0 d sl μ rfl h
    obtain ⟨sl', μ', e, q⟩ := forL_inv P ds (i + 1) sl2 μ2 (fun j d sl μ hj hp => by
      have := hs (j + 1) d sl μ (by simpa using hj) (by rw [show i + (j + 1) = i + 1 + j by omega]; exact hp)
      rw [show i + (j + 1) = i + 1 + j by omega] at this
      exact this) h2
    refine ⟨sl', μ', ?_, by rw [List.length_cons, show i + (ds.length + 1) = i + 1 + ds.length by omega]; exact q⟩
    rw [forL]
    simp only [if_true, e1, e2]
    exact e
theorem rng1 {fl : DL} {sl : Sl} {μ μ1 : Mu} {n : Nat} (h : fl sl μ = ok [.int (n : Nat)] μ1) (hn : n < 2 ^ 62) : rngSrc1 fl sl μ = ok (.st (rngD 0 n)) μ1 := by
  unfold rngSrc1
  rw [h]
  have : ((n : Nat) : Int) < 2 ^ 62 ∧ -(2 ^ 62) ≤ ((n : Nat) : Int) := by omega
  rw [bindR_ok]
  dsimp only
  rw [if_pos this, Int.toNat_natCast]
theorem rngD_len (n : Nat) : (rngD 0 n).length = n := by simp [rngD]
theorem rngD_at {n j : Nat} {d : D} (h : (rngD 0 n)[j]? = some d) : j < n ∧ d = .int (j : Nat) := by
  obtain ⟨h1, h2⟩ := rngD_get h
  exact ⟨h1, by rw [h2, Int.zero_add]⟩
/-! ### one construct at a time -/
section
variable {sl sl1 : Sl} {μ μ1 μ2 : Mu} {d x y : D} {ds es : List D} {e fa fb : DE} {fl : DL} {g : D2} {F : DC} {n : Nat} {t : Tg} {b : Bool} {c : Sl → Mu → R Bool} {f h : DS}
theorem binD_ok (ha : fa sl μ = ok x μ1) (hb : fb sl μ1 = ok y μ2) : binD g fa fb sl μ = g x y μ2 := by unfold binD; rw [ha, bindR_ok, hb, bindR_ok]
theorem asgS_ok (he : e sl μ = ok d μ1) (hb : bindT μ1 t d sl = some sl1) : asgS e t sl μ = some (.nx sl1 μ1) := by unfold asgS; rw [lifA_ok he, hb]
theorem newD_ok (he : e sl μ = ok (.lst ds) μ1) : newD e sl μ = ok (.lst ds) μ1 := by unfold newD; rw [he]; rfl
theorem newD_dic {ks : List Key} (he : e sl μ = ok (.dic ks ds) μ1) : newD e sl μ = ok (.dic ks ds) μ1 := by unfold newD; rw [he]; rfl
theorem consL_ok (ha : fa sl μ = ok x μ1) (hb : fl sl μ1 = ok es μ2) : consL fa fl sl μ = ok (x :: es) μ2 := by unfold consL; rw [ha, bindR_ok, hb, bindR_ok]
theorem nilL_ok : nilL sl μ = ok [] μ := rfl
theorem callB_ok (ha : fl sl μ = ok ds μ1) : callB F fl sl μ = F ds μ1 := by unfold callB; rw [ha, bindR_ok]
theorem callN_ok (hn : ds.length = n) : callN n F ds μ = F ds μ := by unfold callN; rw [if_pos hn]
theorem lstD_ok (ha : fl sl μ = ok ds μ1) (hz : ds.length ≤ sizeLine) : lstD fl sl μ = ok (.lst ds) μ1 := by unfold lstD; rw [ha, bindR_ok, if_pos hz]
theorem tupD_ok (ha : fl sl μ = ok ds μ1) (hz : ds.length ≤ sizeLine) : tupD fl sl μ = ok (.tup ds) μ1 := by unfold tupD; rw [ha, bindR_ok, if_pos hz]
theorem retS_ok (he : e sl μ = ok d μ1) : retS e sl μ = some (.rt d μ1) := by unfold retS; rw [lifA_ok he]
theorem tstD_ok (he : e sl μ = ok (.bl b) μ1) : tstD e sl μ = ok b μ1 := by unfold tstD; rw [he]; rfl
theorem ifS_t (hc : c sl μ = ok true μ1) : ifS c f h sl μ = f sl μ1 := by unfold ifS; rw [lifA_ok hc, if_pos rfl]
theorem ifS_f (hc : c sl μ = ok false μ1) : ifS c f h sl μ = h sl μ1 := by unfold ifS; rw [lifA_ok hc, if_neg Bool.false_ne_true]
theorem ifD_t (hc : c sl μ = ok true μ1) : ifD c fa fb sl μ = fa sl μ1 := by unfold ifD; rw [hc]; rfl
theorem ifD_f (hc : c sl μ = ok false μ1) : ifD c fa fb sl μ = fb sl μ1 := by unfold ifD; rw [hc]; rfl
theorem andD_t (ha : fa sl μ = ok (.bl true) μ1) : andD fa fb sl μ = fb sl μ1 := by unfold andD; rw [ha]; rfl
theorem andD_f (ha : fa sl μ = ok (.bl false) μ1) : andD fa fb sl μ = ok (.bl false) μ1 := by unfold andD; rw [ha]; rfl
theorem nm_ok {i : Nat} : bindT μ (.nm i) d sl = some (sl.set i (some d)) := rfl
end
end Pd
end
section
namespace Pd
open PySem PySem.Spec L2
/-! ### what is wanted of an outcome: steps taken backwards -/
def wS0 (N : Sl → Mu → Prop) (T : D → Mu → Prop) (B C : Sl → Mu → Prop) (X : Exn → Sl → Mu → Prop) : Option OutS → Prop
  | some (.nx sl μ) => N sl μ
  | some (.rt d μ) => T d μ
  | some (.bk sl μ) => B sl μ
  | some (.ct sl μ) => C sl μ
  | some (.exc x sl μ) => X x sl μ
  | none => False
def wQ0 {α : Type} (E : Exn → Mu → Prop) (Q : α → Mu → Prop) : R α → Prop
  | some (.ok a μ) => Q a μ
  | some (.exc x μ) => E x μ
  | none => False
abbrev nE : Exn → Mu → Prop := fun _ _ => False
section
variable {α β : Type} {E : Exn → Mu → Prop} {Q Q' : α → Mu → Prop} {N N' : Sl → Mu → Prop} {T T' : D → Mu → Prop} {B B' C C' : Sl → Mu → Prop} {X X' : Exn → Sl → Mu → Prop} {sl sl1 : Sl} {μ μ1 : Mu} {d x y : D} {fa fb fc : DE} {fl : DL} {g g' : D2} {s t : DS} {c bf bg : Sl → Mu → R Bool} {F : DC} {ds xs : List D} {n i : Nat}
theorem z_wQ_imp {r : R α} (h : wQ0 E Q r) (q : ∀ a μ, Q a μ → Q' a μ) : wQ0 E Q' r := by
  cases r with
  | none => exact h
  | some o => cases o with
    | ok a μ => exact q _ _ h
    | exc x μ => exact h
theorem z_wQ_ex {r : R α} (h : wQ0 nE Q r) : ∃ a μ', r = ok a μ' ∧ Q a μ' := by
  cases r with
  | none => exact h.elim
  | some o => cases o with
    | ok a μ => exact ⟨a, μ, rfl, h⟩
    | exc x μ => exact h.elim
/-- an outcome told by its steps -/
theorem z_wQ_is {r : R α} {a : α} (h : wQ0 nE (fun b μ' => b = a ∧ μ' = μ) r) : r = ok a μ := by
  obtain ⟨b, μ', e, rfl, rfl⟩ := z_wQ_ex h
  exact e
theorem z_w_ok {a : α} (h : Q a μ) : wQ0 E Q (ok a μ) := h
theorem z_w_eq {r r' : R α} (e : r = r') (h : wQ0 E Q r') : wQ0 E Q r := e ▸ h
theorem z_w_is {r : R α} {a : α} (e : r = ok a μ) (h : Q a μ) : wQ0 E Q r := by rw [e]; exact h
theorem z_w_bind {r : R β} {k : β → Mu → R α} (h : wQ0 E (fun a μ1 => wQ0 E Q (k a μ1)) r) : wQ0 E Q (bindR r k) := by
  cases r with
  | none => exact h
  | some o => cases o with
    | ok a μ => exact h
    | exc x μ => exact h
theorem z_w_var (e : sl[i]? = some (some d)) {Q : D → Mu → Prop} (h : Q d μ) : wQ0 E Q (varD i sl μ) := z_w_is (by unfold varD; rw [e]) h
theorem z_w_c {Q : D → Mu → Prop} (h : Q d μ) : wQ0 E Q (cD d sl μ) := h
theorem z_w_bin {Q : D → Mu → Prop} (h : wQ0 E (fun x μ1 => wQ0 E (fun y μ2 => wQ0 E Q (g x y μ2)) (fb sl μ1)) (fa sl μ)) : wQ0 E Q (binD g fa fb sl μ) := z_w_bind (z_wQ_imp h fun _ _ h => z_w_bind h)
theorem z_w_not {Q : Bool → Mu → Prop} (h : wQ0 E (fun b μ1 => Q (!b) μ1) (bf sl μ)) : wQ0 E Q (notB bf sl μ) := z_w_bind h
theorem z_w_tst {Q : Bool → Mu → Prop} (h : wQ0 E (fun d μ1 => ∃ b, d = .bl b ∧ Q b μ1) (fa sl μ)) : wQ0 E Q (tstD fa sl μ) := z_w_bind (z_wQ_imp h fun a μ h => by
  obtain ⟨b, rfl, h⟩ := h
  exact h)
theorem z_w_and {Q : Bool → Mu → Prop} (h : wQ0 E (fun b μ1 => if b = true then wQ0 E Q (bg sl μ1) else Q false μ1) (bf sl μ)) : wQ0 E Q (andB bf bg sl μ) := z_w_bind (z_wQ_imp h fun b μ h => by cases b <;> exact h)
theorem z_w_or {Q : Bool → Mu → Prop} (h : wQ0 E (fun b μ1 => if b = true then Q true μ1 else wQ0 E Q (bg sl μ1)) (bf sl μ)) : wQ0 E Q (orB bf bg sl μ) := z_w_bind (z_wQ_imp h fun b μ h => by cases b <;> exact h)
theorem z_w_andD {Q : D → Mu → Prop} (h : wQ0 E (fun d μ1 => ∃ b, d = .bl b ∧ if b = true then wQ0 E Q (fb sl μ1) else Q (.bl false) μ1) (fa sl μ)) : wQ0 E Q (andD fa fb sl μ) := z_w_bind (z_wQ_imp h fun d μ h => by
  obtain ⟨b, rfl, h⟩ := h
  cases b <;> exact h)
theorem z_w_orD {Q : D → Mu → Prop} (h : wQ0 E (fun d μ1 => ∃ b, d = .bl b ∧ if b = true then Q (.bl true) μ1 else wQ0 E Q (fb sl μ1)) (fa sl μ)) : wQ0 E Q (orD fa fb sl μ) := z_w_bind (z_wQ_imp h fun d μ h => by
  obtain ⟨b, rfl, h⟩ := h
  cases b <;> exact h)
theorem z_w_notD {Q : D → Mu → Prop} (h : wQ0 E (fun d μ1 => ∃ b, d = .bl b ∧ Q (.bl !b) μ1) (fa sl μ)) : wQ0 E Q (notD fa sl μ) := z_w_bind (z_wQ_imp h fun d μ h => by
  obtain ⟨b, rfl, h⟩ := h
  exact h)
theorem z_w_blD {Q : D → Mu → Prop} (h : wQ0 E (fun b μ1 => Q (.bl b) μ1) (bf sl μ)) : wQ0 E Q (blD bf sl μ) := z_w_bind h
theorem z_w_ifD {Q : D → Mu → Prop} (h : wQ0 E (fun b μ1 => if b = true then wQ0 E Q (fa sl μ1) else wQ0 E Q (fb sl μ1)) (c sl μ)) : wQ0 E Q (ifD c fa fb sl μ) := z_w_bind (z_wQ_imp h fun b μ h => by cases b <;> exact h)
theorem z_w_tru {Q : Bool → Mu → Prop} (h : wQ0 E (fun d μ1 => ∃ b, truD μ1 d = some b ∧ Q b μ1) (fa sl μ)) : wQ0 E Q (truB fa sl μ) := z_w_bind (z_wQ_imp h fun d μ h => by
  obtain ⟨b, e, h⟩ := h
  simp only [e]
  exact h)
theorem z_w_ch {Q : D → Mu → Prop} (h : wQ0 E (fun x μ1 => wQ0 E (fun y μ2 => wQ0 E (fun z μ3 => ∃ b, z = .bl b ∧ if b = true then wQ0 E (fun w μ4 => wQ0 E Q (g' y w μ4)) (fc sl μ3) else Q (.bl false) μ3) (g x y μ2)) (fb sl μ1)) (fa sl μ)) : wQ0 E Q (chD g g' fa fb fc sl μ) :=
  z_w_bind (z_wQ_imp h fun x μ h => z_w_bind (z_wQ_imp h fun y μ h => z_w_bind (z_wQ_imp h fun z μ h => by
    obtain ⟨b, rfl, h⟩ := h
    cases b
    · exact h
    · exact z_w_bind h)))
theorem z_w_nil {Q : List D → Mu → Prop} (h : Q [] μ) : wQ0 E Q (nilL sl μ) := h
theorem z_w_cons {Q : List D → Mu → Prop} (h : wQ0 E (fun d μ1 => wQ0 E (fun es μ2 => Q (d :: es) μ2) (fl sl μ1)) (fa sl μ)) : wQ0 E Q (consL fa fl sl μ) := z_w_bind (z_wQ_imp h fun d μ h => z_w_bind h)
theorem z_w_stL {Q : List D → Mu → Prop} (h : wQ0 E (fun d μ1 => ∃ xs, seqOf μ1 d = some xs ∧ wQ0 E (fun es μ2 => Q (xs ++ es) μ2) (fl sl μ1)) (fa sl μ)) : wQ0 E Q (stL fa fl sl μ) := z_w_bind (z_wQ_imp h fun d μ h => by
  obtain ⟨xs, e, h⟩ := h
  simp only [e]
  exact z_w_bind h)
theorem z_w_tup {Q : D → Mu → Prop} (h : wQ0 E (fun ds μ1 => ds.length ≤ sizeLine ∧ Q (.tup ds) μ1) (fl sl μ)) : wQ0 E Q (tupD fl sl μ) := z_w_bind (z_wQ_imp h fun ds μ h => by
  simp only [if_pos h.1]; exact h.2)
theorem z_w_lst {Q : D → Mu → Prop} (h : wQ0 E (fun ds μ1 => ds.length ≤ sizeLine ∧ Q (.lst ds) μ1) (fl sl μ)) : wQ0 E Q (lstD fl sl μ) := z_w_bind (z_wQ_imp h fun ds μ h => by
  simp only [if_pos h.1]; exact h.2)
/-- a new list, dict as plain data -/
theorem z_w_new {Q : D → Mu → Prop} (h : wQ0 E (fun d μ1 => ((∃ ds, d = .lst ds) ∨ (∃ ks ds, d = .dic ks ds) ∨ ∃ ks ds, d = .dit ks ds) ∧ Q d μ1) (fa sl μ)) : wQ0 E Q (newD fa sl μ) := z_w_bind (z_wQ_imp h fun d μ h => by
  obtain ⟨h1, h⟩ := h
  rcases h1 with ⟨_, rfl⟩ | ⟨_, _, rfl⟩ | ⟨_, _, rfl⟩ <;> exact h)
theorem z_w_box {Q : D → Mu → Prop} (h : wQ0 E (fun d μ1 => ∃ c, ((∃ ds, d = .lst ds ∧ c = .lst ds) ∨ (∃ ks ds, d = .dic ks ds ∧ c = .dic ks ds) ∨ ∃ ks ds, d = .dit ks ds ∧ c = .dit ks ds) ∧ Q (.ref μ1.length) (μ1 ++ [some c])) (fa sl μ)) : wQ0 E Q (boxD fa sl μ) := z_w_bind (z_wQ_imp h fun d μ h => by
  obtain ⟨c, h1, h⟩ := h
  rcases h1 with ⟨_, rfl, rfl⟩ | ⟨_, _, rfl, rfl⟩ | ⟨_, _, rfl, rfl⟩ <;> exact h)
theorem z_w_newL {Q : D → Mu → Prop} (h : wQ0 E (fun d μ1 => ∃ ds, d = .lst ds ∧ Q (.lst ds) μ1) (fa sl μ)) : wQ0 E Q (newD fa sl μ) := z_w_new (z_wQ_imp h fun d μ h => by
  obtain ⟨ds, rfl, h⟩ := h
  exact ⟨.inl ⟨_, rfl⟩, h⟩)
theorem z_w_boxL {Q : D → Mu → Prop} (h : wQ0 E (fun d μ1 => ∃ ds, d = .lst ds ∧ Q (.ref μ1.length) (μ1 ++ [some (.lst ds)])) (fa sl μ)) : wQ0 E Q (boxD fa sl μ) := z_w_box (z_wQ_imp h fun d μ h => by
  obtain ⟨ds, rfl, h⟩ := h
  exact ⟨.lst ds, .inl ⟨_, rfl, rfl⟩, h⟩)
theorem z_w_frz {Q : D → Mu → Prop} (h : wQ0 E (fun d μ1 => ∃ l ds, d = .ref l ∧ μ1[l]? = some (some (.lst ds)) ∧ Q (.lst ds) (μ1.set l none)) (fa sl μ)) : wQ0 E Q (frzD fa sl μ) := z_w_bind (z_wQ_imp h fun d μ h => by
  obtain ⟨l, ds, rfl, e, h⟩ := h
  simp only [e]
  exact h)
theorem z_w_call {Q : D → Mu → Prop} (h : wQ0 E (fun ds μ1 => wQ0 E Q (F ds μ1)) (fl sl μ)) : wQ0 E Q (callB F fl sl μ) := z_w_bind h
theorem z_w_callN {Q : D → Mu → Prop} (hn : ds.length = n) (h : wQ0 E Q (F ds μ)) : wQ0 E Q (callN n F ds μ) := z_w_eq (callN_ok hn) h
theorem z_w_un {Q : D → Mu → Prop} {k : D → Mu → R D} (h : wQ0 E (fun d μ1 => wQ0 E Q (k d μ1)) (fa sl μ)) : wQ0 E Q (unD k fa sl μ) := z_w_bind h
theorem z_w_meth0 {Q : D → Mu → Prop} {ty : Ty} {m : DM} (h : wQ0 E (fun d μ1 => tyD ty μ1 d = true ∧ wQ0 E Q (m d [] μ1)) (fa sl μ)) : wQ0 E Q (meth0 ty m fa sl μ) := z_w_bind (z_wQ_imp h fun d μ h => by
  simp only [if_pos h.1]; exact h.2)
theorem z_w_methB {Q : D → Mu → Prop} {ty : Ty} {m : DM} (h : wQ0 E (fun d μ1 => tyD ty μ1 d = true ∧ wQ0 E (fun ds μ2 => wQ0 E Q (m d ds μ2)) (fl sl μ1)) (fa sl μ)) : wQ0 E Q (methB ty m fa fl sl μ) := z_w_bind (z_wQ_imp h fun d μ h => by
  simp only [if_pos h.1]; exact z_w_bind h.2)
theorem z_w_noO {Q : Option Int → Mu → Prop} (h : Q none μ) : wQ0 E Q (noO sl μ) := h
theorem z_w_someO {Q : Option Int → Mu → Prop} (h : wQ0 E (fun d μ1 => ∃ i, d = .int i ∧ Q (some i) μ1) (fa sl μ)) : wQ0 E Q (someO fa sl μ) := z_w_bind (z_wQ_imp h fun d μ h => by
  obtain ⟨i, rfl, h⟩ := h
  exact h)
theorem z_w_slice {Q : D → Mu → Prop} {lo hi : DO} (h : wQ0 E (fun d μ1 => wQ0 E (fun a μ2 => wQ0 E (fun b μ3 => wQ0 E Q (slD d a b μ3)) (hi sl μ2)) (lo sl μ1)) (fa sl μ)) : wQ0 E Q (sliceD fa lo hi sl μ) :=
  z_w_bind (z_wQ_imp h fun _ _ h => z_w_bind (z_wQ_imp h fun _ _ h => z_w_bind h))
theorem z_w_rev {Q : D → Mu → Prop} (h : wQ0 E (fun d μ1 => ∃ ds, lstOf μ1 d = some ds ∧ Q (.lst ds.reverse) μ1) (fa sl μ)) : wQ0 E Q (revL fa sl μ) := z_w_bind (z_wQ_imp h fun d μ h => by
  obtain ⟨ds, e, h⟩ := h
  simp only [e]; exact h)
theorem z_w_pair0 {Q : List (Key × D) → Mu → Prop} (h : Q [] μ) : wQ0 E Q (pairD [] sl μ) := h
theorem z_w_pairC {ps : List (DE × DE)} {Q : List (Key × D) → Mu → Prop} (h : wQ0 E (fun x μ1 => wQ0 E (fun y μ2 => ∃ k, keyOf x = some k ∧ wQ0 E (fun ps μ3 => Q ((k, y) :: ps) μ3) (pairD ps sl μ2)) (fb sl μ1)) (fa sl μ)) : wQ0 E Q (pairD ((fa, fb) :: ps) sl μ) :=
  z_w_bind (z_wQ_imp h fun _ _ h => z_w_bind (z_wQ_imp h fun _ _ h => by
    obtain ⟨k, e, h⟩ := h
    simp only [e]; exact z_w_bind h))
theorem z_w_disp {ps : List (DE × DE)} {Q : D → Mu → Prop} (h : wQ0 E (fun qs μ1 => qs.length ≤ 15 ∧ Q (.dic (mergD [] [] qs).1 (mergD [] [] qs).2) μ1) (pairD ps sl μ)) : wQ0 E Q (dispD ps sl μ) := z_w_bind (z_wQ_imp h fun _ _ h => by
  simp only [if_pos h.1]; exact h.2)
theorem z_w_newDisp {ps : List (DE × DE)} {Q : D → Mu → Prop} (h : wQ0 E (fun qs μ1 => qs.length ≤ 15 ∧ Q (.dic (mergD [] [] qs).1 (mergD [] [] qs).2) μ1) (pairD ps sl μ)) : wQ0 E Q (newD (dispD ps) sl μ) := z_w_new (z_w_disp (z_wQ_imp h fun _ _ h => ⟨h.1, .inr (.inl ⟨_, _, rfl⟩), h.2⟩))
theorem z_w_newEmp {Q : D → Mu → Prop} (h : Q (.dic [] []) μ) : wQ0 E Q (newD emptyD sl μ) := h
theorem z_w_boxEmp {Q : D → Mu → Prop} (h : Q (.ref μ.length) (μ ++ [some (.dic [] [])])) : wQ0 E Q (boxD emptyD sl μ) := h
/-! sources -/
theorem z_w_seqSrc {Q : Src → Mu → Prop} (h : wQ0 E (fun d μ1 => ∃ ds, seqOf μ1 d = some ds ∧ Q (mkSrc (fixD d) ds (ckS d ds)) μ1) (fa sl μ)) : wQ0 E Q (seqSrc' fa sl μ) := z_w_bind (z_wQ_imp h fun d μ h => by
  obtain ⟨ds, e, h⟩ := h
  simp only [e]; exact h)
/-- .. that can't change -/
theorem z_w_seqSt {Q : Src → Mu → Prop} (h : wQ0 E (fun d μ1 => ∃ ds, seqOf μ1 d = some ds ∧ fixD d = true ∧ Q (.st ds) μ1) (fa sl μ)) : wQ0 E Q (seqSrc' fa sl μ) := z_w_seqSrc (z_wQ_imp h fun d μ h => by
  obtain ⟨ds, e, e2, h⟩ := h
  refine ⟨ds, e, ?_⟩
  rw [e2]; exact h)
theorem z_w_zipSt {Q : Src → Mu → Prop} {b : Bool} (h : wQ0 E (fun ds μ1 => ∃ x y xs ys, ds = [x, y] ∧ seqOf μ1 x = some xs ∧ seqOf μ1 y = some ys ∧ (fixD x = true ∧ fixD y = true) ∧ (b = true → xs.length = ys.length) ∧ Q (.st (zipD xs ys)) μ1) (fl sl μ)) : wQ0 E Q (zipSrc b fl sl μ) := z_w_bind (z_wQ_imp h fun ds μ h => by
  obtain ⟨x, y, xs, ys, rfl, e1, e2, e3, e4, h⟩ := h
  simp only [e1, e2, e3.1, e3.2, if_pos e4]; exact h)
theorem z_w_enSt {Q : Src → Mu → Prop} (h : wQ0 E (fun d μ1 => ∃ ds, seqOf μ1 d = some ds ∧ fixD d = true ∧ Q (.st (enumF 0 ds)) μ1) (fa sl μ)) : wQ0 E Q (enSrc fa sl μ) := z_w_bind (z_wQ_imp h fun d μ h => by
  obtain ⟨ds, e, e2, h⟩ := h
  simp only [e, e2]; exact h)
theorem z_w_rng1 {Q : Src → Mu → Prop} (h : wQ0 E (fun ds μ1 => ∃ j, ds = [.int j] ∧ (j < 2 ^ 62 ∧ -(2 ^ 62) ≤ j) ∧ Q (.st (rngD 0 j.toNat)) μ1) (fl sl μ)) : wQ0 E Q (rngSrc1 fl sl μ) := z_w_bind (z_wQ_imp h fun ds μ h => by
  obtain ⟨j, rfl, e, h⟩ := h
  simp only [if_pos e]; exact h)
theorem z_w_rng2 {Q : Src → Mu → Prop} (h : wQ0 E (fun ds μ1 => ∃ i j, ds = [.int i, .int j] ∧ ((-(2 ^ 62) ≤ i ∧ i < 2 ^ 62) ∧ -(2 ^ 62) ≤ j ∧ j < 2 ^ 62) ∧ Q (.st (rngD i (j - i).toNat)) μ1) (fl sl μ)) : wQ0 E Q (rngSrc2 fl sl μ) := z_w_bind (z_wQ_imp h fun ds μ h => by
  obtain ⟨i, j, rfl, e, h⟩ := h
  simp only [if_pos e]; exact h)
/-! comprehensions -/
theorem z_w_lcD {own : List Nat} {src : Sl → Mu → R Src} {tg : Tg} {Q : D → Mu → Prop} (h : wQ0 E (fun s μ1 => wQ0 E Q (lcL s.g tg c fa (wipeD sl own) s.ds [] μ1)) (src sl μ)) : wQ0 E Q (lcD own src tg c fa sl μ) := z_w_bind h
/-- by what has been found so far -/
theorem z_w_lcL {tg : Tg} {Q : D → Mu → Prop} (I : Nat → List D → Mu → Prop) : ∀ (ds : List D) (k : Nat) (acc : List D) (μ : Mu), I k acc μ →
    (∀ j d acc μ, ds[j]? = some d → I (k + j) acc μ → ∃ sl1, bindT μ tg d sl = some sl1 ∧ wQ0 nE (fun b μ1 => if b = true then wQ0 nE (fun y μ2 => acc.length < sizeLine ∧ I (k + j + 1) (acc ++ [y]) μ2) (fa sl1 μ1) else I (k + j + 1) acc μ1) (c sl1 μ)) →
    (∀ acc μ, I (k + ds.length) acc μ → Q (.lst acc) μ) → wQ0 E Q (lcL (fun _ => true) tg c fa sl ds acc μ)
  | [], k, acc, μ, h0, _, hq => by
    rw [lcL, if_pos rfl]
    exact hq _ _ h0
  | d :: ds, k, acc, μ, h0, hs, hq => by
    obtain ⟨sl1, e, h⟩ := hs 0 d acc μ rfl h0
    obtain ⟨b, μ1, e1, h⟩ := z_wQ_ex h
    have go : ∀ acc μ, I (k + 1) acc μ → wQ0 E Q (lcL (fun _ => true) tg c fa sl ds acc μ) := fun acc μ h1 => z_w_lcL I ds (k + 1) acc μ h1
      (fun j d acc μ hj hi => by
        have := hs (j + 1) d acc μ (by simpa using hj) (by rw [show k + (j + 1) = k + 1 + j by omega]; exact hi)
        rw [show k + (j + 1) = k + 1 + j by omega] at this
        exact this)
      fun acc μ h => hq acc μ (by rw [List.length_cons, show k + (ds.length + 1) = k + 1 + ds.length by omega]; exact h)
    rw [lcL, if_pos rfl]
    simp only [e, e1, ok]
    cases b with
    | false =>
      exact go _ _ h
    | true =>
      obtain ⟨y, μ2, e2, h1, h2⟩ := z_wQ_ex (show wQ0 nE _ _ from h)
      simp only [e2, ok, if_pos h1]
      exact go _ _ h2
/-- one for each, the store as it is -/
theorem z_w_lcMap {tg : Tg} {Q : D → Mu → Prop} (f : D → D) (he : ∀ d ∈ ds, ∃ sl1, bindT μ tg d sl = some sl1 ∧ fa sl1 μ = ok (f d) μ) (hz : ds.length ≤ sizeLine) (hq : Q (.lst (ds.map f)) μ) : wQ0 E Q (lcL (fun _ => true) tg yesB fa sl ds [] μ) := by
  refine z_w_lcL (fun j acc μ' => μ' = μ ∧ acc = (ds.take j).map f) ds 0 [] μ ⟨rfl, by simp⟩ (fun j d acc μ' hj h => ?_) fun acc μ' h => ?_
  · obtain ⟨rfl, rfl⟩ := h
    obtain ⟨sl1, e, e2⟩ := he d (List.mem_of_getElem? hj)
    refine ⟨sl1, e, ?_⟩
    show wQ0 nE _ (ok true μ')
    refine z_w_ok (z_w_is e2 ⟨?_, rfl, ?_⟩)
    · have := (List.getElem?_eq_some_iff.mp hj).1
      simp only [List.length_map, List.length_take]; omega
    · simp only [Nat.zero_add]
      rw [List.take_succ, hj, List.map_append]; rfl
  · obtain ⟨rfl, rfl⟩ := h
    rw [Nat.zero_add, List.take_length]; exact hq
/-- those of which something holds -/
theorem z_w_lcFilter {tg : Tg} {Q : D → Mu → Prop} (p : D → Bool) (f : D → D) (he : ∀ d ∈ ds, ∃ sl1, bindT μ tg d sl = some sl1 ∧ c sl1 μ = ok (p d) μ ∧ (p d = true → fa sl1 μ = ok (f d) μ)) (hz : ds.length ≤ sizeLine) (hq : Q (.lst ((ds.filter p).map f)) μ) : wQ0 E Q (lcL (fun _ => true) tg c fa sl ds [] μ) := by
  refine z_w_lcL (fun j acc μ' => μ' = μ ∧ acc = ((ds.take j).filter p).map f) ds 0 [] μ ⟨rfl, by simp⟩ (fun j d acc μ' hj h => ?_) fun acc μ' h => ?_
  · obtain ⟨rfl, rfl⟩ := h
    obtain ⟨sl1, e, e1, e2⟩ := he d (List.mem_of_getElem? hj)
    refine ⟨sl1, e, z_w_is e1 ?_⟩
    have ht : List.take (0 + j + 1) ds = List.take (0 + j) ds ++ [d] := by rw [List.take_succ, Nat.zero_add, hj]; rfl
    cases hp : p d with
    | false =>
      rw [if_neg Bool.false_ne_true]
      refine ⟨rfl, ?_⟩
      rw [ht, List.filter_append, List.filter_cons_of_neg (by simp [hp])]; simp
    | true =>
      rw [if_pos rfl]
      refine z_w_is (e2 hp) ⟨?_, rfl, ?_⟩
      · have := (List.getElem?_eq_some_iff.mp hj).1
        have h3 := List.length_filter_le p (List.take (0 + j) ds)
        rw [List.length_take] at h3
        rw [List.length_map]; omega
      · rw [ht, List.filter_append, List.filter_cons_of_pos hp, List.map_append]; rfl
  · obtain ⟨rfl, rfl⟩ := h
    rw [Nat.zero_add, List.take_length]; exact hq
/-! statements -/
theorem z_wS_imp {o : Option OutS} (h : wS0 N T B C X o) (h1 : ∀ sl μ, N sl μ → N' sl μ) (h2 : ∀ d μ, T d μ → T' d μ) (h3 : ∀ sl μ, B sl μ → B' sl μ) (h4 : ∀ sl μ, C sl μ → C' sl μ) (h5 : ∀ x sl μ, X x sl μ → X' x sl μ) : wS0 N' T' B' C' X' o := by
  cases o with
  | none => exact h
  | some o => cases o with
    | nx => exact h1 _ _ h
    | rt => exact h2 _ _ h
    | bk => exact h3 _ _ h
    | ct => exact h4 _ _ h
    | exc => exact h5 _ _ _ h
theorem z_w_lif {f : Sl → Mu → R α} {k : Sl → α → Mu → Option OutS} (h : wQ0 (fun x μ' => X x sl μ') (fun a μ' => wS0 N T B C X (k sl a μ')) (f sl μ)) : wS0 N T B C X (lifA f k sl μ) := by
  unfold lifA
  cases hf : f sl μ with
  | none => rw [hf] at h; exact h
  | some o => cases o with
    | ok a μ' => rw [hf] at h; exact h
    | exc x μ' => rw [hf] at h; exact h
theorem z_w_seq (h : wS0 (fun sl μ => wS0 N T B C X (t sl μ)) T B C X (s sl μ)) : wS0 N T B C X (seqS s t sl μ) := by
  unfold seqS
  cases hf : s sl μ with
  | none => rw [hf] at h; exact h
  | some o => rw [hf] at h; cases o <;> exact h
theorem z_w_nx (h : N sl μ) : wS0 N T B C X (nxS sl μ) := h
theorem z_w_bk (h : B sl μ) : wS0 N T B C X (bkS sl μ) := h
theorem z_w_ct (h : C sl μ) : wS0 N T B C X (ctS sl μ) := h
theorem z_w_retN (h : T .non μ) : wS0 N T B C X (retN sl μ) := h
theorem z_w_ret (h : wQ0 (fun x μ' => X x sl μ') T (fa sl μ)) : wS0 N T B C X (retS fa sl μ) := z_w_lif (z_wQ_imp h fun _ _ h => h)
theorem z_w_exp (h : wQ0 (fun x μ' => X x sl μ') (fun _ μ' => N sl μ') (fa sl μ)) : wS0 N T B C X (expS fa sl μ) := z_w_lif (z_wQ_imp h fun _ _ h => h)
theorem z_w_if (h : wQ0 (fun x μ' => X x sl μ') (fun b μ' => if b = true then wS0 N T B C X (s sl μ') else wS0 N T B C X (t sl μ')) (c sl μ)) : wS0 N T B C X (ifS c s t sl μ) := z_w_lif (z_wQ_imp h fun b _ h => by cases b <;> exact h)
theorem z_w_asg {tg : Tg} (h : wQ0 (fun x μ' => X x sl μ') (fun d μ' => ∃ sl1, bindT μ' tg d sl = some sl1 ∧ N sl1 μ') (fa sl μ)) : wS0 N T B C X (asgS fa tg sl μ) := z_w_lif (z_wQ_imp h fun d μ h => by
  obtain ⟨sl1, e, h⟩ := h
  simp only [e]; exact h)
theorem z_w_asgN (h : wQ0 (fun x μ' => X x sl μ') (fun d μ' => N (sl.set i (some d)) μ') (fa sl μ)) : wS0 N T B C X (asgS fa (.nm i) sl μ) := z_w_asg (z_wQ_imp h fun d μ h => ⟨_, rfl, h⟩)
theorem z_w_par {is : List Nat} (h : wQ0 (fun x μ' => X x sl μ') (fun ds μ' => ∃ sl1, bindTs μ' (is.map Tg.nm) ds sl = some sl1 ∧ N sl1 μ') (fl sl μ)) : wS0 N T B C X (parS is fl sl μ) := z_w_lif (z_wQ_imp h fun d μ h => by
  obtain ⟨sl1, e, h⟩ := h
  simp only [e]; exact h)
theorem z_w_aug (h : wQ0 (fun x μ' => X x sl μ') (fun x μ1 => wQ0 (fun x μ' => X x sl μ') (fun y μ2 => wQ0 (fun x μ' => X x sl μ') (fun d μ3 => N (sl.set i (some d)) μ3) (g x y μ2)) (fa sl μ1)) (varD i sl μ)) : wS0 N T B C X (augS i g fa sl μ) :=
  z_w_lif (z_w_bind (z_wQ_imp h fun _ _ h => z_w_bind (z_wQ_imp h fun _ _ h => z_wQ_imp h fun _ _ h => h)))
theorem z_w_set (h : wQ0 (fun x μ' => X x sl μ') (fun v μ1 => wQ0 (fun x μ' => X x sl μ') (fun x μ2 => wQ0 (fun x μ' => X x sl μ') (fun y μ3 => ∃ μ4, setD x y v μ3 = some μ4 ∧ N sl μ4) (fc sl μ2)) (fb sl μ1)) (fa sl μ)) : wS0 N T B C X (setS fa fb fc sl μ) :=
  z_w_lif (z_w_bind (z_wQ_imp h fun _ _ h => z_w_bind (z_wQ_imp h fun _ _ h => z_w_bind (z_wQ_imp h fun _ _ h => by
    obtain ⟨μ4, e, h⟩ := h
    simp only [e]; exact h))))
theorem z_w_for {src : Sl → Mu → R Src} {tg : Tg} (h : wQ0 (fun x μ' => X x sl μ') (fun s μ' => wS0 N T B C X (forL s.g tg t s.ds sl μ')) (src sl μ)) : wS0 N T B C X (forS src tg t sl μ) := z_w_lif h
/-- a loop by an invariant -/
theorem z_w_forL {tg : Tg} {gd : Mu → Bool} (I : Nat → Sl → Mu → Prop) : ∀ (ds : List D) (k : Nat) (sl : Sl) (μ : Mu), I k sl μ → (∀ j sl μ, j ≤ ds.length → I (k + j) sl μ → gd μ = true) →
    (∀ j d sl μ, ds[j]? = some d → I (k + j) sl μ → ∃ sl1, bindT μ tg d sl = some sl1 ∧ wS0 (I (k + j + 1)) T N (I (k + j + 1)) X (t sl1 μ)) →
    (∀ sl μ, I (k + ds.length) sl μ → N sl μ) → wS0 N T B C X (forL gd tg t ds sl μ)
  | [], k, sl, μ, h0, hg, _, hq => by
    rw [forL, if_pos (hg 0 sl μ (Nat.le_refl _) h0)]
    exact hq _ _ h0
  | d :: ds, k, sl, μ, h0, hg, hs, hq => by
    obtain ⟨sl1, e, h⟩ := hs 0 d sl μ rfl h0
    have go : ∀ sl μ, I (k + 1) sl μ → wS0 N T B C X (forL gd tg t ds sl μ) := fun sl μ h1 => z_w_forL I ds (k + 1) sl μ h1
      (fun j sl μ hj hi => hg (j + 1) sl μ (by simpa using hj) (by rw [show k + (j + 1) = k + 1 + j by omega]; exact hi))
      (fun j d sl μ hj hi => by
        have := hs (j + 1) d sl μ (by simpa using hj) (by rw [show k + (j + 1) = k + 1 + j by omega]; exact hi)
        rw [show k + (j + 1) = k + 1 + j by omega] at this
        exact this)
      fun sl μ h => hq sl μ (by rw [List.length_cons, show k + (ds.length + 1) = k + 1 + ds.length by omega]; exact h)
    rw [forL, if_pos (hg 0 sl μ (Nat.zero_le _) h0)]
    simp only [e]
    cases hb : t sl1 μ with
    | none => rw [hb] at h; exact h.elim
    | some o =>
      rw [hb] at h
      cases o with
      | nx sl2 μ2 => exact go _ _ h
      | ct sl2 μ2 => exact go _ _ h
      | bk sl2 μ2 => exact h
      | rt d μ2 => exact h
      | exc x sl2 μ2 => exact h
/-- .. over what can't change -/
theorem z_w_forSt {tg : Tg} (I : Nat → Sl → Mu → Prop) (h0 : I 0 sl μ)
    (hs : ∀ j d sl μ, ds[j]? = some d → I j sl μ → ∃ sl1, bindT μ tg d sl = some sl1 ∧ wS0 (I (j + 1)) T N (I (j + 1)) X (t sl1 μ))
    (hq : ∀ sl μ, I ds.length sl μ → N sl μ) : wS0 N T B C X (forL (fun _ => true) tg t ds sl μ) :=
  z_w_forL I ds 0 sl μ h0 (fun _ _ _ _ _ => rfl) (fun j d sl μ hj h => by rw [Nat.zero_add] at h ⊢; exact hs j d sl μ hj h) (fun sl μ h => by rw [Nat.zero_add] at h; exact hq sl μ h)
/-- a while by a measure -/
theorem z_w_whF (I : Nat → Sl → Mu → Prop) (hs : ∀ n sl μ, I n sl μ → wQ0 (fun x μ' => X x sl μ') (fun b μ1 => if b = true then wS0 (fun sl μ => ∃ m, m < n ∧ I m sl μ) T N (fun sl μ => ∃ m, m < n ∧ I m sl μ) X (t sl μ1) else N sl μ1) (c sl μ)) :
    ∀ (k n : Nat) (sl : Sl) (μ : Mu), n < k → I n sl μ → ∃ j, wS0 N T B C X (whF c t j sl μ)
  | 0, n, sl, μ, hk, _ => by omega
  | k + 1, n, sl, μ, hk, h0 => by
    have h := hs n sl μ h0
    cases hc : c sl μ with
    | none => rw [hc] at h; exact h.elim
    | some o =>
      rw [hc] at h
      cases o with
      | exc x μ1 => exact ⟨1, by rw [whF, hc]; exact h⟩
      | ok b μ1 =>
        cases b with
        | false => exact ⟨1, by rw [whF, hc]; exact h⟩
        | true =>
          have h : wS0 _ _ _ _ _ (t sl μ1) := h
          cases hb : t sl μ1 with
          | none => rw [hb] at h; exact h.elim
          | some o =>
            rw [hb] at h
            cases o with
            | nx sl2 μ2 =>
              obtain ⟨m, hm, h⟩ := h
              obtain ⟨j, hj⟩ := z_w_whF I hs k m sl2 μ2 (by omega) h
              exact ⟨j + 1, by rw [whF, hc]; simp only [hb]; exact hj⟩
            | ct sl2 μ2 =>
              obtain ⟨m, hm, h⟩ := h
              obtain ⟨j, hj⟩ := z_w_whF I hs k m sl2 μ2 (by omega) h
              exact ⟨j + 1, by rw [whF, hc]; simp only [hb]; exact hj⟩
            | bk sl2 μ2 => exact ⟨1, by rw [whF, hc]; simp only [hb]; exact h⟩
            | rt d μ2 => exact ⟨1, by rw [whF, hc]; simp only [hb]; exact h⟩
            | exc x sl2 μ2 => exact ⟨1, by rw [whF, hc]; simp only [hb]; exact h⟩
theorem z_w_wh (I : Nat → Sl → Mu → Prop) (n : Nat) (h0 : I n sl μ) (hs : ∀ n sl μ, I n sl μ → wQ0 (fun x μ' => X x sl μ') (fun b μ1 => if b = true then wS0 (fun sl μ => ∃ m, m < n ∧ I m sl μ) T N (fun sl μ => ∃ m, m < n ∧ I m sl μ) X (t sl μ1) else N sl μ1) (c sl μ)) : wS0 N T B C X (whS c t sl μ) := by
  obtain ⟨j, h⟩ := z_w_whF I hs (n + 1) n sl μ (Nat.lt_succ_self _) h0
  cases e : whF c t j sl μ with
  | none => rw [e] at h; exact h.elim
  | some o => rw [whS_of e]; rw [e] at h; exact h
theorem z_w_body {b : DS} {Q : D → Mu → Prop} (h : wS0 (fun _ μ => Q .non μ) Q (fun _ _ => False) (fun _ _ => False) (fun x _ μ => E x μ) (b (ds.map some ++ List.replicate (n - ds.length) none) μ)) : wQ0 E Q (bodyR b n ds μ) := by
  unfold bodyR
  cases e : b (ds.map some ++ List.replicate (n - ds.length) none) μ with
  | none => rw [e] at h; exact h
  | some o => rw [e] at h; cases o <;> exact h
theorem z_w_ifT {p : Prop} [Decidable p] {a b : Prop} (hp : p) (h : a) : if p then a else b := by rw [if_pos hp]; exact h
theorem z_w_ifF {p : Prop} [Decidable p] {a b : Prop} (hp : ¬p) (h : b) : if p then a else b := by rw [if_neg hp]; exact h
theorem z_w_ifDec {p : Prop} [Decidable p] {a b : Prop} (h1 : p → a) (h2 : ¬p → b) : if decide p = true then a else b := by
  by_cases hp : p
  · rw [if_pos (decide_eq_true hp)]; exact h1 hp
  · rw [decide_eq_false hp, if_neg Bool.false_ne_true]; exact h2 hp
theorem z_w_ifBl {b : Bool} {p q : Prop} (h1 : b = true → p) (h2 : b = false → q) : if b = true then p else q := by
  cases b
  · rw [if_neg Bool.false_ne_true]; exact h2 rfl
  · rw [if_pos rfl]; exact h1 rfl
/-! operators -/
section
variable {Q : D → Mu → Prop} {j : Int} {i : Int}
theorem z_w_addI (h : Q (.int (i + j)) μ) : wQ0 E Q (addD (.int i) (.int j) μ) := h
theorem z_w_subI (h : Q (.int (i - j)) μ) : wQ0 E Q (subI (.int i) (.int j) μ) := h
theorem z_w_mulX (hm : mulOk i j = true) (h : Q (.int (i * j)) μ) : wQ0 E Q (mulX (.int i) (.int j) μ) := z_w_is (a := D.int (i * j)) (μ := μ) (by show (if mulOk i j = true then ok (D.int (i * j)) μ else none) = _; rw [if_pos hm]) h
theorem z_w_mod (hm : j ≠ 0) (h : Q (.int (i.fmod j)) μ) : wQ0 E Q (modI (.int i) (.int j) μ) := z_w_is (a := D.int (i.fmod j)) (μ := μ) (by show (if decide (j ≠ 0) = true then ok (D.int (i.fmod j)) μ else none) = _; rw [if_pos (decide_eq_true hm)]) h
theorem z_w_fdiv (hm : j ≠ 0) (hl : j.natAbs.log2 < 9000) (h : Q (.int (i.fdiv j)) μ) : wQ0 E Q (fdivI (.int i) (.int j) μ) := z_w_is (a := D.int (i.fdiv j)) (μ := μ) (by show (if divOk i j = true then ok (D.int (i.fdiv j)) μ else none) = _; rw [if_pos (divOk_of hm hl)]) h
theorem z_w_cmp {p : Int → Int → Bool} (h : Q (.bl (p i j)) μ) : wQ0 E Q (cmpI p (.int i) (.int j) μ) := h
theorem z_w_neg (h : Q (.int (-i)) μ) : wQ0 E Q (negI (.int i) μ) := h
theorem z_w_ipAdd (h : Q (.int (i + j)) μ) : wQ0 E Q (ipAdd (.int i) (.int j) μ) := h
theorem z_w_addT {xs ys : List D} (hz : xs.length + ys.length ≤ sizeLine) (h : Q (.tup (xs ++ ys)) μ) : wQ0 E Q (addD (.tup xs) (.tup ys) μ) := z_w_is (a := D.tup (xs ++ ys)) (μ := μ) (by show addT (D.tup xs) (D.tup ys) μ = _; unfold addT; simp only [if_pos hz]) h
theorem z_w_addLL {xs ys : List D} (hz : xs.length + ys.length ≤ sizeLine) (h : Q (.lst (xs ++ ys)) μ) : wQ0 E Q (addD (.lst xs) (.lst ys) μ) := z_w_is (a := D.lst (xs ++ ys)) (μ := μ) (by show addL (D.lst xs) (D.lst ys) μ = _; simp only [addL, lstOf, if_pos hz]) h
theorem z_w_eqI (h : Q (.bl (decide (i = j))) μ) : wQ0 E Q (eqD (.int i) (.int j) μ) := z_w_is (a := D.bl (decide (i = j))) (μ := μ) (by
  rw [eqD_pl (pl_int i) (pl_int j)]; simp only [PyData.eqv]; rfl) h
theorem z_w_neI (h : Q (.bl (!decide (i = j))) μ) : wQ0 E Q (neD (.int i) (.int j) μ) := z_w_is (a := D.bl (!decide (i = j))) (μ := μ) (by
  rw [neD_pl (pl_int i) (pl_int j)]; simp only [PyData.eqv]; rfl) h
theorem z_w_eqS {a b : Str} (h : Q (.bl (decide (a = b))) μ) : wQ0 E Q (eqD (.str a) (.str b) μ) := h
theorem z_w_neS {a b : Str} (h : Q (.bl (!decide (a = b))) μ) : wQ0 E Q (neD (.str a) (.str b) μ) := h
theorem z_w_len {xs : List D} (he : seqOf μ d = some xs) (h : Q (.int xs.length) μ) : wQ0 E Q (dcLen [d] μ) := z_w_is (by
  cases d with
  | str z => cases he
  | _ => simp only [dcLen, he]) h
theorem z_w_ix {xs : List D} {k : Nat} (he : seqOf μ d = some xs) (hk : xs[k]? = some x) (h : Q x μ) : wQ0 E Q (ixD d (.int (k : Nat)) μ) := z_w_is (by
  unfold ixD
  simp only [he, atI_nat hk]) h
theorem z_w_ixL {xs : List D} {k : Int} (he : seqOf μ d = some xs) (hk : atI xs k = some x) (h : Q x μ) : wQ0 E Q (ixD d (.int k) μ) := z_w_is (by
  unfold ixD
  simp only [he, hk]) h
theorem z_w_int (h : Q (.int i) μ) : wQ0 E Q (dcInt [.int i] μ) := h
theorem z_w_intB {b : Bool} (h : Q (.int (if b then 1 else 0)) μ) : wQ0 E Q (dcInt [.bl b] μ) := h
theorem z_w_abs (h : Q (.int (if i < 0 then -i else i)) μ) : wQ0 E Q (dcAbs [.int i] μ) := h
theorem z_w_max2 (h : Q (.int (if j > i then j else i)) μ) : wQ0 E Q (dcMax2 [.int i, .int j] μ) := h
theorem z_w_min2 (h : Q (.int (if j < i then j else i)) μ) : wQ0 E Q (dcMin2 [.int i, .int j] μ) := h
theorem z_w_gcd (h : Q (.int ((Nat.gcd i.natAbs j.natAbs : Nat) : Int)) μ) : wQ0 E Q (dcGcd [.int i, .int j] μ) := h
theorem z_w_tuple {xs : List D} (he : seqOf μ d = some xs) (h : Q (.tup xs) μ) : wQ0 E Q (dcTuple [d] μ) := z_w_is (by unfold dcTuple; simp only [he]) h
theorem z_w_list {xs : List D} (he : seqOf μ d = some xs) (h : Q (.lst xs) μ) : wQ0 E Q (dcList [d] μ) := z_w_is (by unfold dcList; simp only [he]) h
theorem z_w_sum {xs : List D} {ns : List Int} (he : lstOf μ d = some xs) (hn : intsOf xs = some ns) (h : Q (.int ns.sum) μ) : wQ0 E Q (dcSum [d] μ) := z_w_is (by unfold dcSum; simp only [he, Option.bind_some, hn]) h
theorem z_w_any {xs : List D} {ns : List Bool} (he : lstOf μ d = some xs) (hn : blsOf xs = some ns) (h : Q (.bl (ns.any id)) μ) : wQ0 E Q (dcAny [d] μ) := z_w_is (by unfold dcAny; simp only [he, Option.bind_some, hn]) h
theorem z_w_all {xs : List D} {ns : List Bool} (he : lstOf μ d = some xs) (hn : blsOf xs = some ns) (h : Q (.bl (ns.all id)) μ) : wQ0 E Q (dcAll [d] μ) := z_w_is (by unfold dcAll; simp only [he, Option.bind_some, hn]) h
theorem z_w_append {xs : List D} {l : Nat} {v : D} (he : μ[l]? = some (some (.lst xs))) (hz : xs.length < sizeLine) (h : Q .non (setL μ l (xs ++ [v]))) : wQ0 E Q (dmAppend (.ref l) [v] μ) := z_w_is (by unfold dmAppend; simp only [rawL, he, if_pos hz]) h
theorem z_w_extend {xs ys : List D} {l : Nat} {v : D} (he : μ[l]? = some (some (.lst xs))) (hv : seqOf μ v = some ys) (hz : xs.length + ys.length ≤ sizeLine) (h : Q .non (setL μ l (xs ++ ys))) : wQ0 E Q (dmExtend (.ref l) [v] μ) := z_w_is (by unfold dmExtend; simp only [rawL, he, hv, if_pos hz]) h
theorem z_w_pop {xs : List D} {l : Nat} {v : D} (he : μ[l]? = some (some (.lst (xs ++ [v])))) (h : Q v (setL μ l xs)) : wQ0 E Q (dmPop (.ref l) [] μ) := z_w_is (by unfold dmPop; simp [rawL, he]) h
end
end
theorem z_w_tupRg1 {E : Exn → Mu → Prop} {sl : Sl} {μ : Mu} {fa : DE} {Q : D → Mu → Prop} (h : wQ0 E (fun d μ1 => ∃ n, d = .int n ∧ rgOkB 0 n = true ∧ Q (.tup (rngD 0 (n - 0).toNat)) μ1) (fa sl μ)) : wQ0 E Q (tupRg1 fa sl μ) := by
  unfold tupRg1
  refine z_w_bind (z_wQ_imp h fun d μ1 h => ?_)
  obtain ⟨n, rfl, h1, h2⟩ := h
  show wQ0 E Q (if rgOkB 0 n = true then ok (D.tup (rngD 0 (n - 0).toNat)) μ1 else none)
  rw [if_pos h1]; exact h2
theorem rgOk_nat {n : Nat} (h : n ≤ 1000000) : rgOkB 0 ((n : Nat) : Int) = true := by
  unfold rgOkB; simp only [Bool.and_eq_true, decide_eq_true_eq]; omega
theorem z_w_lstRg1 {E : Exn → Mu → Prop} {sl : Sl} {μ : Mu} {fa : DE} {Q : D → Mu → Prop} (h : wQ0 E (fun d μ1 => ∃ n, d = .int n ∧ rgOkB 0 n = true ∧ Q (.lst (rngD 0 (n - 0).toNat)) μ1) (fa sl μ)) : wQ0 E Q (lstRg1 fa sl μ) := by
  unfold lstRg1
  refine z_w_bind (z_wQ_imp h fun d μ1 h => ?_)
  obtain ⟨n, rfl, h1, h2⟩ := h
  show wQ0 E Q (if rgOkB 0 n = true then ok (D.lst (rngD 0 (n - 0).toNat)) μ1 else none)
  rw [if_pos h1]; exact h2
theorem z_w_lstRg2 {E : Exn → Mu → Prop} {sl : Sl} {μ : Mu} {fa fb : DE} {Q : D → Mu → Prop} (h : wQ0 E (fun d μ1 => wQ0 E (fun e μ2 => ∃ i j, d = .int i ∧ e = .int j ∧ rgOkB i j = true ∧ Q (.lst (rngD i (j - i).toNat)) μ2) (fb sl μ1)) (fa sl μ)) : wQ0 E Q (lstRg2 fa fb sl μ) := by
  unfold lstRg2
  refine z_w_bind (z_wQ_imp h fun d μ1 h => z_w_bind (z_wQ_imp h fun e μ2 h => ?_))
  obtain ⟨i, j, rfl, rfl, h1, h2⟩ := h
  show wQ0 E Q (if rgOkB i j = true then ok (D.lst (rngD i (j - i).toNat)) μ2 else none)
  rw [if_pos h1]; exact h2
@[irreducible] def wS := @wS0
@[irreducible] def wQ {α : Type} := @wQ0 α
theorem wS_def : @wS = @wS0 := by unfold wS; rfl
theorem wQ_def {α : Type} : @wQ α = @wQ0 α := by unfold wQ; rfl
section
variable {α β : Type} {E : Exn → Mu → Prop} {Q Q' : α → Mu → Prop} {N N' : Sl → Mu → Prop} {T T' : D → Mu → Prop} {B B' C C' : Sl → Mu → Prop} {X X' : Exn → Sl → Mu → Prop} {sl sl1 : Sl} {μ μ1 : Mu} {d x y : D} {fa fb fc : DE} {fl : DL} {g g' : D2} {s t : DS} {c bf bg : Sl → Mu → R Bool} {F : DC} {ds xs : List D} {n i : Nat}
theorem wQ_imp {r : R α} (h : wQ E Q r) (q : ∀ a μ, Q a μ → Q' a μ) : wQ E Q' r := by
  try simp only [wQ_def, wS_def] at *
  exact z_wQ_imp h q
theorem wQ_ex {r : R α} (h : wQ nE Q r) : ∃ a μ', r = ok a μ' ∧ Q a μ' := by
  try simp only [wQ_def, wS_def] at *
  exact z_wQ_ex h
theorem wQ_is {r : R α} {a : α} (h : wQ nE (fun b μ' => b = a ∧ μ' = μ) r) : r = ok a μ := by
  try simp only [wQ_def, wS_def] at *
  exact z_wQ_is h
theorem w_ok {a : α} (h : Q a μ) : wQ E Q (ok a μ) := by
  try simp only [wQ_def, wS_def] at *
  exact z_w_ok h
theorem w_eq {r r' : R α} (e : r = r') (h : wQ E Q r') : wQ E Q r := by
  try simp only [wQ_def, wS_def] at *
  exact z_w_eq e h
theorem w_is {r : R α} {a : α} (e : r = ok a μ) (h : Q a μ) : wQ E Q r := by
  try simp only [wQ_def, wS_def] at *
  exact z_w_is e h
theorem w_bind {r : R β} {k : β → Mu → R α} (h : wQ E (fun a μ1 => wQ E Q (k a μ1)) r) : wQ E Q (bindR r k) := by
  try simp only [wQ_def, wS_def] at *
  exact z_w_bind h
theorem w_var (e : sl[i]? = some (some d)) {Q : D → Mu → Prop} (h : Q d μ) : wQ E Q (varD i sl μ) := by
  try simp only [wQ_def, wS_def] at *
  exact z_w_var e h
theorem w_c {Q : D → Mu → Prop} (h : Q d μ) : wQ E Q (cD d sl μ) := by
  try simp only [wQ_def, wS_def] at *
  exact z_w_c h
theorem w_bin {Q : D → Mu → Prop} (h : wQ E (fun x μ1 => wQ E (fun y μ2 => wQ E Q (g x y μ2)) (fb sl μ1)) (fa sl μ)) : wQ E Q (binD g fa fb sl μ) := by
  try simp only [wQ_def, wS_def] at *
  exact z_w_bin h
theorem w_not {Q : Bool → Mu → Prop} (h : wQ E (fun b μ1 => Q (!b) μ1) (bf sl μ)) : wQ E Q (notB bf sl μ) := by
  try simp only [wQ_def, wS_def] at *
  exact z_w_not h
theorem w_tst {Q : Bool → Mu → Prop} (h : wQ E (fun d μ1 => ∃ b, d = .bl b ∧ Q b μ1) (fa sl μ)) : wQ E Q (tstD fa sl μ) := by
  try simp only [wQ_def, wS_def] at *
  exact z_w_tst h
theorem w_and {Q : Bool → Mu → Prop} (h : wQ E (fun b μ1 => if b = true then wQ E Q (bg sl μ1) else Q false μ1) (bf sl μ)) : wQ E Q (andB bf bg sl μ) := by
  try simp only [wQ_def, wS_def] at *
  exact z_w_and h
theorem w_or {Q : Bool → Mu → Prop} (h : wQ E (fun b μ1 => if b = true then Q true μ1 else wQ E Q (bg sl μ1)) (bf sl μ)) : wQ E Q (orB bf bg sl μ) := by
  try simp only [wQ_def, wS_def] at *
  exact z_w_or h
theorem w_andD {Q : D → Mu → Prop} (h : wQ E (fun d μ1 => ∃ b, d = .bl b ∧ if b = true then wQ E Q (fb sl μ1) else Q (.bl false) μ1) (fa sl μ)) : wQ E Q (andD fa fb sl μ) := by
  try simp only [wQ_def, wS_def] at *
  exact z_w_andD h
theorem w_orD {Q : D → Mu → Prop} (h : wQ E (fun d μ1 => ∃ b, d = .bl b ∧ if b = true then Q (.bl true) μ1 else wQ E Q (fb sl μ1)) (fa sl μ)) : wQ E Q (orD fa fb sl μ) := by
  try simp only [wQ_def, wS_def] at *
  exact z_w_orD h
theorem w_notD {Q : D → Mu → Prop} (h : wQ E (fun d μ1 => ∃ b, d = .bl b ∧ Q (.bl !b) μ1) (fa sl μ)) : wQ E Q (notD fa sl μ) := by
  try simp only [wQ_def, wS_def] at *
  exact z_w_notD h
theorem w_blD {Q : D → Mu → Prop} (h : wQ E (fun b μ1 => Q (.bl b) μ1) (bf sl μ)) : wQ E Q (blD bf sl μ) := by
  try simp only [wQ_def, wS_def] at *
  exact z_w_blD h
theorem w_ifD {Q : D → Mu → Prop} (h : wQ E (fun b μ1 => if b = true then wQ E Q (fa sl μ1) else wQ E Q (fb sl μ1)) (c sl μ)) : wQ E Q (ifD c fa fb sl μ) := by
  try simp only [wQ_def, wS_def] at *
  exact z_w_ifD h
theorem w_tru {Q : Bool → Mu → Prop} (h : wQ E (fun d μ1 => ∃ b, truD μ1 d = some b ∧ Q b μ1) (fa sl μ)) : wQ E Q (truB fa sl μ) := by
  try simp only [wQ_def, wS_def] at *
  exact z_w_tru h
theorem w_ch {Q : D → Mu → Prop} (h : wQ E (fun x μ1 => wQ E (fun y μ2 => wQ E (fun z μ3 => ∃ b, z = .bl b ∧ if b = true then wQ E (fun w μ4 => wQ E Q (g' y w μ4)) (fc sl μ3) else Q (.bl false) μ3) (g x y μ2)) (fb sl μ1)) (fa sl μ)) : wQ E Q (chD g g' fa fb fc sl μ) := by
  try simp only [wQ_def, wS_def] at *
  exact z_w_ch h
theorem w_nil {Q : List D → Mu → Prop} (h : Q [] μ) : wQ E Q (nilL sl μ) := by
  try simp only [wQ_def, wS_def] at *
  exact z_w_nil h
theorem w_cons {Q : List D → Mu → Prop} (h : wQ E (fun d μ1 => wQ E (fun es μ2 => Q (d :: es) μ2) (fl sl μ1)) (fa sl μ)) : wQ E Q (consL fa fl sl μ) := by
  try simp only [wQ_def, wS_def] at *
  exact z_w_cons h
theorem w_stL {Q : List D → Mu → Prop} (h : wQ E (fun d μ1 => ∃ xs, seqOf μ1 d = some xs ∧ wQ E (fun es μ2 => Q (xs ++ es) μ2) (fl sl μ1)) (fa sl μ)) : wQ E Q (stL fa fl sl μ) := by
  try simp only [wQ_def, wS_def] at *
  exact z_w_stL h
theorem w_tup {Q : D → Mu → Prop} (h : wQ E (fun ds μ1 => ds.length ≤ sizeLine ∧ Q (.tup ds) μ1) (fl sl μ)) : wQ E Q (tupD fl sl μ) := by
  try simp only [wQ_def, wS_def] at *
  exact z_w_tup h
theorem w_lst {Q : D → Mu → Prop} (h : wQ E (fun ds μ1 => ds.length ≤ sizeLine ∧ Q (.lst ds) μ1) (fl sl μ)) : wQ E Q (lstD fl sl μ) := by
  try simp only [wQ_def, wS_def] at *
  exact z_w_lst h
theorem w_new {Q : D → Mu → Prop} (h : wQ E (fun d μ1 => ((∃ ds, d = .lst ds) ∨ (∃ ks ds, d = .dic ks ds) ∨ ∃ ks ds, d = .dit ks ds) ∧ Q d μ1) (fa sl μ)) : wQ E Q (newD fa sl μ) := by
  try simp only [wQ_def, wS_def] at *
  exact z_w_new h
theorem w_box {Q : D → Mu → Prop} (h : wQ E (fun d μ1 => ∃ c, ((∃ ds, d = .lst ds ∧ c = .lst ds) ∨ (∃ ks ds, d = .dic ks ds ∧ c = .dic ks ds) ∨ ∃ ks ds, d = .dit ks ds ∧ c = .dit ks ds) ∧ Q (.ref μ1.length) (μ1 ++ [some c])) (fa sl μ)) : wQ E Q (boxD fa sl μ) := by
  try simp only [wQ_def, wS_def] at *
  exact z_w_box h
theorem w_newL {Q : D → Mu → Prop} (h : wQ E (fun d μ1 => ∃ ds, d = .lst ds ∧ Q (.lst ds) μ1) (fa sl μ)) : wQ E Q (newD fa sl μ) := by
  try simp only [wQ_def, wS_def] at *
  exact z_w_newL h
theorem w_boxL {Q : D → Mu → Prop} (h : wQ E (fun d μ1 => ∃ ds, d = .lst ds ∧ Q (.ref μ1.length) (μ1 ++ [some (.lst ds)])) (fa sl μ)) : wQ E Q (boxD fa sl μ) := by
  try simp only [wQ_def, wS_def] at *
  exact z_w_boxL h
theorem w_frz {Q : D → Mu → Prop} (h : wQ E (fun d μ1 => ∃ l ds, d = .ref l ∧ μ1[l]? = some (some (.lst ds)) ∧ Q (.lst ds) (μ1.set l none)) (fa sl μ)) : wQ E Q (frzD fa sl μ) := by
  try simp only [wQ_def, wS_def] at *
  exact z_w_frz h
theorem w_call {Q : D → Mu → Prop} (h : wQ E (fun ds μ1 => wQ E Q (F ds μ1)) (fl sl μ)) : wQ E Q (callB F fl sl μ) := by
  try simp only [wQ_def, wS_def] at *
  exact z_w_call h
theorem w_callN {Q : D → Mu → Prop} (hn : ds.length = n) (h : wQ E Q (F ds μ)) : wQ E Q (callN n F ds μ) := by
  try simp only [wQ_def, wS_def] at *
  exact z_w_callN hn h
theorem w_un {Q : D → Mu → Prop} {k : D → Mu → R D} (h : wQ E (fun d μ1 => wQ E Q (k d μ1)) (fa sl μ)) : wQ E Q (unD k fa sl μ) := by
  try simp only [wQ_def, wS_def] at *
  exact z_w_un h
theorem w_meth0 {Q : D → Mu → Prop} {ty : Ty} {m : DM} (h : wQ E (fun d μ1 => tyD ty μ1 d = true ∧ wQ E Q (m d [] μ1)) (fa sl μ)) : wQ E Q (meth0 ty m fa sl μ) := by
  try simp only [wQ_def, wS_def] at *
  exact z_w_meth0 h
theorem w_methB {Q : D → Mu → Prop} {ty : Ty} {m : DM} (h : wQ E (fun d μ1 => tyD ty μ1 d = true ∧ wQ E (fun ds μ2 => wQ E Q (m d ds μ2)) (fl sl μ1)) (fa sl μ)) : wQ E Q (methB ty m fa fl sl μ) := by
  try simp only [wQ_def, wS_def] at *
  exact z_w_methB h
theorem w_noO {Q : Option Int → Mu → Prop} (h : Q none μ) : wQ E Q (noO sl μ) := by
  try simp only [wQ_def, wS_def] at *
  exact z_w_noO h
theorem w_someO {Q : Option Int → Mu → Prop} (h : wQ E (fun d μ1 => ∃ i, d = .int i ∧ Q (some i) μ1) (fa sl μ)) : wQ E Q (someO fa sl μ) := by
  try simp only [wQ_def, wS_def] at *
  exact z_w_someO h
theorem w_slice {Q : D → Mu → Prop} {lo hi : DO} (h : wQ E (fun d μ1 => wQ E (fun a μ2 => wQ E (fun b μ3 => wQ E Q (slD d a b μ3)) (hi sl μ2)) (lo sl μ1)) (fa sl μ)) : wQ E Q (sliceD fa lo hi sl μ) := by
  try simp only [wQ_def, wS_def] at *
  exact z_w_slice h
theorem w_rev {Q : D → Mu → Prop} (h : wQ E (fun d μ1 => ∃ ds, lstOf μ1 d = some ds ∧ Q (.lst ds.reverse) μ1) (fa sl μ)) : wQ E Q (revL fa sl μ) := by
  try simp only [wQ_def, wS_def] at *
  exact z_w_rev h
theorem w_pair0 {Q : List (Key × D) → Mu → Prop} (h : Q [] μ) : wQ E Q (pairD [] sl μ) := by
  try simp only [wQ_def, wS_def] at *
  exact z_w_pair0 h
theorem w_pairC {ps : List (DE × DE)} {Q : List (Key × D) → Mu → Prop} (h : wQ E (fun x μ1 => wQ E (fun y μ2 => ∃ k, keyOf x = some k ∧ wQ E (fun ps μ3 => Q ((k, y) :: ps) μ3) (pairD ps sl μ2)) (fb sl μ1)) (fa sl μ)) : wQ E Q (pairD ((fa, fb) :: ps) sl μ) := by
  try simp only [wQ_def, wS_def] at *
  exact z_w_pairC h
theorem w_disp {ps : List (DE × DE)} {Q : D → Mu → Prop} (h : wQ E (fun qs μ1 => qs.length ≤ 15 ∧ Q (.dic (mergD [] [] qs).1 (mergD [] [] qs).2) μ1) (pairD ps sl μ)) : wQ E Q (dispD ps sl μ) := by
  try simp only [wQ_def, wS_def] at *
  exact z_w_disp h
theorem w_newDisp {ps : List (DE × DE)} {Q : D → Mu → Prop} (h : wQ E (fun qs μ1 => qs.length ≤ 15 ∧ Q (.dic (mergD [] [] qs).1 (mergD [] [] qs).2) μ1) (pairD ps sl μ)) : wQ E Q (newD (dispD ps) sl μ) := by
  try simp only [wQ_def, wS_def] at *
  exact z_w_newDisp h
theorem w_newEmp {Q : D → Mu → Prop} (h : Q (.dic [] []) μ) : wQ E Q (newD emptyD sl μ) := by
  try simp only [wQ_def, wS_def] at *
  exact z_w_newEmp h
theorem w_boxEmp {Q : D → Mu → Prop} (h : Q (.ref μ.length) (μ ++ [some (.dic [] [])])) : wQ E Q (boxD emptyD sl μ) := by
  try simp only [wQ_def, wS_def] at *
  exact z_w_boxEmp h
theorem w_seqSrc {Q : Src → Mu → Prop} (h : wQ E (fun d μ1 => ∃ ds, seqOf μ1 d = some ds ∧ Q (mkSrc (fixD d) ds (ckS d ds)) μ1) (fa sl μ)) : wQ E Q (seqSrc' fa sl μ) := by
  try simp only [wQ_def, wS_def] at *
  exact z_w_seqSrc h
theorem w_seqSt {Q : Src → Mu → Prop} (h : wQ E (fun d μ1 => ∃ ds, seqOf μ1 d = some ds ∧ fixD d = true ∧ Q (.st ds) μ1) (fa sl μ)) : wQ E Q (seqSrc' fa sl μ) := by
  try simp only [wQ_def, wS_def] at *
  exact z_w_seqSt h
theorem w_zipSt {Q : Src → Mu → Prop} {b : Bool} (h : wQ E (fun ds μ1 => ∃ x y xs ys, ds = [x, y] ∧ seqOf μ1 x = some xs ∧ seqOf μ1 y = some ys ∧ (fixD x = true ∧ fixD y = true) ∧ (b = true → xs.length = ys.length) ∧ Q (.st (zipD xs ys)) μ1) (fl sl μ)) : wQ E Q (zipSrc b fl sl μ) := by
  try simp only [wQ_def, wS_def] at *
  exact z_w_zipSt h
theorem w_enSt {Q : Src → Mu → Prop} (h : wQ E (fun d μ1 => ∃ ds, seqOf μ1 d = some ds ∧ fixD d = true ∧ Q (.st (enumF 0 ds)) μ1) (fa sl μ)) : wQ E Q (enSrc fa sl μ) := by
  try simp only [wQ_def, wS_def] at *
  exact z_w_enSt h
theorem w_rng1 {Q : Src → Mu → Prop} (h : wQ E (fun ds μ1 => ∃ j, ds = [.int j] ∧ (j < 2 ^ 62 ∧ -(2 ^ 62) ≤ j) ∧ Q (.st (rngD 0 j.toNat)) μ1) (fl sl μ)) : wQ E Q (rngSrc1 fl sl μ) := by
  try simp only [wQ_def, wS_def] at *
  exact z_w_rng1 h
theorem w_rng2 {Q : Src → Mu → Prop} (h : wQ E (fun ds μ1 => ∃ i j, ds = [.int i, .int j] ∧ ((-(2 ^ 62) ≤ i ∧ i < 2 ^ 62) ∧ -(2 ^ 62) ≤ j ∧ j < 2 ^ 62) ∧ Q (.st (rngD i (j - i).toNat)) μ1) (fl sl μ)) : wQ E Q (rngSrc2 fl sl μ) := by
  try simp only [wQ_def, wS_def] at *
  exact z_w_rng2 h
theorem w_lcD {own : List Nat} {src : Sl → Mu → R Src} {tg : Tg} {Q : D → Mu → Prop} (h : wQ E (fun s μ1 => wQ E Q (lcL s.g tg c fa (wipeD sl own) s.ds [] μ1)) (src sl μ)) : wQ E Q (lcD own src tg c fa sl μ) := by
  try simp only [wQ_def, wS_def] at *
  exact z_w_lcD h
theorem w_lcL {tg : Tg} {Q : D → Mu → Prop} (I : Nat → List D → Mu → Prop) : ∀ (ds : List D) (k : Nat) (acc : List D) (μ : Mu), I k acc μ →
    (∀ j d acc μ, ds[j]? = some d → I (k + j) acc μ → ∃ sl1, bindT μ tg d sl = some sl1 ∧ wQ nE (fun b μ1 => if b = true then wQ nE (fun y μ2 => acc.length < sizeLine ∧ I (k + j + 1) (acc ++ [y]) μ2) (fa sl1 μ1) else I (k + j + 1) acc μ1) (c sl1 μ)) →
    (∀ acc μ, I (k + ds.length) acc μ → Q (.lst acc) μ) → wQ E Q (lcL (fun _ => true) tg c fa sl ds acc μ) := by
  try simp only [wQ_def, wS_def] at *
  exact z_w_lcL I
theorem w_lcMap {tg : Tg} {Q : D → Mu → Prop} (f : D → D) (he : ∀ d ∈ ds, ∃ sl1, bindT μ tg d sl = some sl1 ∧ fa sl1 μ = ok (f d) μ) (hz : ds.length ≤ sizeLine) (hq : Q (.lst (ds.map f)) μ) : wQ E Q (lcL (fun _ => true) tg yesB fa sl ds [] μ) := by
  try simp only [wQ_def, wS_def] at *
  exact z_w_lcMap f he hz hq
theorem w_lcFilter {tg : Tg} {Q : D → Mu → Prop} (p : D → Bool) (f : D → D) (he : ∀ d ∈ ds, ∃ sl1, bindT μ tg d sl = some sl1 ∧ c sl1 μ = ok (p d) μ ∧ (p d = true → fa sl1 μ = ok (f d) μ)) (hz : ds.length ≤ sizeLine) (hq : Q (.lst ((ds.filter p).map f)) μ) : wQ E Q (lcL (fun _ => true) tg c fa sl ds [] μ) := by
  try simp only [wQ_def, wS_def] at *
  exact z_w_lcFilter p f he hz hq
theorem wS_imp {o : Option OutS} (h : wS N T B C X o) (h1 : ∀ sl μ, N sl μ → N' sl μ) (h2 : ∀ d μ, T d μ → T' d μ) (h3 : ∀ sl μ, B sl μ → B' sl μ) (h4 : ∀ sl μ, C sl μ → C' sl μ) (h5 : ∀ x sl μ, X x sl μ → X' x sl μ) : wS N' T' B' C' X' o := by
  try simp only [wQ_def, wS_def] at *
  exact z_wS_imp h h1 h2 h3 h4 h5
theorem w_lif {f : Sl → Mu → R α} {k : Sl → α → Mu → Option OutS} (h : wQ (fun x μ' => X x sl μ') (fun a μ' => wS N T B C X (k sl a μ')) (f sl μ)) : wS N T B C X (lifA f k sl μ) := by
  try simp only [wQ_def, wS_def] at *
  exact z_w_lif h
theorem w_seq (h : wS (fun sl μ => wS N T B C X (t sl μ)) T B C X (s sl μ)) : wS N T B C X (seqS s t sl μ) := by
  try simp only [wQ_def, wS_def] at *
  exact z_w_seq h
theorem w_nx (h : N sl μ) : wS N T B C X (nxS sl μ) := by
  try simp only [wQ_def, wS_def] at *
  exact z_w_nx h
theorem w_bk (h : B sl μ) : wS N T B C X (bkS sl μ) := by
  try simp only [wQ_def, wS_def] at *
  exact z_w_bk h
theorem w_ct (h : C sl μ) : wS N T B C X (ctS sl μ) := by
  try simp only [wQ_def, wS_def] at *
  exact z_w_ct h
theorem w_retN (h : T .non μ) : wS N T B C X (retN sl μ) := by
  try simp only [wQ_def, wS_def] at *
  exact z_w_retN h
theorem w_ret (h : wQ (fun x μ' => X x sl μ') T (fa sl μ)) : wS N T B C X (retS fa sl μ) := by
  try simp only [wQ_def, wS_def] at *
  exact z_w_ret h
theorem w_exp (h : wQ (fun x μ' => X x sl μ') (fun _ μ' => N sl μ') (fa sl μ)) : wS N T B C X (expS fa sl μ) := by
  try simp only [wQ_def, wS_def] at *
  exact z_w_exp h
theorem w_if (h : wQ (fun x μ' => X x sl μ') (fun b μ' => if b = true then wS N T B C X (s sl μ') else wS N T B C X (t sl μ')) (c sl μ)) : wS N T B C X (ifS c s t sl μ) := by
  try simp only [wQ_def, wS_def] at *
  exact z_w_if h
theorem w_asg {tg : Tg} (h : wQ (fun x μ' => X x sl μ') (fun d μ' => ∃ sl1, bindT μ' tg d sl = some sl1 ∧ N sl1 μ') (fa sl μ)) : wS N T B C X (asgS fa tg sl μ) := by
  try simp only [wQ_def, wS_def] at *
  exact z_w_asg h
theorem w_asgN (h : wQ (fun x μ' => X x sl μ') (fun d μ' => N (sl.set i (some d)) μ') (fa sl μ)) : wS N T B C X (asgS fa (.nm i) sl μ) := by
  try simp only [wQ_def, wS_def] at *
  exact z_w_asgN h
theorem w_par {is : List Nat} (h : wQ (fun x μ' => X x sl μ') (fun ds μ' => ∃ sl1, bindTs μ' (is.map Tg.nm) ds sl = some sl1 ∧ N sl1 μ') (fl sl μ)) : wS N T B C X (parS is fl sl μ) := by
  try simp only [wQ_def, wS_def] at *
  exact z_w_par h
theorem w_aug (h : wQ (fun x μ' => X x sl μ') (fun x μ1 => wQ (fun x μ' => X x sl μ') (fun y μ2 => wQ (fun x μ' => X x sl μ') (fun d μ3 => N (sl.set i (some d)) μ3) (g x y μ2)) (fa sl μ1)) (varD i sl μ)) : wS N T B C X (augS i g fa sl μ) := by
  try simp only [wQ_def, wS_def] at *
  exact z_w_aug h
theorem w_set (h : wQ (fun x μ' => X x sl μ') (fun v μ1 => wQ (fun x μ' => X x sl μ') (fun x μ2 => wQ (fun x μ' => X x sl μ') (fun y μ3 => ∃ μ4, setD x y v μ3 = some μ4 ∧ N sl μ4) (fc sl μ2)) (fb sl μ1)) (fa sl μ)) : wS N T B C X (setS fa fb fc sl μ) := by
  try simp only [wQ_def, wS_def] at *
  exact z_w_set h
theorem w_for {src : Sl → Mu → R Src} {tg : Tg} (h : wQ (fun x μ' => X x sl μ') (fun s μ' => wS N T B C X (forL s.g tg t s.ds sl μ')) (src sl μ)) : wS N T B C X (forS src tg t sl μ) := by
  try simp only [wQ_def, wS_def] at *
  exact z_w_for h
theorem w_forL {tg : Tg} {gd : Mu → Bool} (I : Nat → Sl → Mu → Prop) : ∀ (ds : List D) (k : Nat) (sl : Sl) (μ : Mu), I k sl μ → (∀ j sl μ, j ≤ ds.length → I (k + j) sl μ → gd μ = true) →
    (∀ j d sl μ, ds[j]? = some d → I (k + j) sl μ → ∃ sl1, bindT μ tg d sl = some sl1 ∧ wS (I (k + j + 1)) T N (I (k + j + 1)) X (t sl1 μ)) →
    (∀ sl μ, I (k + ds.length) sl μ → N sl μ) → wS N T B C X (forL gd tg t ds sl μ) := by
  try simp only [wQ_def, wS_def] at *
  exact z_w_forL I
theorem w_forSt {tg : Tg} (I : Nat → Sl → Mu → Prop) (h0 : I 0 sl μ)
    (hs : ∀ j d sl μ, ds[j]? = some d → I j sl μ → ∃ sl1, bindT μ tg d sl = some sl1 ∧ wS (I (j + 1)) T N (I (j + 1)) X (t sl1 μ))
    (hq : ∀ sl μ, I ds.length sl μ → N sl μ) : wS N T B C X (forL (fun _ => true) tg t ds sl μ) := by
  try simp only [wQ_def, wS_def] at *
  exact z_w_forSt I h0 hs hq
theorem w_whF (I : Nat → Sl → Mu → Prop) (hs : ∀ n sl μ, I n sl μ → wQ (fun x μ' => X x sl μ') (fun b μ1 => if b = true then wS (fun sl μ => ∃ m, m < n ∧ I m sl μ) T N (fun sl μ => ∃ m, m < n ∧ I m sl μ) X (t sl μ1) else N sl μ1) (c sl μ)) :
    ∀ (k n : Nat) (sl : Sl) (μ : Mu), n < k → I n sl μ → ∃ j, wS N T B C X (whF c t j sl μ) := by
  try simp only [wQ_def, wS_def] at *
  exact z_w_whF I hs
theorem w_wh (I : Nat → Sl → Mu → Prop) (n : Nat) (h0 : I n sl μ) (hs : ∀ n sl μ, I n sl μ → wQ (fun x μ' => X x sl μ') (fun b μ1 => if b = true then wS (fun sl μ => ∃ m, m < n ∧ I m sl μ) T N (fun sl μ => ∃ m, m < n ∧ I m sl μ) X (t sl μ1) else N sl μ1) (c sl μ)) : wS N T B C X (whS c t sl μ) := by
  try simp only [wQ_def, wS_def] at *
  exact z_w_wh I n h0 hs
theorem w_body {b : DS} {Q : D → Mu → Prop} (h : wS (fun _ μ => Q .non μ) Q (fun _ _ => False) (fun _ _ => False) (fun x _ μ => E x μ) (b (ds.map some ++ List.replicate (n - ds.length) none) μ)) : wQ E Q (bodyR b n ds μ) := by
  try simp only [wQ_def, wS_def] at *
  exact z_w_body h
theorem w_ifT {p : Prop} [Decidable p] {a b : Prop} (hp : p) (h : a) : if p then a else b := by
  try simp only [wQ_def, wS_def] at *
  exact z_w_ifT hp h
theorem w_ifF {p : Prop} [Decidable p] {a b : Prop} (hp : ¬p) (h : b) : if p then a else b := by
  try simp only [wQ_def, wS_def] at *
  exact z_w_ifF hp h
theorem w_ifDec {p : Prop} [Decidable p] {a b : Prop} (h1 : p → a) (h2 : ¬p → b) : if decide p = true then a else b := by
  try simp only [wQ_def, wS_def] at *
  exact z_w_ifDec h1 h2
theorem w_ifBl {b : Bool} {p q : Prop} (h1 : b = true → p) (h2 : b = false → q) : if b = true then p else q := by
  try simp only [wQ_def, wS_def] at *
  exact z_w_ifBl h1 h2
section
variable {Q : D → Mu → Prop} {j : Int} {i : Int}
theorem w_addI (h : Q (.int (i + j)) μ) : wQ E Q (addD (.int i) (.int j) μ) := by
  try simp only [wQ_def, wS_def] at *
  exact z_w_addI h
theorem w_subI (h : Q (.int (i - j)) μ) : wQ E Q (subI (.int i) (.int j) μ) := by
  try simp only [wQ_def, wS_def] at *
  exact z_w_subI h
theorem w_mulX (hm : mulOk i j = true) (h : Q (.int (i * j)) μ) : wQ E Q (mulX (.int i) (.int j) μ) := by
  try simp only [wQ_def, wS_def] at *
  exact z_w_mulX hm h
theorem w_mod (hm : j ≠ 0) (h : Q (.int (i.fmod j)) μ) : wQ E Q (modI (.int i) (.int j) μ) := by
  try simp only [wQ_def, wS_def] at *
  exact z_w_mod hm h
theorem w_fdiv (hm : j ≠ 0) (hl : j.natAbs.log2 < 9000) (h : Q (.int (i.fdiv j)) μ) : wQ E Q (fdivI (.int i) (.int j) μ) := by
  try simp only [wQ_def, wS_def] at *
  exact z_w_fdiv hm hl h
theorem w_cmp {p : Int → Int → Bool} (h : Q (.bl (p i j)) μ) : wQ E Q (cmpI p (.int i) (.int j) μ) := by
  try simp only [wQ_def, wS_def] at *
  exact z_w_cmp h
theorem w_neg (h : Q (.int (-i)) μ) : wQ E Q (negI (.int i) μ) := by
  try simp only [wQ_def, wS_def] at *
  exact z_w_neg h
theorem w_ipAdd (h : Q (.int (i + j)) μ) : wQ E Q (ipAdd (.int i) (.int j) μ) := by
  try simp only [wQ_def, wS_def] at *
  exact z_w_ipAdd h
theorem w_addT {xs ys : List D} (hz : xs.length + ys.length ≤ sizeLine) (h : Q (.tup (xs ++ ys)) μ) : wQ E Q (addD (.tup xs) (.tup ys) μ) := by
  try simp only [wQ_def, wS_def] at *
  exact z_w_addT hz h
theorem w_addLL {xs ys : List D} (hz : xs.length + ys.length ≤ sizeLine) (h : Q (.lst (xs ++ ys)) μ) : wQ E Q (addD (.lst xs) (.lst ys) μ) := by
  try simp only [wQ_def, wS_def] at *
  exact z_w_addLL hz h
theorem w_eqI (h : Q (.bl (decide (i = j))) μ) : wQ E Q (eqD (.int i) (.int j) μ) := by
  try simp only [wQ_def, wS_def] at *
  exact z_w_eqI h
theorem w_neI (h : Q (.bl (!decide (i = j))) μ) : wQ E Q (neD (.int i) (.int j) μ) := by
  try simp only [wQ_def, wS_def] at *
  exact z_w_neI h
theorem w_eqS {a b : Str} (h : Q (.bl (decide (a = b))) μ) : wQ E Q (eqD (.str a) (.str b) μ) := by
  try simp only [wQ_def, wS_def] at *
  exact z_w_eqS h
theorem w_neS {a b : Str} (h : Q (.bl (!decide (a = b))) μ) : wQ E Q (neD (.str a) (.str b) μ) := by
  try simp only [wQ_def, wS_def] at *
  exact z_w_neS h
theorem w_len {xs : List D} (he : seqOf μ d = some xs) (h : Q (.int xs.length) μ) : wQ E Q (dcLen [d] μ) := by
  try simp only [wQ_def, wS_def] at *
  exact z_w_len he h
theorem w_ix {xs : List D} {k : Nat} (he : seqOf μ d = some xs) (hk : xs[k]? = some x) (h : Q x μ) : wQ E Q (ixD d (.int (k : Nat)) μ) := by
  try simp only [wQ_def, wS_def] at *
  exact z_w_ix he hk h
theorem w_ixL {xs : List D} {k : Int} (he : seqOf μ d = some xs) (hk : atI xs k = some x) (h : Q x μ) : wQ E Q (ixD d (.int k) μ) := by
  try simp only [wQ_def, wS_def] at *
  exact z_w_ixL he hk h
theorem w_int (h : Q (.int i) μ) : wQ E Q (dcInt [.int i] μ) := by
  try simp only [wQ_def, wS_def] at *
  exact z_w_int h
theorem w_intB {b : Bool} (h : Q (.int (if b then 1 else 0)) μ) : wQ E Q (dcInt [.bl b] μ) := by
  try simp only [wQ_def, wS_def] at *
  exact z_w_intB h
theorem w_abs (h : Q (.int (if i < 0 then -i else i)) μ) : wQ E Q (dcAbs [.int i] μ) := by
  try simp only [wQ_def, wS_def] at *
  exact z_w_abs h
theorem w_max2 (h : Q (.int (if j > i then j else i)) μ) : wQ E Q (dcMax2 [.int i, .int j] μ) := by
  try simp only [wQ_def, wS_def] at *
  exact z_w_max2 h
theorem w_min2 (h : Q (.int (if j < i then j else i)) μ) : wQ E Q (dcMin2 [.int i, .int j] μ) := by
  try simp only [wQ_def, wS_def] at *
  exact z_w_min2 h
theorem w_gcd (h : Q (.int ((Nat.gcd i.natAbs j.natAbs : Nat) : Int)) μ) : wQ E Q (dcGcd [.int i, .int j] μ) := by
  try simp only [wQ_def, wS_def] at *
  exact z_w_gcd h
theorem w_tuple {xs : List D} (he : seqOf μ d = some xs) (h : Q (.tup xs) μ) : wQ E Q (dcTuple [d] μ) := by
  try simp only [wQ_def, wS_def] at *
  exact z_w_tuple he h
theorem w_list {xs : List D} (he : seqOf μ d = some xs) (h : Q (.lst xs) μ) : wQ E Q (dcList [d] μ) := by
  try simp only [wQ_def, wS_def] at *
  exact z_w_list he h
theorem w_sum {xs : List D} {ns : List Int} (he : lstOf μ d = some xs) (hn : intsOf xs = some ns) (h : Q (.int ns.sum) μ) : wQ E Q (dcSum [d] μ) := by
  try simp only [wQ_def, wS_def] at *
  exact z_w_sum he hn h
theorem w_any {xs : List D} {ns : List Bool} (he : lstOf μ d = some xs) (hn : blsOf xs = some ns) (h : Q (.bl (ns.any id)) μ) : wQ E Q (dcAny [d] μ) := by
  try simp only [wQ_def, wS_def] at *
  exact z_w_any he hn h
theorem w_all {xs : List D} {ns : List Bool} (he : lstOf μ d = some xs) (hn : blsOf xs = some ns) (h : Q (.bl (ns.all id)) μ) : wQ E Q (dcAll [d] μ) := by
  try simp only [wQ_def, wS_def] at *
  exact z_w_all he hn h
theorem w_append {xs : List D} {l : Nat} {v : D} (he : μ[l]? = some (some (.lst xs))) (hz : xs.length < sizeLine) (h : Q .non (setL μ l (xs ++ [v]))) : wQ E Q (dmAppend (.ref l) [v] μ) := by
  try simp only [wQ_def, wS_def] at *
  exact z_w_append he hz h
theorem w_extend {xs ys : List D} {l : Nat} {v : D} (he : μ[l]? = some (some (.lst xs))) (hv : seqOf μ v = some ys) (hz : xs.length + ys.length ≤ sizeLine) (h : Q .non (setL μ l (xs ++ ys))) : wQ E Q (dmExtend (.ref l) [v] μ) := by
  try simp only [wQ_def, wS_def] at *
  exact z_w_extend he hv hz h
theorem w_pop {xs : List D} {l : Nat} {v : D} (he : μ[l]? = some (some (.lst (xs ++ [v])))) (h : Q v (setL μ l xs)) : wQ E Q (dmPop (.ref l) [] μ) := by
  try simp only [wQ_def, wS_def] at *
  exact z_w_pop he h
end
end
theorem w_tupRg1 {E : Exn → Mu → Prop} {sl : Sl} {μ : Mu} {fa : DE} {Q : D → Mu → Prop} (h : wQ E (fun d μ1 => ∃ n, d = .int n ∧ rgOkB 0 n = true ∧ Q (.tup (rngD 0 (n - 0).toNat)) μ1) (fa sl μ)) : wQ E Q (tupRg1 fa sl μ) := by
  try simp only [wQ_def, wS_def] at *
  exact z_w_tupRg1 h
theorem w_lstRg1 {E : Exn → Mu → Prop} {sl : Sl} {μ : Mu} {fa : DE} {Q : D → Mu → Prop} (h : wQ E (fun d μ1 => ∃ n, d = .int n ∧ rgOkB 0 n = true ∧ Q (.lst (rngD 0 (n - 0).toNat)) μ1) (fa sl μ)) : wQ E Q (lstRg1 fa sl μ) := by
  try simp only [wQ_def, wS_def] at *
  exact z_w_lstRg1 h
theorem w_lstRg2 {E : Exn → Mu → Prop} {sl : Sl} {μ : Mu} {fa fb : DE} {Q : D → Mu → Prop} (h : wQ E (fun d μ1 => wQ E (fun e μ2 => ∃ i j, d = .int i ∧ e = .int j ∧ rgOkB i j = true ∧ Q (.lst (rngD i (j - i).toNat)) μ2) (fb sl μ1)) (fa sl μ)) : wQ E Q (lstRg2 fa fb sl μ) := by
  try simp only [wQ_def, wS_def] at *
  exact z_w_lstRg2 h
theorem wS_is {N : Sl → Mu → Prop} {T : D → Mu → Prop} {B C : Sl → Mu → Prop} {X : Exn → Sl → Mu → Prop} {o : Option OutS} {sl : Sl} {μ : Mu} (e : o = some (.nx sl μ)) (h : N sl μ) : wS N T B C X o := by rw [e, wS_def]; exact h
theorem wQ_get {α : Type} {E : Exn → Mu → Prop} {Q : α → Mu → Prop} {μ : Mu} {a : α} (h : wQ E Q (ok a μ)) : Q a μ := by rw [wQ_def] at h; exact h
theorem sm_le {n : Nat} (h : Nat.ble n 1000 = true) : n ≤ sizeLine := by
  have := sizeLine_eq
  have := Nat.le_of_ble_eq_true h
  omega
theorem w_newDict {E : Exn → Mu → Prop} {sl : Sl} {μ : Mu} {fl : DL} {Q : D → Mu → Prop} (h : wQ E (fun ds μ1 => wQ E (fun d μ2 => ∃ ks xs, d = .dic ks xs ∧ Q (.dic ks xs) μ2) (dcDict ds μ1)) (fl sl μ)) : wQ E Q (newD (callB dcDict fl) sl μ) := w_new (w_call (wQ_imp h fun _ _ h => wQ_imp h fun _ _ h => by
  obtain ⟨ks, xs, rfl, h⟩ := h
  exact ⟨.inr (.inl ⟨_, _, rfl⟩), h⟩))
theorem w_boxDict {E : Exn → Mu → Prop} {sl : Sl} {μ : Mu} {fl : DL} {Q : D → Mu → Prop} (h : wQ E (fun ds μ1 => wQ E (fun d μ2 => ∃ ks xs, d = .dic ks xs ∧ Q (.ref μ2.length) (μ2 ++ [some (.dic ks xs)])) (dcDict ds μ1)) (fl sl μ)) : wQ E Q (boxD (callB dcDict fl) sl μ) := w_box (w_call (wQ_imp h fun _ _ h => wQ_imp h fun _ _ h => by
  obtain ⟨ks, xs, rfl, h⟩ := h
  exact ⟨.dic ks xs, .inr (.inl ⟨_, _, rfl, rfl⟩), h⟩))
theorem w_revT {E : Exn → Mu → Prop} {sl : Sl} {μ : Mu} {fa : DE} {Q : D → Mu → Prop} (h : wQ E (fun d μ1 => ∃ ds, d = .tup ds ∧ Q (.tup ds.reverse) μ1) (fa sl μ)) : wQ E Q (revT fa sl μ) := by
  unfold revT
  refine w_bind (wQ_imp h fun d μ1 h => ?_)
  obtain ⟨ds, rfl, h⟩ := h
  exact w_ok h
theorem and_fix {d : D} {q : Prop} (h : fixD d = true) (hq : q) : fixD d = true ∧ q := ⟨h, hq⟩
end Pd
end
section
namespace Pd
open PySem PySem.Spec L2
/-! ### comprehensions over told lists -/
section
variable {α β γ : Type} {E : Exn → Mu → Prop} {sl : Sl} {μ : Mu} {tg : Tg} {fa : DE} {c : Sl → Mu → R Bool} {Q : D → Mu → Prop}
theorem w_mapT {ds : List D} (xs : List α) (g f : α → D) (hds : ds = xs.map g) (he : ∀ x ∈ xs, ∃ sl1, bindT μ tg (g x) sl = some sl1 ∧ fa sl1 μ = ok (f x) μ) (hz : xs.length ≤ 100000) (hq : Q (.lst (xs.map f)) μ) : wQ E Q (lcL (fun _ => true) tg yesB fa sl ds [] μ) := by
  have hzl := sizeLine_eq
  subst hds
  refine w_lcL (fun j acc μ' => μ' = μ ∧ acc = (xs.take j).map f) (xs.map g) 0 [] μ ⟨rfl, by simp⟩ (fun j d acc μ' hj h => ?_) fun acc μ' h => ?_
  · obtain ⟨rfl, rfl⟩ := h
    rw [List.getElem?_map] at hj
    cases hx : xs[j]? with
    | none => rw [hx] at hj; cases hj
    | some x =>
      rw [hx] at hj; cases hj
      obtain ⟨sl1, e, e2⟩ := he x (List.mem_of_getElem? hx)
      refine ⟨sl1, e, ?_⟩
      show wQ nE _ (ok true μ')
      refine w_ok (w_is e2 ⟨?_, rfl, ?_⟩)
      · have := (List.getElem?_eq_some_iff.mp hx).1
        simp only [List.length_map, List.length_take]; omega
      · simp only [Nat.zero_add]
        rw [List.take_succ, hx, List.map_append]; rfl
  · obtain ⟨rfl, rfl⟩ := h
    rw [List.length_map, Nat.zero_add, List.take_length]; exact hq
theorem w_filtT {ds : List D} (xs : List α) (g f : α → D) (p : α → Bool) (hds : ds = xs.map g) (he : ∀ x ∈ xs, ∃ sl1, bindT μ tg (g x) sl = some sl1 ∧ c sl1 μ = ok (p x) μ ∧ (p x = true → fa sl1 μ = ok (f x) μ)) (hz : xs.length ≤ 100000) (hq : Q (.lst ((xs.filter p).map f)) μ) : wQ E Q (lcL (fun _ => true) tg c fa sl ds [] μ) := by
  have hzl := sizeLine_eq
  subst hds
  refine w_lcL (fun j acc μ' => μ' = μ ∧ acc = ((xs.take j).filter p).map f) (xs.map g) 0 [] μ ⟨rfl, by simp⟩ (fun j d acc μ' hj h => ?_) fun acc μ' h => ?_
  · obtain ⟨rfl, rfl⟩ := h
    rw [List.getElem?_map] at hj
    cases hx : xs[j]? with
    | none => rw [hx] at hj; cases hj
    | some x =>
      rw [hx] at hj; cases hj
      obtain ⟨sl1, e, e1, e2⟩ := he x (List.mem_of_getElem? hx)
      refine ⟨sl1, e, w_is e1 ?_⟩
      have ht : List.take (0 + j + 1) xs = List.take (0 + j) xs ++ [x] := by rw [List.take_succ, Nat.zero_add, hx]; rfl
      cases hp : p x with
      | false =>
        rw [if_neg Bool.false_ne_true]
        refine ⟨rfl, ?_⟩
        rw [ht, List.filter_append, List.filter_cons_of_neg (by simp [hp])]; simp
      | true =>
        rw [if_pos rfl]
        refine w_is (e2 hp) ⟨?_, rfl, ?_⟩
        · have := (List.getElem?_eq_some_iff.mp hx).1
          have h3 := List.length_filter_le p (List.take (0 + j) xs)
          rw [List.length_take] at h3
          rw [List.length_map]; omega
        · rw [ht, List.filter_append, List.filter_cons_of_pos hp, List.map_append]; rfl
  · obtain ⟨rfl, rfl⟩ := h
    rw [List.length_map, Nat.zero_add, List.take_length]; exact hq
/-- .. of which each element asks something of the store -/
theorem w_mapI {ds : List D} (I : Nat → List D → Mu → Prop) (h0 : I 0 [] μ) (hs : ∀ j d acc μ, ds[j]? = some d → I j acc μ → ∃ sl1, bindT μ tg d sl = some sl1 ∧ wQ nE (fun y μ2 => I (j + 1) (acc ++ [y]) μ2) (fa sl1 μ))
    (hl : ∀ j acc μ, I j acc μ → acc.length = j) (hz : ds.length ≤ 100000) (hq : ∀ acc μ, I ds.length acc μ → Q (.lst acc) μ) : wQ E Q (lcL (fun _ => true) tg yesB fa sl ds [] μ) := by
  have hzl := sizeLine_eq
  refine w_lcL I ds 0 [] μ h0 (fun j d acc μ hj h => ?_) fun acc μ h => hq acc μ (by rw [Nat.zero_add] at h; exact h)
  rw [Nat.zero_add] at h ⊢
  obtain ⟨sl1, e, h2⟩ := hs j d acc μ hj h
  refine ⟨sl1, e, ?_⟩
  show wQ nE _ (ok true μ)
  refine w_ok ?_
  rw [if_pos rfl]
  refine wQ_imp h2 fun y μ2 h3 => ⟨?_, h3⟩
  have := (List.getElem?_eq_some_iff.mp hj).1
  rw [hl j acc μ h]; omega
theorem zipD_map (g : α → D) (h : β → D) : ∀ (xs : List α) (ys : List β), zipD (xs.map g) (ys.map h) = (xs.zip ys).map fun p => .tup [g p.1, h p.2]
  | [], _ => rfl
  | _ :: _, [] => rfl
  | x :: xs, y :: ys => by
    have := zipD_map g h xs ys
    unfold zipD at this ⊢
    simp only [List.map_cons, List.zipWith_cons_cons, List.zip_cons_cons, this]
theorem enumF_map (g : α → D) : ∀ (xs : List α) (k : Nat), enumF k (xs.map g) = (xs.zipIdx k).map fun p => .tup [.int (p.2 : Nat), g p.1]
  | [], _ => rfl
  | x :: xs, k => by
    rw [List.map_cons, enumF, enumF_map g xs (k + 1), List.zipIdx_cons, List.map_cons]
theorem rngD_map (n : Nat) : rngD 0 n = (List.range n).map fun k => D.int (k : Nat) := by
  unfold rngD
  exact List.map_congr_left fun k _ => by rw [Int.zero_add]
theorem ints_map : ∀ ns : List Int, intsOf (ns.map D.int) = some ns
  | [] => rfl
  | n :: ns => by rw [List.map_cons, intsOf, ints_map ns]; rfl
theorem bls_mapB : ∀ bs : List Bool, blsOf (bs.map D.bl) = some bs
  | [] => rfl
  | n :: ns => by rw [List.map_cons, blsOf, bls_mapB ns]; rfl
end
theorem zipWith_zip {α β γ : Type} (f : α → β → γ) : ∀ (xs : List α) (ys : List β), List.zipWith f xs ys = (xs.zip ys).map fun q => f q.1 q.2
  | [], _ => rfl
  | _ :: _, [] => rfl
  | x :: xs, y :: ys => by rw [List.zipWith_cons_cons, List.zip_cons_cons, List.map_cons, zipWith_zip f xs ys]
/-! data told by numbers -/
def vecD (v : List Int) : D := .tup (v.map D.int)
def lvecD (v : List Int) : D := .lst (v.map D.int)
def tabD (t : List (List Int)) : D := .tup (t.map vecD)
def ltabD (t : List (List Int)) : D := .lst (t.map vecD)
def lltabD (t : List (List Int)) : D := .lst (t.map lvecD)
def natsD (l : List Nat) : D := .tup (l.map fun k => D.int (k : Nat))
/-- how it is told as python data -/
theorem pyL_map {α : Type} (g : α → D) (f : α → PyData) : ∀ (xs : List α), (∀ x ∈ xs, pyD (g x) = some (f x)) → pyL (xs.map g) = some (xs.map f)
  | [], _ => rfl
  | x :: xs, h => by
    rw [List.map_cons, pyL, h x (List.mem_cons_self ..), pyL_map g f xs fun y hy => h y (List.mem_cons_of_mem _ hy)]; rfl
theorem lay_map {α : Type} (f : α → PyData) : ∀ (xs : List α), (∀ x ∈ xs, (f x).canLay0 = true) → PyData.canLayAll0 (xs.map f) = true
  | [], _ => rfl
  | x :: xs, h => by
    rw [List.map_cons, PyData.canLayAll0, h x (List.mem_cons_self ..), lay_map f xs fun y hy => h y (List.mem_cons_of_mem _ hy)]; rfl
theorem depth_map {α : Type} (f : α → PyData) (n : Nat) : ∀ (xs : List α), (∀ x ∈ xs, (f x).depth ≤ n) → PyData.depthAll (xs.map f) ≤ n
  | [], _ => by simp [PyData.depthAll]
  | x :: xs, h => by
    rw [List.map_cons, PyData.depthAll]
    have := h x (List.mem_cons_self ..)
    have := depth_map f n xs fun y hy => h y (List.mem_cons_of_mem _ hy)
    omega
/-- data that is told, of depth n at most -/
structure Pn (n : Nat) (d : D) (p : PyData) : Prop where
  py : pyD d = some p
  lay : p.canLay0 = true
  dep : p.depth ≤ n
theorem Pn.pl {n : Nat} {d : D} {p : PyData} (h : Pn n d p) (hn : n ≤ 8 := by decide) : Pl d p := ⟨h.py, h.lay, by have := h.dep; omega⟩
theorem Pn.mono {n m : Nat} {d : D} {p : PyData} (h : Pn n d p) (hn : n ≤ m := by decide) : Pn m d p := ⟨h.py, h.lay, by have := h.dep; omega⟩
theorem pn_int (i : Int) : Pn 1 (.int i) (.int i) := ⟨rfl, rfl, by simp [PyData.depth]⟩
theorem pn_tup {α : Type} {n : Nat} {g : α → D} {f : α → PyData} {xs : List α} (h : ∀ x ∈ xs, Pn n (g x) (f x)) : Pn (n + 1) (.tup (xs.map g)) (.tuple (xs.map f)) :=
  ⟨by rw [pyD, pyL_map g f xs fun x hx => (h x hx).py], by rw [PyData.canLay0]; exact lay_map f xs fun x hx => (h x hx).lay, by rw [PyData.depth]; have := depth_map f n xs fun x hx => (h x hx).dep; omega⟩
theorem pn_lst {α : Type} {n : Nat} {g : α → D} {f : α → PyData} {xs : List α} (h : ∀ x ∈ xs, Pn n (g x) (f x)) : Pn (n + 1) (.lst (xs.map g)) (.list (xs.map f)) :=
  ⟨by rw [pyD, pyL_map g f xs fun x hx => (h x hx).py], by rw [PyData.canLay0]; exact lay_map f xs fun x hx => (h x hx).lay, by rw [PyData.depth]; have := depth_map f n xs fun x hx => (h x hx).dep; omega⟩
def pv (v : List Int) : PyData := .tuple (v.map PyData.int)
def plv (v : List Int) : PyData := .list (v.map PyData.int)
theorem pn_vec (v : List Int) : Pn 2 (vecD v) (pv v) := pn_tup fun x _ => pn_int x
theorem pn_lvec (v : List Int) : Pn 2 (lvecD v) (plv v) := pn_lst fun x _ => pn_int x
theorem pn_tab (t : List (List Int)) : Pn 3 (tabD t) (.tuple (t.map pv)) := pn_tup fun x _ => pn_vec x
theorem pn_ltab (t : List (List Int)) : Pn 3 (ltabD t) (.list (t.map pv)) := pn_lst fun x _ => pn_vec x
theorem pn_lltab (t : List (List Int)) : Pn 3 (lltabD t) (.list (t.map plv)) := pn_lst fun x _ => pn_lvec x
theorem pn_nats (l : List Nat) : Pn 2 (natsD l) (.tuple (l.map fun k => PyData.int (k : Nat))) := pn_tup fun x _ => pn_int x
theorem pn_nil : Pn 1 (.lst []) (.list []) := ⟨rfl, rfl, by simp [PyData.depth, PyData.depthAll]⟩
/-- told data is alike exactly if it is one -/
theorem nobL_map {α : Type} (f : α → PyData) : ∀ (xs : List α), (∀ x ∈ xs, nob (f x) = true) → nobL (xs.map f) = true
  | [], _ => rfl
  | x :: xs, h => by
    rw [List.map_cons, nobL, h x (List.mem_cons_self ..), nobL_map f xs fun y hy => h y (List.mem_cons_of_mem _ hy)]; try rfl
theorem nob_pv (v : List Int) : nob (pv v) = true := by
  unfold pv
  rw [nob]
  exact nobL_map _ _ fun x _ => rfl
theorem nob_plv (v : List Int) : nob (plv v) = true := by
  unfold plv
  rw [nob]
  exact nobL_map _ _ fun x _ => rfl
section
variable {E : Exn → Mu → Prop} {Q : D → Mu → Prop} {μ : Mu} {x y : D} {p q : PyData} {n m : Nat}
theorem eqv_dec (hx : Pl x p) (hy : Pl y q) (np : nob p = true) (nq : nob q = true) [Decidable (x = y)] : PyData.eqv p q = decide (x = y) := by
  by_cases h : x = y
  · subst h
    have := hx.py.symm.trans hy.py
    cases this
    rw [hx.self, decide_eq_true rfl]
  · rw [Pl.ne hx hy np nq h, decide_eq_false h]
open Classical in
theorem w_eqP (hx : Pl x p) (hy : Pl y q) (np : nob p = true) (nq : nob q = true) (h : Q (.bl (decide (x = y))) μ) : wQ E Q (eqD x y μ) := w_is (a := D.bl (decide (x = y))) (μ := μ) (by rw [eqD_pl hx hy, eqv_dec hx hy np nq]) h
open Classical in
theorem w_neP (hx : Pl x p) (hy : Pl y q) (np : nob p = true) (nq : nob q = true) (h : Q (.bl (!decide (x = y))) μ) : wQ E Q (neD x y μ) := w_is (a := D.bl (!decide (x = y))) (μ := μ) (by rw [neD_pl hx hy, eqv_dec hx hy np nq]) h
theorem w_eqSelf (hx : Pl x p) (h : Q (.bl true) μ) : wQ E Q (eqD x x μ) := w_is (eqD_self hx) h
theorem w_neSelf (hx : Pl x p) (h : Q (.bl false) μ) : wQ E Q (neD x x μ) := w_is (neD_self hx) h
end
end Pd
end
section
namespace Gf
/-! ### tables over a prime, plain -/
abbrev Vec := List Int
def at' (r : Vec) (j : Nat) : Int := r.getD j 0
def sumN : Nat → (Nat → Int) → Int
  | 0, _ => 0
  | n + 1, g => sumN n g + g n
def dot (n : Nat) (r x : Vec) : Int := sumN n fun j => at' r j * at' x j
theorem sumN_congr : ∀ {n : Nat} {g h : Nat → Int}, (∀ j, j < n → g j = h j) → sumN n g = sumN n h
  | 0, _, _, _ => rfl
  | n + 1, g, h, e => by rw [sumN, sumN, sumN_congr fun j hj => e j (by omega), e n (by omega)]
theorem sumN_zero : ∀ {n : Nat} {g : Nat → Int}, (∀ j, j < n → g j = 0) → sumN n g = 0
  | 0, _, _ => rfl
  | n + 1, g, e => by rw [sumN, sumN_zero fun j hj => e j (by omega), e n (by omega)]; rfl
theorem sumN_add : ∀ (n : Nat) (g h : Nat → Int), sumN n (fun j => g j + h j) = sumN n g + sumN n h
  | 0, _, _ => rfl
  | n + 1, g, h => by simp only [sumN, sumN_add n g h]; omega
theorem sumN_mul : ∀ (n : Nat) (c : Int) (g : Nat → Int), sumN n (fun j => c * g j) = c * sumN n g
  | 0, c, _ => by simp [sumN]
  | n + 1, c, g => by simp only [sumN, sumN_mul n c g, Int.mul_add]
theorem sumN_one : ∀ {n a : Nat} {g : Nat → Int}, a < n → (∀ j, j < n → j ≠ a → g j = 0) → sumN n g = g a
  | 0, a, _, h, _ => by omega
  | n + 1, a, g, h, e => by
    rw [sumN]
    by_cases ha : a = n
    · subst ha
      rw [sumN_zero fun j hj => e j (by omega) (by omega)]; omega
    · rw [sumN_one (a := a) (by omega) fun j hj hn => e j (by omega) hn, e n (by omega) (by omega)]; omega
/-- one place put apart -/
theorem sumN_split {n a : Nat} (g : Nat → Int) (h : a < n) : sumN n g = g a + sumN n fun j => if j = a then 0 else g j := by
  have e1 : sumN n g = sumN n (fun j => (if j = a then g j else 0) + (if j = a then 0 else g j)) := sumN_congr fun j _ => by split <;> omega
  rw [e1, sumN_add, sumN_one (a := a) h fun j _ hn => by rw [if_neg hn], if_pos rfl]
theorem sumN_dvd {p : Int} : ∀ {n : Nat} {g : Nat → Int}, (∀ j, j < n → p ∣ g j) → p ∣ sumN n g
  | 0, _, _ => Int.dvd_zero p
  | n + 1, g, e => by rw [sumN]; exact Int.dvd_add (sumN_dvd fun j hj => e j (by omega)) (e n (by omega))
def Ker (p : Int) (n : Nat) (t : List Vec) (x : Vec) : Prop := ∀ r ∈ t, p ∣ dot n r x
/-- numbers are rests -/
def Rest (p : Int) (n : Nat) (r : Vec) : Prop := r.length = n ∧ ∀ j, 0 ≤ at' r j ∧ at' r j < p
theorem at_map {f : Int → Int} {r : Vec} {j : Nat} (h : j < r.length) : at' (r.map f) j = f (at' r j) := by
  unfold at'
  simp [List.getD_eq_getElem?_getD, List.getElem?_map, List.getElem?_eq_getElem h]
theorem at_out {r : Vec} {j : Nat} (h : r.length ≤ j) : at' r j = 0 := by
  unfold at'
  simp [List.getD_eq_getElem?_getD, List.getElem?_eq_none h]
theorem at_zip {f : Int → Int → Int} {r s : Vec} {j : Nat} (h : j < r.length) (h2 : j < s.length) : at' (List.zipWith f r s) j = f (at' r j) (at' s j) := by
  unfold at'
  simp [List.getD_eq_getElem?_getD, List.getElem?_zipWith, List.getElem?_eq_getElem h, List.getElem?_eq_getElem h2]
theorem vec_ext {n : Nat} {r s : Vec} (hr : r.length = n) (hs : s.length = n) (h : ∀ j, j < n → at' r j = at' s j) : r = s := by
  refine List.ext_getElem (by omega) fun j h1 h2 => ?_
  have := h j (by omega)
  unfold at' at this
  simpa [List.getD_eq_getElem?_getD, List.getElem?_eq_getElem h1, List.getElem?_eq_getElem h2] using this
/-- a row less a head so many times, over p -/
def rowOff (p : Int) (c : Nat) (h r : Vec) : Vec := List.zipWith (fun a b => (a - at' r c * b) % p) r h
def scal (p m : Int) (r : Vec) : Vec := r.map fun a => (m * a) % p
theorem rowOff_len {p : Int} {c n : Nat} {h r : Vec} (hr : r.length = n) (hh : h.length = n) : (rowOff p c h r).length = n := by simp [rowOff, hr, hh]
theorem rowOff_at {p : Int} {c n j : Nat} {h r : Vec} (hr : r.length = n) (hh : h.length = n) (hj : j < n) : at' (rowOff p c h r) j = (at' r j - at' r c * at' h j) % p := at_zip (by omega) (by omega)
theorem rest_of {p : Int} {n : Nat} {r : Vec} (hp : 0 < p) (hr : r.length = n) (h : ∀ j, j < n → ∃ z, at' r j = z % p) : Rest p n r := ⟨hr, fun j => by
  by_cases hj : j < n
  · obtain ⟨z, e⟩ := h j hj
    rw [e]
    exact ⟨Int.emod_nonneg _ (by omega), Int.emod_lt_of_pos _ hp⟩
  · rw [at_out (by omega)]; omega⟩
theorem rowOff_rest {p : Int} {c n : Nat} {h r : Vec} (hp : 0 < p) (hr : r.length = n) (hh : h.length = n) : Rest p n (rowOff p c h r) := rest_of hp (rowOff_len hr hh) fun j hj => ⟨_, rowOff_at hr hh hj⟩
theorem scal_rest {p m : Int} {n : Nat} {r : Vec} (hp : 0 < p) (hr : r.length = n) : Rest p n (scal p m r) := rest_of hp (by simp [scal, hr]) fun j hj => ⟨_, at_map (by omega)⟩
theorem emod_sub_dvd (z p : Int) : p ∣ z % p - z := ⟨-(z / p), by rw [Int.emod_def, Int.mul_neg]; omega⟩
theorem sum_dvd_sub {p : Int} {n : Nat} {g h : Nat → Int} (e : ∀ j, j < n → p ∣ g j - h j) : p ∣ sumN n g - sumN n h := by
  have : sumN n g - sumN n h = sumN n fun j => g j - h j := by
    have e1 : sumN n g = sumN n fun j => (g j - h j) + h j := sumN_congr fun j _ => by omega
    rw [e1, sumN_add]; omega
  rw [this]
  exact sumN_dvd e
theorem dot_rowOff {p : Int} {c n : Nat} {h r x : Vec} (hr : r.length = n) (hh : h.length = n) : p ∣ dot n (rowOff p c h r) x - (dot n r x - at' r c * dot n h x) := by
  have e : dot n r x - at' r c * dot n h x = sumN n fun j => (at' r j - at' r c * at' h j) * at' x j := by
    unfold dot
    have : (fun j => (at' r j - at' r c * at' h j) * at' x j) = fun j => at' r j * at' x j + (-(at' r c)) * (at' h j * at' x j) := by
      funext j; grind
    rw [this, sumN_add, sumN_mul]; grind
  rw [e]
  refine sum_dvd_sub fun j hj => ?_
  rw [rowOff_at hr hh hj]
  obtain ⟨k, hk⟩ := emod_sub_dvd (at' r j - at' r c * at' h j) p
  exact ⟨k * at' x j, by rw [← Int.sub_mul, hk, Int.mul_assoc]⟩
theorem dot_scal {p m : Int} {n : Nat} {r x : Vec} (hr : r.length = n) : p ∣ dot n (scal p m r) x - m * dot n r x := by
  unfold dot
  rw [← sumN_mul]
  refine sum_dvd_sub fun j hj => ?_
  rw [show at' (scal p m r) j = (m * at' r j) % p from at_map (by omega)]
  obtain ⟨k, hk⟩ := emod_sub_dvd (m * at' r j) p
  exact ⟨k * at' x j, by rw [← Int.mul_assoc m, ← Int.sub_mul, hk, Int.mul_assoc]⟩
/-! steps -/
/-- where the first row stands that is not 0 at a place -/
def pivN (c : Nat) (rows : List Vec) : Option Nat := rows.findIdx? fun r => at' r c != 0
/-- inv: a number's other one over p -/
def nextR (p : Int) (inv : Int → Int) (c : Nat) (rows : List Vec) : List Vec := match pivN c rows with
  | none => rows
  | some k => (rows.eraseIdx k).map (rowOff p c (scal p (inv (at' (rows.getD k []) c)) (rows.getD k [])))
structure S where
  rows : List Vec
  found : List Vec
  places : List Nat
def elim (p : Int) (inv : Int → Int) (s : S) (c : Nat) : S := match pivN c s.rows with
  | none => s
  | some k =>
    let head := scal p (inv (at' (s.rows.getD k []) c)) (s.rows.getD k [])
    ⟨(s.rows.eraseIdx k).map (rowOff p c head), s.found.map (rowOff p c head) ++ [head], s.places ++ [c]⟩
theorem elim_rows {p : Int} {inv : Int → Int} {s : S} {c : Nat} : (elim p inv s c).rows = nextR p inv c s.rows := by
  unfold elim nextR
  split <;> rename_i e <;> simp only [e]
def rests (p : Int) (t : List Vec) : List Vec := t.map fun r => r.map (· % p)
def steps (p : Int) (inv : Int → Int) (n : Nat) (t : List Vec) : S := (List.range n).foldl (elim p inv) ⟨rests p t, [], []⟩
/-- the steps as they should be -/
structure Ech (p : Int) (n : Nat) (F : List Vec) (P : List Nat) : Prop where
  rest : ∀ r ∈ F, Rest p n r
  len : F.length = P.length
  asc : P.Pairwise (· < ·)
  lt : ∀ k ∈ P, k < n
  one : ∀ (i : Nat) f k, F[i]? = some f → P[i]? = some k → at' f k = 1
  low : ∀ (i : Nat) f k, F[i]? = some f → P[i]? = some k → ∀ j, j < k → at' f j = 0
  zer : ∀ (i i' : Nat) f k, i ≠ i' → F[i]? = some f → P[i']? = some k → at' f k = 0
structure Inv (p : Int) (n c : Nat) (t : List Vec) (s : S) : Prop where
  ech : Ech p n s.found s.places
  plt : ∀ k ∈ s.places, k < c
  rrest : ∀ r ∈ s.rows, Rest p n r
  rz : ∀ r ∈ s.rows, ∀ j, j < c → at' r j = 0
  ker : ∀ x, Ker p n (s.found ++ s.rows) x ↔ Ker p n t x
  cnt : s.found.length + s.rows.length = t.length
theorem one_mod {p : Int} (hp : 1 < p) {z : Int} (h : p ∣ z - 1) : z % p = 1 := by
  obtain ⟨k, hk⟩ := h
  have : z = 1 + p * k := by omega
  rw [this, Int.add_mul_emod_self_left, Int.emod_eq_of_lt (by omega) hp]
theorem zero_mod {p z : Int} (h : p ∣ z) : z % p = 0 := Int.emod_eq_zero_of_dvd h
theorem elim_inv {p : Int} {inv : Int → Int} {n c : Nat} {t : List Vec} {s : S} (hp : 1 < p) (hinv : ∀ a, 0 < a → a < p → p ∣ inv a * a - 1) (hc : c < n) (h : Inv p n c t s) : Inv p n (c + 1) t (elim p inv s c) := by
  have hp0 : 0 < p := by omega
  unfold elim
  split
  · rename_i e
    have hz : ∀ r ∈ s.rows, at' r c = 0 := fun r hr => by
      have := List.findIdx?_eq_none_iff.mp e r hr
      simpa using this
    exact ⟨h.ech, fun k hk => by have := h.plt k hk; omega, h.rrest, fun r hr j hj => by
      by_cases hj2 : j = c
      · subst hj2; exact hz r hr
      · exact h.rz r hr j (by omega), h.ker, h.cnt⟩
  · rename_i k e
    obtain ⟨hk, hk2, hk3⟩ := List.findIdx?_eq_some_iff_getElem.mp e
    have eg : s.rows.getD k [] = s.rows[k] := by simp [List.getD_eq_getElem?_getD, List.getElem?_eq_getElem hk]
    rw [eg]
    generalize e0 : s.rows[k] = r0 at *
    have m0 : r0 ∈ s.rows := e0 ▸ List.getElem_mem hk
    have q0 := h.rrest r0 m0
    have hne : at' r0 c ≠ 0 := by simpa using hk2
    have hb := q0.2 c
    have hm := hinv (at' r0 c) (by omega) hb.2
    generalize inv (at' r0 c) = m at hm
    obtain ⟨head, eh⟩ : ∃ head, head = scal p m r0 := ⟨_, rfl⟩
    rw [← eh]
    have hh : Rest p n head := eh ▸ scal_rest hp0 q0.1
    have hat : ∀ j, j < n → at' head j = (m * at' r0 j) % p := fun j hj => by rw [eh]; exact at_map (by rw [q0.1]; exact hj)
    have hone : at' head c = 1 := by rw [hat c hc]; exact one_mod hp hm
    have hlow : ∀ j, j < c → at' head j = 0 := fun j hj => by
      rw [hat j (by omega), h.rz r0 m0 j hj, Int.mul_zero]; rfl
    have offc : ∀ r, Rest p n r → at' (rowOff p c head r) c = 0 := fun r hr => by
      rw [rowOff_at hr.1 hh.1 hc, hone, Int.mul_one, Int.sub_self]; rfl
    have offz : ∀ r, Rest p n r → ∀ j, j < n → at' head j = 0 → at' (rowOff p c head r) j = at' r j := fun r hr j hj hz => by
      rw [rowOff_at hr.1 hh.1 hj, hz, Int.mul_zero, Int.sub_zero, Int.emod_eq_of_lt (hr.2 j).1 (hr.2 j).2]
    have hdvd : ∀ x, p ∣ dot n head x ↔ p ∣ dot n r0 x := fun x => by
      obtain ⟨a, ha⟩ := dot_scal (p := p) (m := m) (n := n) (r := r0) (x := x) q0.1
      rw [← eh] at ha
      obtain ⟨b, hb⟩ := hm
      have hE : dot n r0 x = at' r0 c * (m * dot n r0 x) - p * (b * dot n r0 x) := by grind
      constructor
      · rintro ⟨k, hk⟩
        exact ⟨at' r0 c * (k - a) - b * dot n r0 x, by grind⟩
      · rintro ⟨k, hk⟩
        exact ⟨a + m * k, by grind⟩
    have koff : ∀ x, p ∣ dot n head x → ∀ r, Rest p n r → (p ∣ dot n (rowOff p c head r) x ↔ p ∣ dot n r x) := fun x hx r hr => by
      obtain ⟨a, ha⟩ := dot_rowOff (p := p) (c := c) (x := x) hr.1 hh.1
      obtain ⟨b, hb⟩ := hx
      constructor
      · rintro ⟨k, hk⟩
        exact ⟨k - a + at' r c * b, by grind⟩
      · rintro ⟨k, hk⟩
        exact ⟨k + a - at' r c * b, by grind⟩
    have mem_er : ∀ r, r ∈ s.rows ↔ r = r0 ∨ r ∈ s.rows.eraseIdx k := fun r => by
      constructor
      · intro hr
        obtain ⟨i, hi⟩ := List.mem_iff_getElem?.mp hr
        by_cases hik : i = k
        · subst hik
          rw [List.getElem?_eq_getElem hk, e0] at hi
          left; exact (Option.some.inj hi).symm
        · right
          by_cases hlt : i < k
          · exact List.mem_iff_getElem?.mpr ⟨i, by rw [List.getElem?_eraseIdx_of_lt hlt]; exact hi⟩
          · exact List.mem_iff_getElem?.mpr ⟨i - 1, by rw [List.getElem?_eraseIdx_of_ge (by omega), show i - 1 + 1 = i by omega]; exact hi⟩
      · rintro (rfl | hr)
        · exact m0
        · exact List.mem_of_mem_eraseIdx hr
    have gmap : ∀ (i : Nat) f, (s.found.map (rowOff p c head) ++ [head])[i]? = some f → (∃ g, s.found[i]? = some g ∧ f = rowOff p c head g) ∨ (i = s.found.length ∧ f = head) := fun i f hf => by
      by_cases hi : i < s.found.length
      · rw [List.getElem?_append_left (by simpa using hi), List.getElem?_map] at hf
        rw [List.getElem?_eq_getElem hi] at hf
        exact .inl ⟨s.found[i], List.getElem?_eq_getElem hi, (Option.some.inj hf).symm⟩
      · rw [List.getElem?_append_right (by simpa using hi), List.length_map] at hf
        have : i - s.found.length < 1 := by
          have := (List.getElem?_eq_some_iff.mp hf).1
          simpa using this
        have e1 : i - s.found.length = 0 := by omega
        rw [e1] at hf
        exact .inr ⟨by omega, (Option.some.inj hf).symm⟩
    have gpl : ∀ (i : Nat) k, (s.places ++ [c])[i]? = some k → (s.places[i]? = some k) ∨ (i = s.found.length ∧ k = c) := fun i k' hf => by
      by_cases hi : i < s.places.length
      · rw [List.getElem?_append_left hi] at hf; exact .inl hf
      · rw [List.getElem?_append_right (by omega)] at hf
        have : i - s.places.length < 1 := by
          have := (List.getElem?_eq_some_iff.mp hf).1
          simpa using this
        have e1 : i - s.places.length = 0 := by omega
        rw [e1] at hf
        exact .inr ⟨by have := h.ech.len; omega, (Option.some.inj hf).symm⟩
    have fr : ∀ (i : Nat) g, s.found[i]? = some g → Rest p n g := fun i g hg => h.ech.rest g (List.mem_of_getElem? hg)
    have hpl : ∀ (i : Nat) k, s.places[i]? = some k → k < c := fun i k hk => h.plt k (List.mem_of_getElem? hk)
    have llt : ∀ (i : Nat) k, s.places[i]? = some k → i < s.found.length := fun i k' hk => by
      have := (List.getElem?_eq_some_iff.mp hk).1
      have := h.ech.len
      omega
    have flt : ∀ (i : Nat) g, s.found[i]? = some g → i < s.found.length := fun i k' hk => (List.getElem?_eq_some_iff.mp hk).1
    refine ⟨⟨fun r hr => ?_, ?_, ?_, fun k' hk' => ?_, fun i f k' hf hk' => ?_, fun i f k' hf hk' j hj => ?_, fun i i' f k' hne hf hk' => ?_⟩, fun k' hk' => ?_, fun r hr => ?_, fun r hr j hj => ?_, fun x => ?_, ?_⟩
    · rcases List.mem_append.mp hr with hr | hr
      · obtain ⟨g, hg, rfl⟩ := List.mem_map.mp hr
        exact rowOff_rest hp0 (h.ech.rest g hg).1 hh.1
      · rw [List.mem_singleton.mp hr]; exact hh
    · simp [h.ech.len]
    · refine List.pairwise_append.mpr ⟨h.ech.asc, List.pairwise_singleton _ _, fun a ha b hb => ?_⟩
      rw [List.mem_singleton.mp hb]; exact h.plt a ha
    · rcases List.mem_append.mp hk' with hk' | hk'
      · exact h.ech.lt k' hk'
      · rw [List.mem_singleton.mp hk']; exact hc
    · rcases gmap i f hf with ⟨g, hg, rfl⟩ | ⟨hi, rfl⟩
      · rcases gpl i k' hk' with hk' | ⟨hi, rfl⟩
        · rw [offz g (fr i g hg) k' (by have := hpl i k' hk'; omega) (hlow k' (hpl i k' hk'))]
          exact h.ech.one i g k' hg hk'
        · have := flt i g hg; omega
      · rcases gpl i k' hk' with hk' | ⟨_, rfl⟩
        · have := llt i k' hk'; omega
        · exact hone
    · rcases gmap i f hf with ⟨g, hg, rfl⟩ | ⟨hi, rfl⟩
      · rcases gpl i k' hk' with hk' | ⟨hi, rfl⟩
        · have := hpl i k' hk'
          rw [offz g (fr i g hg) j (by omega) (hlow j (by omega))]
          exact h.ech.low i g k' hg hk' j hj
        · have := flt i g hg; omega
      · rcases gpl i k' hk' with hk' | ⟨_, rfl⟩
        · have := llt i k' hk'; omega
        · exact hlow j hj
    · rcases gmap i f hf with ⟨g, hg, rfl⟩ | ⟨hi, rfl⟩
      · rcases gpl i' k' hk' with hk' | ⟨hi, rfl⟩
        · rw [offz g (fr i g hg) k' (by have := hpl i' k' hk'; omega) (hlow k' (hpl i' k' hk'))]
          exact h.ech.zer i i' g k' hne hg hk'
        · exact offc g (fr i g hg)
      · rcases gpl i' k' hk' with hk' | ⟨hi', rfl⟩
        · exact hlow k' (hpl i' k' hk')
        · omega
    · rcases List.mem_append.mp hk' with hk' | hk'
      · have := h.plt k' hk'; omega
      · rw [List.mem_singleton.mp hk']; omega
    · obtain ⟨g, hg, rfl⟩ := List.mem_map.mp hr
      exact rowOff_rest hp0 (h.rrest g (List.mem_of_mem_eraseIdx hg)).1 hh.1
    · obtain ⟨g, hg, rfl⟩ := List.mem_map.mp hr
      have gr := h.rrest g (List.mem_of_mem_eraseIdx hg)
      by_cases hj2 : j = c
      · subst hj2; exact offc g gr
      · rw [offz g gr j (by omega) (hlow j (by omega))]
        exact h.rz g (List.mem_of_mem_eraseIdx hg) j (by omega)
    · rw [← h.ker x]
      constructor
      · intro hk
        have h0 : p ∣ dot n head x := hk head (by simp)
        intro r hr
        rcases List.mem_append.mp hr with hr | hr
        · exact (koff x h0 r (h.ech.rest r hr)).mp (hk _ (by
            refine List.mem_append.mpr (.inl (List.mem_append.mpr (.inl (List.mem_map.mpr ⟨r, hr, rfl⟩)))) ))
        · rcases (mem_er r).mp hr with rfl | hr2
          · exact (hdvd x).mp h0
          · exact (koff x h0 r (h.rrest r hr)).mp (hk _ (List.mem_append.mpr (.inr (List.mem_map.mpr ⟨r, hr2, rfl⟩))))
      · intro hk
        have h0 : p ∣ dot n head x := (hdvd x).mpr (hk r0 (List.mem_append.mpr (.inr m0)))
        intro r hr
        rcases List.mem_append.mp hr with hr | hr
        · rcases List.mem_append.mp hr with hr | hr
          · obtain ⟨g, hg, rfl⟩ := List.mem_map.mp hr
            exact (koff x h0 g (h.ech.rest g hg)).mpr (hk g (List.mem_append.mpr (.inl hg)))
          · rw [List.mem_singleton.mp hr]; exact h0
        · obtain ⟨g, hg, rfl⟩ := List.mem_map.mp hr
          exact (koff x h0 g (h.rrest g (List.mem_of_mem_eraseIdx hg))).mpr (hk g (List.mem_append.mpr (.inr (List.mem_of_mem_eraseIdx hg))))
    · have := h.cnt
      simp only [List.length_append, List.length_map, List.length_eraseIdx, List.length_singleton, if_pos hk]
      omega
end Gf
end
section
namespace Gf
theorem inv_start {p : Int} {n : Nat} {t : List Vec} (hp : 1 < p) (ht : ∀ r ∈ t, r.length = n) : Inv p n 0 t ⟨rests p t, [], []⟩ := by
  have hat : ∀ r ∈ t, ∀ j, j < n → at' (r.map (· % p)) j = at' r j % p := fun r hr j hj => at_map (f := fun a => a % p) (by rw [ht r hr]; exact hj)
  refine ⟨⟨by simp, rfl, .nil, by simp, by simp, by simp, by simp⟩, by simp, fun r hr => ?_, fun r _ j hj => by omega, fun x => ?_, by simp [rests]⟩
  · obtain ⟨q, hq, rfl⟩ := List.mem_map.mp hr
    exact rest_of (by omega) (by rw [List.length_map]; exact ht q hq) fun j hj => ⟨_, hat q hq j hj⟩
  · have e : ∀ r ∈ t, (p ∣ dot n (r.map (· % p)) x ↔ p ∣ dot n r x) := fun r hr => by
      have h : p ∣ dot n (r.map (· % p)) x - dot n r x := sum_dvd_sub fun j hj => by
        rw [hat r hr j hj]
        obtain ⟨k, hk⟩ := emod_sub_dvd (at' r j) p
        exact ⟨k * at' x j, by rw [← Int.sub_mul, hk, Int.mul_assoc]⟩
      exact ⟨fun h1 => by have := Int.dvd_sub h1 h; rwa [show dot n (r.map (· % p)) x - (dot n (r.map (· % p)) x - dot n r x) = dot n r x by omega] at this, fun h1 => by
        have := Int.dvd_add h h1; rwa [Int.sub_add_cancel] at this⟩
    constructor
    · intro hk r hr
      exact (e r hr).mp (hk _ (List.mem_append.mpr (.inr (List.mem_map.mpr ⟨r, hr, rfl⟩))))
    · intro hk r hr
      rcases List.mem_append.mp hr with hr | hr
      · simp at hr
      · obtain ⟨q, hq, rfl⟩ := List.mem_map.mp hr
        exact (e q hq).mpr (hk q hq)
theorem fold_inv {p : Int} {inv : Int → Int} {n : Nat} {t : List Vec} (hp : 1 < p) (hinv : ∀ a, 0 < a → a < p → p ∣ inv a * a - 1) (ht : ∀ r ∈ t, r.length = n) :
    ∀ c, c ≤ n → Inv p n c t ((List.range c).foldl (elim p inv) ⟨rests p t, [], []⟩)
  | 0, _ => inv_start hp ht
  | c + 1, h => by
    rw [List.range_succ, List.foldl_append]
    exact elim_inv hp hinv (by omega) (fold_inv hp hinv ht c (by omega))
/-- what the steps are -/
structure Good (p : Int) (n : Nat) (t F : List Vec) (P : List Nat) : Prop where
  ech : Ech p n F P
  ker : ∀ x, Ker p n F x ↔ Ker p n t x
  cnt : F.length ≤ t.length
theorem steps_good {p : Int} {inv : Int → Int} {n : Nat} {t : List Vec} (hp : 1 < p) (hinv : ∀ a, 0 < a → a < p → p ∣ inv a * a - 1) (ht : ∀ r ∈ t, r.length = n) :
    Good p n t (steps p inv n t).found (steps p inv n t).places := by
  have h := fold_inv hp hinv ht n (Nat.le_refl n)
  refine ⟨h.ech, fun x => ?_, by have := h.cnt; unfold steps; omega⟩
  rw [← h.ker x]
  constructor
  · intro hk r hr
    rcases List.mem_append.mp hr with hr | hr
    · exact hk r hr
    · exact sumN_dvd fun j hj => by
        rw [h.rz r hr j hj, Int.zero_mul]; exact Int.dvd_zero p
  · exact fun hk r hr => hk r (List.mem_append.mpr (.inl hr))
/-! the thing of a free place -/
def idx (P : List Nat) (k : Nat) : Option Nat := P.findIdx? (· == k)
theorem idx_some {P : List Nat} {k i : Nat} (h : idx P k = some i) : P[i]? = some k := by
  obtain ⟨h1, h2, _⟩ := List.findIdx?_eq_some_iff_getElem.mp h
  rw [List.getElem?_eq_getElem h1]
  simpa using h2
theorem idx_none {P : List Nat} {k : Nat} (h : idx P k = none) : k ∉ P := fun hk => by
  have := List.findIdx?_eq_none_iff.mp h k hk
  simp at this
theorem idx_mem {P : List Nat} {k : Nat} (h : k ∈ P) : ∃ i, idx P k = some i := by
  cases e : idx P k with
  | none => exact absurd h (idx_none e)
  | some i => exact ⟨i, rfl⟩
theorem asc_inj {P : List Nat} (h : P.Pairwise (· < ·)) {i j k : Nat} (hi : P[i]? = some k) (hj : P[j]? = some k) : i = j := by
  obtain ⟨h1, e1⟩ := List.getElem?_eq_some_iff.mp hi
  obtain ⟨h2, e2⟩ := List.getElem?_eq_some_iff.mp hj
  rcases Nat.lt_trichotomy i j with hl | hl | hl
  · have := List.pairwise_iff_getElem.mp h i j h1 h2 hl; omega
  · exact hl
  · have := List.pairwise_iff_getElem.mp h j i h2 h1 hl; omega
/-- 1 at a place, at heads what makes each row 0 -/
def thing (p : Int) (n : Nat) (F : List Vec) (P : List Nat) (f : Nat) : Vec := (List.range n).map fun j => match idx P j with
  | some i => (-(at' (F.getD i []) f)) % p
  | none => if j = f then 1 else 0
theorem thing_len {p : Int} {n f : Nat} {F : List Vec} {P : List Nat} : (thing p n F P f).length = n := by simp [thing]
theorem thing_at {p : Int} {n f j : Nat} {F : List Vec} {P : List Nat} (hj : j < n) : at' (thing p n F P f) j = match idx P j with
    | some i => (-(at' (F.getD i []) f)) % p
    | none => if j = f then 1 else 0 := by
  unfold at' thing
  simp [List.getD_eq_getElem?_getD, List.getElem?_map, List.getElem?_range hj, at']
theorem thing_free {p : Int} {n f j : Nat} {F : List Vec} {P : List Nat} (hj : j < n) (h : j ∉ P) : at' (thing p n F P f) j = if j = f then 1 else 0 := by
  rw [thing_at hj]
  cases e : idx P j with
  | none => rfl
  | some i => exact absurd (List.mem_of_getElem? (idx_some e)) h
section
variable {p : Int} {n : Nat} {F : List Vec} {P : List Nat}
theorem thing_head {f i k : Nat} {r : Vec} (E : Ech p n F P) (hr : F[i]? = some r) (hk : P[i]? = some k) : at' (thing p n F P f) k = (-(at' r f)) % p := by
  rw [thing_at (E.lt k (List.mem_of_getElem? hk))]
  obtain ⟨i', e⟩ := idx_mem (List.mem_of_getElem? hk)
  have := asc_inj E.asc (idx_some e) hk
  subst this
  simp only [e]
  rw [List.getD_eq_getElem?_getD, hr]; rfl
theorem Ech.row {i k : Nat} (E : Ech p n F P) (hk : P[i]? = some k) : ∃ r, F[i]? = some r := by
  have h1 := (List.getElem?_eq_some_iff.mp hk).1
  have := E.len
  exact ⟨F[i], List.getElem?_eq_getElem (by omega)⟩
theorem Ech.place {i : Nat} {r : Vec} (E : Ech p n F P) (hr : F[i]? = some r) : ∃ k, P[i]? = some k := by
  have h1 := (List.getElem?_eq_some_iff.mp hr).1
  have := E.len
  exact ⟨P[i], List.getElem?_eq_getElem (by omega)⟩
/-- a row times a thing: its head's number and the free ones -/
theorem dot_head {i k : Nat} {r x : Vec} (E : Ech p n F P) (hr : F[i]? = some r) (hk : P[i]? = some k) : dot n r x = at' x k + sumN n fun j => if j ∈ P then 0 else at' r j * at' x j := by
  unfold dot
  rw [sumN_split _ (E.lt k (List.mem_of_getElem? hk)), E.one i r k hr hk, Int.one_mul]
  congr 1
  refine sumN_congr fun j hj => ?_
  by_cases h : j = k
  · subst h; rw [if_pos rfl, if_pos (List.mem_of_getElem? hk)]
  · rw [if_neg h]
    by_cases h2 : j ∈ P
    · rw [if_pos h2]
      obtain ⟨i', h3⟩ := List.mem_iff_getElem?.mp h2
      rw [E.zer i i' r j (fun z => h (by subst z; rw [hk] at h3; cases h3; rfl)) hr h3, Int.zero_mul]
    · rw [if_neg h2]
theorem ker_iff {x : Vec} (E : Ech p n F P) : Ker p n F x ↔ ∀ (i : Nat) r k, F[i]? = some r → P[i]? = some k → p ∣ at' x k + sumN n fun j => if j ∈ P then 0 else at' r j * at' x j := by
  constructor
  · intro h i r k hr hk
    rw [← dot_head E hr hk]
    exact h r (List.mem_of_getElem? hr)
  · intro h r hr
    obtain ⟨i, hi⟩ := List.mem_iff_getElem?.mp hr
    obtain ⟨k, hk⟩ := E.place hi
    rw [dot_head E hi hk]
    exact h i r k hi hk
theorem neg_dvd (a p : Int) : p ∣ (-a) % p + a := by
  obtain ⟨k, hk⟩ := emod_sub_dvd (-a) p
  exact ⟨k, by omega⟩
theorem thing_ker {f : Nat} (E : Ech p n F P) (hf : f < n) (hfree : f ∉ P) : Ker p n F (thing p n F P f) := by
  rw [ker_iff E]
  intro i r k hr hk
  rw [thing_head E hr hk, sumN_one (a := f) hf fun j hj hne => ?_, if_neg hfree, thing_free hf hfree, if_pos rfl, Int.mul_one]
  · exact neg_dvd _ _
  · by_cases h : j ∈ P
    · rw [if_pos h]
    · rw [if_neg h, thing_free hj h, if_neg hne, Int.mul_zero]
/-- heads are told by what is made 0 -/
theorem head_iff {k : Nat} (hp : 1 < p) (E : Ech p n F P) (hk : k < n) : k ∈ P ↔ ¬ ∃ x : Vec, Ker p n F x ∧ at' x k = 1 ∧ ∀ j, k < j → j < n → at' x j = 0 := by
  constructor
  · rintro hm ⟨x, hx, h1, h0⟩
    obtain ⟨i, hi⟩ := List.mem_iff_getElem?.mp hm
    obtain ⟨r, hr⟩ := E.row hi
    have hd := hx r (List.mem_of_getElem? hr)
    have : dot n r x = 1 := by
      unfold dot
      rw [sumN_one (a := k) hk fun j hj hne => ?_, E.one i r k hr hi, h1]; rfl
      by_cases h : j < k
      · rw [E.low i r k hr hi j h, Int.zero_mul]
      · rw [h0 j (by omega) hj, Int.mul_zero]
    rw [this] at hd
    have := Int.le_of_dvd (by omega) hd
    omega
  · intro h
    refine Classical.byContradiction fun hm => h ⟨thing p n F P k, thing_ker E hk hm, by rw [thing_free hk hm, if_pos rfl], fun j hkj hj => ?_⟩
    by_cases hjP : j ∈ P
    · obtain ⟨i, hi⟩ := List.mem_iff_getElem?.mp hjP
      obtain ⟨r, hr⟩ := E.row hi
      rw [thing_head E hr hi, E.low i r j hr hi k hkj]; rfl
    · rw [thing_free hj hjP, if_neg (by omega)]
theorem asc_ext : ∀ {P Q : List Nat}, P.Pairwise (· < ·) → Q.Pairwise (· < ·) → (∀ k, k ∈ P ↔ k ∈ Q) → P = Q
  | [], [], _, _, _ => rfl
  | [], b :: Q, _, _, h => by have := (h b).mpr (by simp); simp at this
  | a :: P, [], _, _, h => by have := (h a).mp (by simp); simp at this
  | a :: P, b :: Q, h1, h2, h => by
    obtain ⟨a1, a2⟩ := List.pairwise_cons.mp h1
    obtain ⟨b1, b2⟩ := List.pairwise_cons.mp h2
    have e : a = b := by
      have m1 := (h a).mp (by simp)
      have m2 := (h b).mpr (by simp)
      rcases List.mem_cons.mp m1 with z | z
      · exact z
      · rcases List.mem_cons.mp m2 with z' | z'
        · exact z'.symm
        · have := b1 a z; have := a1 b z'; omega
    subst e
    congr 1
    refine asc_ext a2 b2 fun k => ?_
    constructor
    · intro hk
      have := a1 k hk
      rcases List.mem_cons.mp ((h k).mp (List.mem_cons_of_mem _ hk)) with z | z
      · omega
      · exact z
    · intro hk
      have := b1 k hk
      rcases List.mem_cons.mp ((h k).mpr (List.mem_cons_of_mem _ hk)) with z | z
      · omega
      · exact z
/-- JUST ONE: steps are told by what they make 0 -/
theorem ech_unique {F' : List Vec} {P' : List Nat} (hp : 1 < p) (E : Ech p n F P) (E' : Ech p n F' P') (hk : ∀ x, Ker p n F x ↔ Ker p n F' x) : F = F' ∧ P = P' := by
  have eP : P = P' := asc_ext E.asc E'.asc fun k => by
    by_cases h : k < n
    · rw [head_iff hp E h, head_iff hp E' h]
      simp only [hk]
    · exact ⟨fun hm => absurd (E.lt k hm) h, fun hm => absurd (E'.lt k hm) h⟩
  subst eP
  refine ⟨List.ext_getElem? fun i => ?_, rfl⟩
  by_cases hi : i < P.length
  · have hPi : P[i]? = some P[i] := List.getElem?_eq_getElem hi
    obtain ⟨r, hr⟩ := E.row hPi
    obtain ⟨r', hr'⟩ := E'.row hPi
    rw [hr, hr']
    congr 1
    have q := E.rest r (List.mem_of_getElem? hr)
    have q' := E'.rest r' (List.mem_of_getElem? hr')
    refine vec_ext q.1 q'.1 fun j hj => ?_
    by_cases hjP : j ∈ P
    · obtain ⟨i', hi'⟩ := List.mem_iff_getElem?.mp hjP
      by_cases e : i = i'
      · subst e
        rw [E.one i r j hr hi', E'.one i r' j hr' hi']
      · rw [E.zer i i' r j e hr hi', E'.zer i i' r' j e hr' hi']
    · have h1 := (hk _).mp (thing_ker E hj hjP) r' (List.mem_of_getElem? hr')
      rw [dot_head E' hr' hPi, thing_head E hr hPi, sumN_one (a := j) hj fun l hl hne => ?_, if_neg hjP, thing_free hj hjP, if_pos rfl, Int.mul_one] at h1
      · have h2 := Int.dvd_sub h1 (neg_dvd (at' r j) p)
        have b := q.2 j
        have b' := q'.2 j
        obtain ⟨z, hz⟩ := h2
        have hz : at' r' j - at' r j = p * z := by omega
        have hz0 : z = 0 := by
          rcases Int.lt_trichotomy z 0 with h | h | h
          · have : p * z ≤ p * (-1) := Int.mul_le_mul_of_nonneg_left (by omega) (by omega)
            omega
          · exact h
          · have : p * 1 ≤ p * z := Int.mul_le_mul_of_nonneg_left (by omega) (by omega)
            omega
        subst hz0
        omega
      · by_cases h : l ∈ P
        · rw [if_pos h]
        · rw [if_neg h, thing_free hl h, if_neg hne, Int.mul_zero]
  · have h1 := E.len
    have h2 := E'.len
    rw [List.getElem?_eq_none (by omega), List.getElem?_eq_none (by omega)]
end
end Gf
end
section
open Pd
local macro_rules
  | `(tactic| fail) => `(tactic| with_reducible first
  | refine w_seq ?_ | refine w_asgN ?_ | refine w_var (by with_unfolding_all rfl) ?_ | refine w_c ?_ | refine w_bin ?_ | refine w_call ?_ | refine w_cons ?_ | refine w_nil ?_
  | refine w_callN (by with_unfolding_all rfl) ?_ | refine w_if ?_ | refine w_ret ?_ | refine w_exp ?_ | refine w_nx ?_ | refine w_ct ?_ | refine w_bk ?_ | refine w_retN ?_
  | refine w_tst ?_ | refine w_not ?_ | refine w_and ?_ | refine w_or ?_ | refine w_andD ?_ | refine w_orD ?_ | refine w_notD ?_ | refine w_blD ?_ | refine w_ifD ?_ | refine w_tru ?_ | refine w_ch ?_
  | refine w_stL ?_ | refine w_tup ?_ | refine w_lst ?_ | refine w_newDict ?_ | refine w_boxDict ?_ | refine w_newDisp ?_ | refine w_newEmp ?_ | refine w_boxEmp ?_ | refine w_pairC ?_ | refine w_pair0 ?_ | refine w_newL ?_ | refine w_boxL ?_ | refine w_frz ?_ | refine w_un ?_ | refine w_meth0 ?_ | refine w_methB ?_ | refine w_noO ?_ | refine w_someO ?_ | refine w_slice ?_ | refine w_rev ?_ | refine w_revT ?_
  | refine w_seqSt ?_ | refine w_zipSt ?_ | refine w_enSt ?_ | refine w_tupRg1 ?_ | refine w_lstRg1 ?_ | refine w_lstRg2 ?_ | refine w_rng1 ?_ | refine w_rng2 ?_ | refine w_lcD ?_ | refine w_asg ?_ | refine w_par ?_ | refine w_aug ?_ | refine w_set ?_ | refine w_for ?_
  | refine w_addI ?_ | refine w_subI ?_ | refine w_cmp ?_ | refine w_neg ?_ | refine w_ipAdd ?_ | refine w_eqI ?_ | refine w_neI ?_ | refine w_eqS ?_ | refine w_neS ?_ | refine w_int ?_ | refine w_intB ?_ | refine w_abs ?_ | refine w_max2 ?_ | refine w_min2 ?_ | refine w_gcd ?_
  | refine w_ok ?_ | refine And.intro (Nat.le_of_ble_eq_true (by with_unfolding_all rfl)) ?_ | refine And.intro (sm_le (by with_unfolding_all rfl)) ?_ | refine and_fix (by with_unfolding_all rfl) ?_ | refine Exists.intro _ (And.intro (by with_unfolding_all rfl) ?_))
namespace Pd
open PySem PySem.Spec L2
/-! ### the mirrors of rests.py -/
noncomputable def b_table_rests : DS :=
    (retS (callB dcTuple (consL (newD (lcD [3] (seqSrc' (varD 0)) (.nm 3) yesB (callB dcTuple (consL (newD (lcD [2] (seqSrc' (varD 3)) (.nm 2) yesB (binD modI (varD 2) (varD 1)))) nilL)))) nilL)))
noncomputable def f_table_rests : DC := bodyR b_table_rests 4
noncomputable def b_columns_of : DS :=
    (retS (newD (lcD [2] (rngSrc1 (consL (ifD (tstD (binD (cmpI fun i j => decide (j < i)) (callB dcLen (consL (varD 0) nilL)) (cD (.int 0)))) (callB dcLen (consL (binD ixD (varD 0) (cD (.int 0))) nilL)) (cD (.int 0))) nilL)) (.nm 2) yesB (callB dcTuple (consL (newD (lcD [1] (seqSrc' (varD 0)) (.nm 1) yesB (binD ixD (varD 1) (varD 2)))) nilL)))))
noncomputable def f_columns_of : DC := bodyR b_columns_of 3
noncomputable def b_product_at : DS :=
    (seqS (asgS (callB (callN 1 f_columns_of) (consL (varD 1) nilL)) (.nm 3))
    (retS (callB dcTuple (consL (newD (lcD [7] (seqSrc' (varD 0)) (.nm 7) yesB (callB dcTuple (consL (newD (lcD [6] (seqSrc' (varD 3)) (.nm 6) yesB (binD modI (callB dcSum (consL (newD (lcD [4, 5] (zipSrc true (consL (varD 7) (consL (varD 6) nilL))) (.tp [(.nm 4), (.nm 5)]) yesB (binD mulX (varD 4) (varD 5)))) nilL)) (varD 2)))) nilL)))) nilL))))
noncomputable def f_product_at : DC := bodyR b_product_at 8
noncomputable def b_one_over : DS :=
    (seqS (asgS (tupD (consL (varD 0) (consL (varD 1) (consL (cD (.int 1)) (consL (cD (.int 0)) nilL))))) (.tp [(.nm 2), (.nm 3), (.nm 4), (.nm 5)]))
    (seqS (whS (tstD (binD neD (varD 3) (cD (.int 0))))
    (seqS (asgS (binD fdivI (varD 2) (varD 3)) (.nm 6))
    (seqS (parS [2, 3] (consL (varD 3) (consL (binD subI (varD 2) (binD mulX (varD 6) (varD 3))) nilL)))
    (parS [4, 5] (consL (varD 5) (consL (binD subI (varD 4) (binD mulX (varD 6) (varD 5))) nilL))))))
    (retS (binD modI (varD 4) (varD 1)))))
noncomputable def f_one_over : DC := bodyR b_one_over 7
noncomputable def b_row_off : DS :=
    (seqS (asgS (binD ixD (varD 0) (varD 2)) (.nm 4))
    (retS (newD (lcD [5, 6] (zipSrc true (consL (varD 0) (consL (varD 1) nilL))) (.tp [(.nm 5), (.nm 6)]) yesB (binD modI (binD subI (varD 5) (binD mulX (varD 4) (varD 6))) (varD 3))))))
noncomputable def f_row_off : DC := bodyR b_row_off 7
noncomputable def b_steps_at : DS :=
    (seqS (parS [2, 3, 4] (consL (newD (lcD [5] (seqSrc' (callB (callN 2 f_table_rests) (consL (varD 0) (consL (varD 1) nilL)))) (.nm 5) yesB (newD (callB dcList (consL (varD 5) nilL))))) (consL (newD (lstD nilL)) (consL (boxD (lstD nilL)) nilL))))
    (seqS (forS (rngSrc1 (consL (ifD (tstD (binD neD (varD 2) (newD (lstD nilL)))) (callB dcLen (consL (binD ixD (varD 2) (cD (.int 0))) nilL)) (cD (.int 0))) nilL)) (.nm 6)
    (seqS (asgS (newD (lcD [5] (seqSrc' (varD 2)) (.nm 5) (tstD (binD neD (binD ixD (varD 5) (varD 6)) (cD (.int 0)))) (varD 5))) (.nm 7))
    (ifS (tstD (binD neD (varD 7) (newD (lstD nilL))))
    (seqS (asgS (callB (callN 2 f_one_over) (consL (binD ixD (binD ixD (varD 7) (cD (.int 0))) (varD 6)) (consL (varD 1) nilL))) (.nm 8))
    (seqS (asgS (newD (lcD [10] (seqSrc' (binD ixD (varD 7) (cD (.int 0)))) (.nm 10) yesB (binD modI (binD mulX (varD 8) (varD 10)) (varD 1)))) (.nm 9))
    (seqS (asgS (methB .lst dmIndex (varD 2) (consL (binD ixD (varD 7) (cD (.int 0))) nilL)) (.nm 11))
    (seqS (asgS (newD (lcD [12, 5] (enSrc (varD 2)) (.tp [(.nm 12), (.nm 5)]) (tstD (binD neD (varD 12) (varD 11))) (callB (callN 4 f_row_off) (consL (varD 5) (consL (varD 9) (consL (varD 6) (consL (varD 1) nilL))))))) (.nm 2))
    (seqS (asgS (binD addD (newD (lcD [5] (seqSrc' (varD 3)) (.nm 5) yesB (callB (callN 4 f_row_off) (consL (varD 5) (consL (varD 9) (consL (varD 6) (consL (varD 1) nilL))))))) (newD (lstD (consL (varD 9) nilL)))) (.nm 3))
    (expS (methB .lst dmAppend (varD 4) (consL (varD 6) nilL))))))))
    nxS)))
    (retS (tupD (consL (callB dcTuple (consL (newD (lcD [5] (seqSrc' (varD 3)) (.nm 5) yesB (callB dcTuple (consL (varD 5) nilL)))) nilL)) (consL (callB dcTuple (consL (varD 4) nilL)) nilL))))))
noncomputable def f_steps_at : DC := bodyR b_steps_at 13
noncomputable def b_rank_at : DS :=
    (retS (callB dcLen (consL (binD ixD (callB (callN 2 f_steps_at) (consL (varD 0) (consL (varD 1) nilL))) (cD (.int 1))) nilL)))
noncomputable def f_rank_at : DC := bodyR b_rank_at 2
noncomputable def b_made_nothing : DS :=
    (seqS (asgS (callB (callN 2 f_steps_at) (consL (varD 0) (consL (varD 1) nilL))) (.tp [(.nm 3), (.nm 4)]))
    (seqS (asgS (boxD (lstD nilL)) (.nm 5))
    (seqS (forS (seqSrc' (newD (lcD [7] (rngSrc1 (consL (varD 2) nilL)) (.nm 7) (tstD (binD (inD true) (varD 7) (varD 4))) (varD 7)))) (.nm 6)
    (seqS (asgS (boxD (lcD [7] (rngSrc1 (consL (varD 2) nilL)) (.nm 7) yesB (callB dcInt (consL (binD eqD (varD 7) (varD 6)) nilL)))) (.nm 8))
    (seqS (forS (zipSrc true (consL (varD 3) (consL (varD 4) nilL))) (.tp [(.nm 9), (.nm 7)])
    (setS (binD modI (unD negI (binD ixD (varD 9) (varD 6))) (varD 1)) (varD 8) (varD 7)))
    (expS (methB .lst dmAppend (varD 5) (consL (callB dcTuple (consL (varD 8) nilL)) nilL))))))
    (retS (callB dcTuple (consL (varD 5) nilL))))))
noncomputable def f_made_nothing : DC := bodyR b_made_nothing 10
noncomputable def b_thing_led : DS :=
    (retS (callB dcTuple (consL (newD (lcD [5] (seqSrc' (varD 0)) (.nm 5) yesB (binD modI (callB dcSum (consL (newD (lcD [3, 4] (zipSrc true (consL (varD 5) (consL (varD 1) nilL))) (.tp [(.nm 3), (.nm 4)]) yesB (binD mulX (varD 3) (varD 4)))) nilL)) (varD 2)))) nilL)))
noncomputable def f_thing_led : DC := bodyR b_thing_led 6
noncomputable def b_led_to : DS :=
    (seqS (asgS (callB (callN 2 f_steps_at) (consL (newD (lcD [6, 7] (zipSrc true (consL (varD 0) (consL (varD 1) nilL))) (.tp [(.nm 6), (.nm 7)]) yesB (tupD (stL (varD 6) (consL (varD 7) nilL))))) (consL (varD 2) nilL))) (.tp [(.nm 4), (.nm 5)]))
    (seqS (ifS (tstD (binD (inD false) (varD 3) (varD 5)))
    (retS (cD .non))
    nxS)
    (seqS (asgS (boxD (binD mulL2 (newD (lstD (consL (cD (.int 0)) nilL))) (varD 3))) (.nm 8))
    (seqS (forS (zipSrc true (consL (varD 4) (consL (varD 5) nilL))) (.tp [(.nm 6), (.nm 9)])
    (setS (binD ixD (varD 6) (varD 3)) (varD 8) (varD 9)))
    (retS (callB dcTuple (consL (varD 8) nilL)))))))
noncomputable def f_led_to : DC := bodyR b_led_to 10
noncomputable def b_undone_at : DS :=
    (seqS (asgS (callB dcLen (consL (varD 0) nilL)) (.nm 2))
    (seqS (asgS (callB (callN 2 f_steps_at) (consL (newD (lcD [6, 7] (enSrc (varD 0)) (.tp [(.nm 6), (.nm 7)]) yesB (tupD (stL (varD 7) (stL (newD (lcD [5] (rngSrc1 (consL (varD 2) nilL)) (.nm 5) yesB (callB dcInt (consL (binD eqD (varD 5) (varD 6)) nilL)))) nilL))))) (consL (varD 1) nilL))) (.tp [(.nm 3), (.nm 4)]))
    (seqS (ifS (tstD (binD neD (varD 4) (tupRg1 (varD 2))))
    (retS (cD .non))
    nxS)
    (retS (callB dcTuple (consL (newD (lcD [7] (seqSrc' (varD 3)) (.nm 7) yesB (sliceD (varD 7) (someO (varD 2)) noO))) nilL))))))
noncomputable def f_undone_at : DC := bodyR b_undone_at 8
section
variable {μ : Mu} {p : Int}
theorem fmod_pos (a : Int) (hp : 0 < p) : a.fmod p = a % p := Int.fmod_eq_emod_of_nonneg a (by omega)
theorem table_rests_ok {d : D} {t : List (List Int)} (hd : fixD d = true) (hs : seqOf μ d = some (t.map vecD)) (hp : 0 < p) (hl : t.length ≤ 1000) (hc : ∀ r ∈ t, r.length ≤ 1000) :
    f_table_rests [d, .int p] μ = ok (tabD (Gf.rests p t)) μ := by
  refine wQ_is (w_body ?_)
  show wS _ _ _ _ _ (b_table_rests [some d, some (.int p), none, none] μ)
  unfold b_table_rests
  (repeat fail)
  refine ⟨_, hs, hd, ?_⟩
  refine w_mapT t vecD (fun r => vecD (r.map (· % p))) rfl (fun r hr => ⟨_, rfl, wQ_is ?_⟩) (by omega) ?_
  · (repeat fail)
    refine w_mapT r D.int (fun a => D.int (a % p)) rfl (fun a ha => ⟨_, rfl, wQ_is ?_⟩) (by have := hc r hr; omega) ?_
    · (repeat fail)
      refine w_mod (by omega) ?_
      rw [fmod_pos _ hp]; exact ⟨rfl, rfl⟩
    · (repeat fail)
      refine w_tuple rfl ?_
      refine ⟨?_, rfl⟩
      simp only [vecD, List.map_map]; rfl
  · (repeat fail)
    refine w_tuple rfl ⟨?_, rfl⟩
    simp only [tabD, Gf.rests, List.map_map]; rfl
theorem row_off_ok {h r : List Int} {c n : Nat} (hp : 0 < p) (hp2 : p < 2 ^ 32) (hr : Gf.Rest p n r) (hh : Gf.Rest p n h) (hc : c < n) (hn : n ≤ 1000) :
    f_row_off [lvecD r, lvecD h, .int (c : Nat), .int p] μ = ok (lvecD (Gf.rowOff p c h r)) μ := by
  refine wQ_is (w_body ?_)
  show wS _ _ _ _ _ (b_row_off [some (lvecD r), some (lvecD h), some (.int (c : Nat)), some (.int p), none, none, none] μ)
  unfold b_row_off
  have hrc : (r.map D.int)[c]? = some (.int (Gf.at' r c)) := by
    have := hr.1
    rw [List.getElem?_map, List.getElem?_eq_getElem (by omega)]
    simp [Gf.at', List.getD_eq_getElem?_getD, List.getElem?_eq_getElem (show c < r.length by omega)]
  (repeat fail)
  refine w_ix rfl hrc ?_
  (repeat fail)
  refine ⟨_, _, _, _, rfl, rfl, rfl, ⟨rfl, rfl⟩, fun _ => by simp [hr.1, hh.1], ?_⟩
  refine w_mapT (r.zip h) (fun q => .tup [.int q.1, .int q.2]) (fun q => .int ((q.1 - Gf.at' r c * q.2) % p)) (zipD_map D.int D.int r h) (fun q hq => ⟨_, rfl, wQ_is ?_⟩) (by simp [hr.1, hh.1]; omega) ?_
  · have hb : q.2 ∈ h := (List.of_mem_zip hq).2
    obtain ⟨j, hj⟩ := List.mem_iff_getElem?.mp hb
    have h1 := hh.2 j
    have h2 := hr.2 c
    have e : Gf.at' h j = q.2 := by simp [Gf.at', List.getD_eq_getElem?_getD, hj]
    rw [e] at h1
    (repeat fail)
    refine w_mulX (mulOk_small (by omega) (by omega)) ?_
    (repeat fail)
    refine w_mod (by omega) ?_
    rw [fmod_pos _ hp]; exact ⟨rfl, rfl⟩
  · (repeat fail)
    refine ⟨?_, rfl⟩
    simp only [lvecD, Gf.rowOff, zipWith_zip, List.map_map]; rfl
end
end Pd
end
section
open Pd
local macro_rules
  | `(tactic| fail) => `(tactic| with_reducible first
  | refine w_seq ?_ | refine w_asgN ?_ | refine w_var (by with_unfolding_all rfl) ?_ | refine w_c ?_ | refine w_bin ?_ | refine w_call ?_ | refine w_cons ?_ | refine w_nil ?_
  | refine w_callN (by with_unfolding_all rfl) ?_ | refine w_if ?_ | refine w_ret ?_ | refine w_exp ?_ | refine w_nx ?_ | refine w_ct ?_ | refine w_bk ?_ | refine w_retN ?_
  | refine w_tst ?_ | refine w_not ?_ | refine w_and ?_ | refine w_or ?_ | refine w_andD ?_ | refine w_orD ?_ | refine w_notD ?_ | refine w_blD ?_ | refine w_ifD ?_ | refine w_tru ?_ | refine w_ch ?_
  | refine w_stL ?_ | refine w_tup ?_ | refine w_lst ?_ | refine w_newDict ?_ | refine w_boxDict ?_ | refine w_newDisp ?_ | refine w_newEmp ?_ | refine w_boxEmp ?_ | refine w_pairC ?_ | refine w_pair0 ?_ | refine w_newL ?_ | refine w_boxL ?_ | refine w_frz ?_ | refine w_un ?_ | refine w_meth0 ?_ | refine w_methB ?_ | refine w_noO ?_ | refine w_someO ?_ | refine w_slice ?_ | refine w_rev ?_ | refine w_revT ?_
  | refine w_seqSt ?_ | refine w_zipSt ?_ | refine w_enSt ?_ | refine w_tupRg1 ?_ | refine w_lstRg1 ?_ | refine w_lstRg2 ?_ | refine w_rng1 ?_ | refine w_rng2 ?_ | refine w_lcD ?_ | refine w_asg ?_ | refine w_par ?_ | refine w_aug ?_ | refine w_set ?_ | refine w_for ?_
  | refine w_addI ?_ | refine w_subI ?_ | refine w_cmp ?_ | refine w_neg ?_ | refine w_ipAdd ?_ | refine w_eqI ?_ | refine w_neI ?_ | refine w_eqS ?_ | refine w_neS ?_ | refine w_int ?_ | refine w_intB ?_ | refine w_abs ?_ | refine w_max2 ?_ | refine w_min2 ?_ | refine w_gcd ?_
  | refine w_ok ?_ | refine And.intro (Nat.le_of_ble_eq_true (by with_unfolding_all rfl)) ?_ | refine And.intro (sm_le (by with_unfolding_all rfl)) ?_ | refine and_fix (by with_unfolding_all rfl) ?_ | refine Exists.intro _ (And.intro (by with_unfolding_all rfl) ?_))
namespace Pd
open PySem PySem.Spec L2
/-! ### a number's other one over a prime -/
def PrimeI (p : Int) : Prop := 1 < p ∧ ∀ a : Int, 0 < a → a < p → ∀ d : Int, d ∣ a → d ∣ p → d ∣ 1
open Classical in
noncomputable def invP (p a : Int) : Int := if h : ∃ b : Int, 0 ≤ b ∧ b < p ∧ p ∣ b * a - 1 then h.choose else 0
theorem inv_one {p a b c : Int} (hp : 1 < p) (hb : 0 ≤ b ∧ b < p ∧ p ∣ b * a - 1) (hc : 0 ≤ c ∧ c < p ∧ p ∣ c * a - 1) : b = c := by
  obtain ⟨b0, b1, k, hk⟩ := hb
  obtain ⟨c0, c1, l, hl⟩ := hc
  have e : b - c = p * (c * k - b * l) := by grind
  obtain ⟨z, hz⟩ : ∃ z, z = c * k - b * l := ⟨_, rfl⟩
  rw [← hz] at e
  have : z = 0 := by
    rcases Int.lt_trichotomy z 0 with h | h | h
    · have : p * z ≤ p * (-1) := Int.mul_le_mul_of_nonneg_left (by omega) (by omega)
      omega
    · exact h
    · have : p * 1 ≤ p * z := Int.mul_le_mul_of_nonneg_left (by omega) (by omega)
      omega
  subst this
  omega
theorem invP_eq {p a b : Int} (hp : 1 < p) (hb : 0 ≤ b ∧ b < p ∧ p ∣ b * a - 1) : invP p a = b := by
  have h : ∃ b : Int, 0 ≤ b ∧ b < p ∧ p ∣ b * a - 1 := ⟨b, hb⟩
  unfold invP
  rw [dif_pos h]
  exact inv_one hp h.choose_spec hb
/-- what the law's and the package's loops keep -/
structure Euc (p a h t f l : Int) : Prop where
  h0 : 0 < h
  t0 : 0 ≤ t
  hp : h ≤ p
  tp : t ≤ p
  cop : ∀ d : Int, d ∣ h → d ∣ t → d ∣ 1
  hf : p ∣ h - a * f
  tl : p ∣ t - a * l
  bd : ∃ F L : Int, 0 ≤ F ∧ 0 ≤ L ∧ -F ≤ f ∧ f ≤ F ∧ -L ≤ l ∧ l ≤ L ∧ L * h + F * t ≤ p
theorem Euc.small {p a h t f l : Int} (E : Euc p a h t f l) (ht : 0 < t) : -p ≤ f ∧ f ≤ p ∧ -p ≤ l ∧ l ≤ p := by
  obtain ⟨F, L, h1, h2, h3, h4, h5, h6, h7⟩ := E.bd
  have a1 : L * 1 ≤ L * h := Int.mul_le_mul_of_nonneg_left (by have := E.h0; omega) h2
  have a2 : F * 1 ≤ F * t := Int.mul_le_mul_of_nonneg_left (by omega) h1
  have a3 : 0 ≤ L * h := Int.mul_nonneg h2 (by have := E.h0; omega)
  have a4 : 0 ≤ F * t := Int.mul_nonneg h1 (by omega)
  omega
theorem Euc.step {p a h t f l : Int} (E : Euc p a h t f l) (ht : 0 < t) : Euc p a t (h - h / t * t) l (f - h / t * l) ∧ 0 ≤ h / t ∧ h / t ≤ p ∧ h - h / t * t < t := by
  have q0 : 0 ≤ h / t := Int.ediv_nonneg (by have := E.h0; omega) (by omega)
  have e : h - h / t * t = h % t := by rw [Int.emod_def, Int.mul_comm t]
  have m0 := Int.emod_nonneg h (b := t) (by omega)
  have m1 := Int.emod_lt_of_pos h ht
  have qp : h / t ≤ p := by
    have : h / t * 1 ≤ h / t * t := Int.mul_le_mul_of_nonneg_left (by omega) q0
    have := E.hp
    omega
  refine ⟨⟨ht, by omega, E.tp, by have := E.tp; omega, fun d h1 h2 => ?_, E.tl, ?_, ?_⟩, q0, qp, by omega⟩
  · have : d ∣ h := by
      have h3 : d ∣ h / t * t := Int.dvd_mul_of_dvd_right h1
      have h4 := Int.dvd_add h2 h3
      rwa [Int.sub_add_cancel] at h4
    exact E.cop d this h1
  · obtain ⟨u, hu⟩ := E.hf
    obtain ⟨v, hv⟩ := E.tl
    exact ⟨u - h / t * v, by grind⟩
  · obtain ⟨F, L, h1, h2, h3, h4, h5, h6, h7⟩ := E.bd
    generalize h / t = q at q0
    have b1 : q * l ≤ q * L := Int.mul_le_mul_of_nonneg_left h6 q0
    have b2 : q * (-L) ≤ q * l := Int.mul_le_mul_of_nonneg_left h5 q0
    rw [Int.mul_neg] at b2
    have b3 : 0 ≤ q * L := Int.mul_nonneg q0 h2
    refine ⟨L, F + q * L, h2, by omega, h5, h6, by omega, by omega, ?_⟩
    have : (F + q * L) * t + L * (h - q * t) = L * h + F * t := by grind
    omega
theorem Euc.stop {p a h f l : Int} (hp : 1 < p) (E : Euc p a h 0 f l) : invP p a = f % p := by
  have h1 : h = 1 := by
    have h2 := E.cop h (Int.dvd_refl h) (Int.dvd_zero h)
    have := Int.le_of_dvd (by omega) h2
    have := E.h0
    omega
  have hf := E.hf
  rw [h1] at hf
  refine invP_eq hp ⟨Int.emod_nonneg _ (by omega), Int.emod_lt_of_pos _ (by omega), ?_⟩
  obtain ⟨k, hk⟩ := hf
  exact ⟨-k - f / p * a, by rw [Int.emod_def]; grind⟩
section
variable {μ : Mu} {p a : Int}
theorem mulOk32 {i j : Int} (hi : i.natAbs < 2 ^ 40) (hj : j.natAbs < 2 ^ 40) : mulOk i j = true := mulOk_small (by omega) (by omega)
theorem div_log {t : Int} (h : t.natAbs < 2 ^ 40) : t.natAbs.log2 < 9000 := by
  by_cases h0 : t.natAbs = 0
  · rw [h0]; decide
  · have := (Nat.log2_lt h0).mpr h; omega
theorem fdiv_pos (a : Int) {b : Int} (h : 0 < b) : a.fdiv b = a / b := Int.fdiv_eq_ediv_of_nonneg a (by omega)
theorem one_over_ok (hp : PrimeI p) (hp2 : p < 2 ^ 32) (h0 : 0 < a) (h1 : a < p) : f_one_over [.int a, .int p] μ = ok (.int (invP p a)) μ := by
  have hp1 := hp.1
  refine wQ_is (w_body ?_)
  show wS _ _ _ _ _ (b_one_over [some (.int a), some (.int p), none, none, none, none, none] μ)
  unfold b_one_over
  (repeat fail)
  refine w_wh (fun n sl μ' => ∃ h t f l y, sl = [some (.int a), some (.int p), some (.int h), some (.int t), some (.int f), some (.int l), y] ∧ μ' = μ ∧ n = t.toNat ∧ Euc p a h t f l) p.toNat ⟨a, p, 1, 0, none, rfl, rfl, rfl, ⟨h0, by omega, by omega, by omega, hp.2 a h0 h1, by rw [Int.mul_one, Int.sub_self]; exact Int.dvd_zero p, by rw [Int.mul_zero, Int.sub_zero]; exact Int.dvd_refl p, 1, 0, by omega, by omega, by omega, by omega, by omega, by omega, by omega⟩⟩ (fun n sl μ' ⟨h, t, f, l, y, e, em, en, E⟩ => ?_)
  subst e; subst em
  (repeat fail)
  have t0 := E.t0
  by_cases ht : t = 0
  · subst ht
    refine w_ifF (by simp) ?_
    (repeat fail)
    refine w_mod (by omega) ?_
    rw [fmod_pos _ (by omega), E.stop hp1]
    exact ⟨rfl, rfl⟩
  · refine w_ifT (by simpa using ht) ?_
    have ht : 0 < t := by omega
    obtain ⟨E', q0, q1, lt⟩ := E.step ht
    obtain ⟨s1, s2, s3, s4⟩ := E.small ht
    have htp := E.tp
    (repeat fail)
    refine w_fdiv (by omega) (div_log (by omega)) ?_
    rw [fdiv_pos _ ht]
    (repeat fail)
    refine w_mulX (mulOk32 (by omega) (by omega)) ?_
    (repeat fail)
    refine w_mulX (mulOk32 (by omega) (by omega)) ?_
    (repeat fail)
    exact ⟨_, by have := E'.t0; omega, _, _, _, _, _, rfl, rfl, rfl, E'⟩
theorem invP_ok (hp : PrimeI p) (h0 : 0 < a) (h1 : a < p) : p ∣ invP p a * a - 1 ∧ 0 ≤ invP p a ∧ invP p a < p := by
  have go : ∀ (n : Nat) (h t f l : Int), t.toNat < n → Euc p a h t f l → ∃ h f l, Euc p a h 0 f l := by
    intro n
    induction n with
    | zero => intro h t f l hn; omega
    | succ n ih =>
      intro h t f l hn E
      by_cases ht : t = 0
      · subst ht; exact ⟨h, f, l, E⟩
      · have := E.t0
        obtain ⟨E', q0, q1, lt⟩ := E.step (by omega)
        have := E'.t0
        exact ih _ _ _ _ (by omega) E'
  have hp1 := hp.1
  obtain ⟨h, f, l, E⟩ := go (p.toNat + 1) a p 1 0 (by omega) ⟨h0, by omega, by omega, by omega, hp.2 a h0 h1, by rw [Int.mul_one, Int.sub_self]; exact Int.dvd_zero p, by rw [Int.mul_zero, Int.sub_zero]; exact Int.dvd_refl p, 1, 0, by omega, by omega, by omega, by omega, by omega, by omega, by omega⟩
  have e := E.stop hp1
  have h1 : h = 1 := by
    have h2 := E.cop h (Int.dvd_refl h) (Int.dvd_zero h)
    have := Int.le_of_dvd (by omega) h2
    have := E.h0
    omega
  have hf := E.hf
  rw [h1] at hf
  rw [e]
  refine ⟨?_, Int.emod_nonneg _ (by omega), Int.emod_lt_of_pos _ (by omega)⟩
  obtain ⟨k, hk⟩ := hf
  exact ⟨-k - f / p * a, by rw [Int.emod_def]; grind⟩
end
end Pd
end
section
open Pd
local macro_rules
  | `(tactic| fail) => `(tactic| with_reducible first
  | refine w_seq ?_ | refine w_asgN ?_ | refine w_var (by with_unfolding_all rfl) ?_ | refine w_c ?_ | refine w_bin ?_ | refine w_call ?_ | refine w_cons ?_ | refine w_nil ?_
  | refine w_callN (by with_unfolding_all rfl) ?_ | refine w_if ?_ | refine w_ret ?_ | refine w_exp ?_ | refine w_nx ?_ | refine w_ct ?_ | refine w_bk ?_ | refine w_retN ?_
  | refine w_tst ?_ | refine w_not ?_ | refine w_and ?_ | refine w_or ?_ | refine w_andD ?_ | refine w_orD ?_ | refine w_notD ?_ | refine w_blD ?_ | refine w_ifD ?_ | refine w_tru ?_ | refine w_ch ?_
  | refine w_stL ?_ | refine w_tup ?_ | refine w_lst ?_ | refine w_newDict ?_ | refine w_boxDict ?_ | refine w_newDisp ?_ | refine w_newEmp ?_ | refine w_boxEmp ?_ | refine w_pairC ?_ | refine w_pair0 ?_ | refine w_newL ?_ | refine w_boxL ?_ | refine w_frz ?_ | refine w_un ?_ | refine w_meth0 ?_ | refine w_methB ?_ | refine w_noO ?_ | refine w_someO ?_ | refine w_slice ?_ | refine w_rev ?_ | refine w_revT ?_
  | refine w_seqSt ?_ | refine w_zipSt ?_ | refine w_enSt ?_ | refine w_tupRg1 ?_ | refine w_lstRg1 ?_ | refine w_lstRg2 ?_ | refine w_rng1 ?_ | refine w_rng2 ?_ | refine w_lcD ?_ | refine w_asg ?_ | refine w_par ?_ | refine w_aug ?_ | refine w_set ?_ | refine w_for ?_
  | refine w_addI ?_ | refine w_subI ?_ | refine w_cmp ?_ | refine w_neg ?_ | refine w_ipAdd ?_ | refine w_eqI ?_ | refine w_neI ?_ | refine w_eqS ?_ | refine w_neS ?_ | refine w_int ?_ | refine w_intB ?_ | refine w_abs ?_ | refine w_max2 ?_ | refine w_min2 ?_ | refine w_gcd ?_
  | refine w_ok ?_ | refine And.intro (Nat.le_of_ble_eq_true (by with_unfolding_all rfl)) ?_ | refine And.intro (sm_le (by with_unfolding_all rfl)) ?_ | refine and_fix (by with_unfolding_all rfl) ?_ | refine Exists.intro _ (And.intro (by with_unfolding_all rfl) ?_))
namespace Pd
open PySem PySem.Spec L2
section
variable {E : Exn → Mu → Prop} {Q : D → Mu → Prop} {μ : Mu} {x y : D}
theorem w_neNil {ds : List D} {p : PyData} (h : Pl (.lst ds) p) (np : nob p = true) (hq : Q (.bl (!ds.isEmpty)) μ) : wQ E Q (neD (.lst ds) (.lst []) μ) := by
  refine w_neP h pn_nil.pl np rfl ?_
  cases ds with
  | nil => simpa using hq
  | cons d ds => simpa using hq
theorem w_eqNil {ds : List D} {p : PyData} (h : Pl (.lst ds) p) (np : nob p = true) (hq : Q (.bl ds.isEmpty) μ) : wQ E Q (eqD (.lst ds) (.lst []) μ) := by
  refine w_eqP h pn_nil.pl np rfl ?_
  cases ds with
  | nil => simpa using hq
  | cons d ds => simpa using hq
theorem w_index {x y : D} {ps : List PyData} {e : PyData} {j : Nat} (hx : Pl x (.list ps)) (hy : Pl y e) (hf : findPy ps e = some j) (h : Q (.int (j : Nat)) μ) : wQ E Q (dmIndex x [y] μ) := w_is (a := D.int (j : Nat)) (μ := μ) (by
  have h1 : pysOf μ x = some ps := by unfold pysOf; rw [hx.toPy]
  simp only [dmIndex, h1, hy.toPy, hf]
  rw [if_pos]
  have := hx.shaped
  have := hy.shaped
  simp only [*, Bool.and_self]) h
theorem get_box {c : Option Cell} : (μ ++ [c])[μ.length]? = some c := by simp
theorem set_box {xs ys : List D} : setL (μ ++ [some (.lst xs)]) μ.length ys = μ ++ [some (.lst ys)] := by
  unfold setL
  rw [List.set_append_right _ _ (Nat.le_refl _), Nat.sub_self]; rfl
theorem ty_box {xs : List D} : tyD .lst (μ ++ [some (.lst xs)]) (.ref μ.length) = true := by
  simp only [tyD, lstOf, get_box]; rfl
theorem seq_box {xs : List D} : seqOf (μ ++ [some (.lst xs)]) (.ref μ.length) = some xs := by
  simp only [seqOf, lstOf, get_box]
end
theorem nob_tabs {t : List (List Int)} : nob (.list (t.map plv)) = true := by
  rw [nob]; exact nobL_map _ _ fun x _ => nob_plv x
theorem nob_tab {t : List (List Int)} : nob (.tuple (t.map pv)) = true := by
  rw [nob]; exact nobL_map _ _ fun x _ => nob_pv x
theorem filter_piv {α : Type} (q : α → Bool) : ∀ (xs : List α), match xs.findIdx? q with
    | none => xs.filter q = []
    | some k => ∃ x rest, xs[k]? = some x ∧ xs.filter q = x :: rest
  | [] => rfl
  | a :: xs => by
    have ih := filter_piv q xs
    rw [List.findIdx?_cons]
    cases hq : q a with
    | true => exact ⟨a, xs.filter q, rfl, List.filter_cons_of_pos hq⟩
    | false =>
      cases e : xs.findIdx? q with
      | none =>
        rw [e] at ih
        show List.filter q (a :: xs) = []
        rw [List.filter_cons_of_neg (by simp [hq])]; exact ih
      | some k =>
        rw [e] at ih
        obtain ⟨x, rest, h1, h2⟩ := ih
        exact ⟨x, rest, h1, by rw [List.filter_cons_of_neg (by simp [hq])]; exact h2⟩
theorem zipIdx_erase {α : Type} : ∀ (xs : List α) (s k : Nat), ((xs.zipIdx s).filter fun q => !decide (((q.2 : Nat) : Int) = ((s + k : Nat) : Int))).map Prod.fst = xs.eraseIdx k
  | [], _, _ => rfl
  | a :: xs, s, 0 => by
    rw [List.zipIdx_cons, List.filter_cons_of_neg (by simp), List.eraseIdx_cons_zero]
    have : ∀ (ys : List α) (s' : Nat), s < s' → ((ys.zipIdx s').filter fun q => !decide (((q.2 : Nat) : Int) = ((s + 0 : Nat) : Int))).map Prod.fst = ys := by
      intro ys
      induction ys with
      | nil => intros; rfl
      | cons b ys ih =>
        intro s' h
        rw [List.zipIdx_cons, List.filter_cons_of_pos (by simp; omega), List.map_cons, ih (s' + 1) (by omega)]
    exact this xs (s + 1) (by omega)
  | a :: xs, s, k + 1 => by
    rw [List.zipIdx_cons, List.filter_cons_of_pos (by simp; omega), List.map_cons, List.eraseIdx_cons_succ]
    have := zipIdx_erase xs (s + 1) k
    rw [show s + 1 + k = s + (k + 1) by omega] at this
    rw [this]
theorem at_get {r : List Int} {j : Nat} (h : j < r.length) : (r.map D.int)[j]? = some (.int (Gf.at' r j)) := by
  rw [List.getElem?_map, List.getElem?_eq_getElem h]
  simp [Gf.at', List.getD_eq_getElem?_getD, List.getElem?_eq_getElem h]
theorem plv_eqv {a b : List Int} : PyData.eqv (plv a) (plv b) = decide (a = b) := by
  by_cases h : a = b
  · subst h
    rw [(pn_lvec a).pl.self, decide_eq_true rfl]
  · rw [Pl.ne (pn_lvec a).pl (pn_lvec b).pl (nob_plv a) (nob_plv b) fun z => h ?_, decide_eq_false h]
    unfold lvecD at z
    have z : a.map D.int = b.map D.int := by injection z
    exact List.map_inj_right (fun x y e => by injection e) |>.mp z
/-- the first row alike is the first one that is not 0 there -/
theorem find_row {rows : List (List Int)} {c k : Nat} (h : Gf.pivN c rows = some k) : findPy (rows.map plv) (plv (rows.getD k [])) = some k := by
  obtain ⟨h1, h2, h3⟩ := List.findIdx?_eq_some_iff_getElem.mp h
  have eg : rows.getD k [] = rows[k] := by simp [List.getD_eq_getElem?_getD, List.getElem?_eq_getElem h1]
  unfold findPy
  refine List.findIdx?_eq_some_iff_getElem.mpr ⟨by simpa using h1, ?_, fun j hj => ?_⟩
  · rw [List.getElem_map, plv_eqv, eg]; simp
  · rw [List.getElem_map, plv_eqv, eg]
    have := h3 j hj
    simp only [Bool.not_eq_true, decide_eq_false_iff_not]
    intro z
    rw [z] at this
    exact absurd h2 (by simpa using this)
section
variable {μ : Mu} {p : Int} {d : D} {t : List (List Int)} {n : Nat}
theorem steps_nil {inv : Int → Int} : Gf.steps p inv n [] = ⟨[], [], []⟩ := by
  unfold Gf.steps
  have : ∀ l : List Nat, l.foldl (Gf.elim p inv) ⟨Gf.rests p [], [], []⟩ = ⟨[], [], []⟩ := by
    intro l
    induction l with
    | nil => rfl
    | cons a l ih => rw [List.foldl_cons]; exact ih
  exact this _
theorem rests_len {n : Nat} (h : ∀ r ∈ t, r.length = n) : ∀ r ∈ Gf.rests p t, r.length = n := fun r hr => by
  obtain ⟨q, hq, rfl⟩ := List.mem_map.mp hr
  rw [List.length_map]; exact h q hq
theorem wQ_app {a : D} {r : R D} (h : wQ nE (fun b μ' => b = a ∧ ∃ xs, μ' = μ ++ xs) r) : ∃ xs, r = ok a (μ ++ xs) := by
  obtain ⟨b, μ', e, rfl, xs, rfl⟩ := wQ_ex h
  exact ⟨xs, e⟩
def stI (d : D) (p : Int) (μ : Mu) (S : Gf.S) (sl : Sl) (μ' : Mu) : Prop := ∃ o5 o6 o7 o8 o9 o10 o11 o12, sl = [some d, some (.int p), some (lltabD S.rows), some (lltabD S.found), some (.ref μ.length), o5, o6, o7, o8, o9, o10, o11, o12] ∧ μ' = μ ++ [some (.lst (S.places.map fun k => D.int (k : Nat)))]
theorem steps_at_ok (hd : fixD d = true) (hs : seqOf μ d = some (t.map vecD)) (hn : ∀ r ∈ t, r.length = n) (hp : PrimeI p) (hp2 : p < 2 ^ 32) (hn1 : n ≤ 200) (ht : t.length ≤ 200) :
    ∃ xs, f_steps_at [d, .int p] μ = ok (.tup [tabD (Gf.steps p (invP p) n t).found, natsD (Gf.steps p (invP p) n t).places]) (μ ++ xs) := by
  have hz := sizeLine_eq
  have hp1 := hp.1
  have hinv : ∀ a, 0 < a → a < p → p ∣ invP p a * a - 1 := fun a h0 h1 => (invP_ok hp h0 h1).1
  have rl : (Gf.rests p t).length = t.length := by simp [Gf.rests]
  refine wQ_app (w_body ?_)
  show wS _ _ _ _ _ (b_steps_at [some d, some (.int p), none, none, none, none, none, none, none, none, none, none, none] μ)
  unfold b_steps_at
  (repeat fail)
  refine w_is (table_rests_ok hd hs (by omega) (by omega) fun r hr => by rw [hn r hr]; omega) ?_
  (repeat fail)
  refine w_mapT (Gf.rests p t) vecD lvecD rfl (fun r hr => ⟨_, rfl, wQ_is ?_⟩) (by omega) ?_
  · (repeat fail)
    refine w_list rfl ?_
    (repeat fail)
    exact ⟨rfl, rfl⟩
  (repeat fail)
  refine w_neNil (pn_lltab _).pl nob_tabs ?_
  (repeat fail)
  have fin : ∀ (F : List (List Int)) (P : List Nat) (o2 o5 o6 o7 o8 o9 o10 o11 o12 : Option D), F.length ≤ 200 → F = (Gf.steps p (invP p) n t).found → P = (Gf.steps p (invP p) n t).places →
      wS (fun x μ_1 => D.non = .tup [tabD (Gf.steps p (invP p) n t).found, natsD (Gf.steps p (invP p) n t).places] ∧ ∃ xs, μ_1 = μ ++ xs) (fun b μ' => b = .tup [tabD (Gf.steps p (invP p) n t).found, natsD (Gf.steps p (invP p) n t).places] ∧ ∃ xs, μ' = μ ++ xs) (fun _ _ => False) (fun _ _ => False) (fun x _ μ => nE x μ)
      ((retS (tupD (consL (callB dcTuple (consL (newD (lcD [5] (seqSrc' (varD 3)) (.nm 5) yesB (callB dcTuple (consL (varD 5) nilL)))) nilL)) (consL (callB dcTuple (consL (varD 4) nilL)) nilL)))) [some d, some (.int p), o2, some (lltabD F), some (.ref μ.length), o5, o6, o7, o8, o9, o10, o11, o12] (μ ++ [some (.lst (P.map fun k => D.int (k : Nat)))])) := by
    intro F P o2 o5 o6 o7 o8 o9 o10 o11 o12 hF eF eP
    (repeat fail)
    refine w_mapT F lvecD vecD rfl (fun r hr => ⟨_, rfl, wQ_is ?_⟩) (by omega) ?_
    · (repeat fail)
      refine w_tuple rfl ⟨rfl, rfl⟩
    (repeat fail)
    refine w_tuple rfl ?_
    (repeat fail)
    refine w_tuple seq_box ?_
    (repeat fail)
    subst eF; subst eP
    exact ⟨rfl, _, rfl⟩
  by_cases ht0 : t = []
  · subst ht0
    refine w_ifF (by simp [Gf.rests]) ?_
    (repeat fail)
    refine ⟨by decide, ?_⟩
    show wS _ _ _ _ _ (forL (fun _ => true) _ _ [] _ _)
    rw [forL, if_pos rfl]
    refine wS_is rfl ?_
    refine fin [] [] _ _ _ _ _ _ _ _ _ (by decide) (by rw [steps_nil]) (by rw [steps_nil])
  · have hne : (!((Gf.rests p t).map lvecD).isEmpty) = true := by
      cases t with
      | nil => exact absurd rfl ht0
      | cons r t => rfl
    refine w_ifT hne ?_
    (repeat fail)
    obtain ⟨r1, hr1, hr2⟩ : ∃ r1, (Gf.rests p t)[0]? = some r1 ∧ r1.length = n := by
      cases t with
      | nil => exact absurd rfl ht0
      | cons r t => exact ⟨r.map (· % p), rfl, by rw [List.length_map]; exact hn r (by simp)⟩
    refine w_ixL (k := 0) (xs := (Gf.rests p t).map lvecD) (x := lvecD r1) rfl (by
      show atI _ ((0 : Nat) : Int) = _
      exact atI_nat (by rw [List.getElem?_map, hr1]; rfl)) ?_
    (repeat fail)
    refine w_len (xs := r1.map D.int) rfl ?_
    (repeat fail)
    rw [List.length_map, hr2]
    refine ⟨by omega, ?_⟩
    (repeat fail)
    refine w_forSt (fun c sl μ' => stI d p μ ((List.range c).foldl (Gf.elim p (invP p)) ⟨Gf.rests p t, [], []⟩) sl μ') ⟨none, none, none, none, none, none, none, none, ?_, rfl⟩ (fun c d' sl μ' hj ⟨o5, o6, o7, o8, o9, o10, o11, o12, e, em⟩ => ?_) (fun sl μ' ⟨o5, o6, o7, o8, o9, o10, o11, o12, e, em⟩ => ?_)
    · show _ = [some d, some (.int p), some (lltabD (Gf.rests p t)), some (lltabD []), some (.ref μ.length), none, none, none, none, none, none, none, none]
      rfl
    · subst e; subst em
      obtain ⟨hc, rfl⟩ := rngD_at hj
      have hc : c < n := hc
      refine ⟨_, rfl, ?_⟩
      have I := Gf.fold_inv hp1 hinv hn c (by omega)
      rw [List.range_succ, List.foldl_append]
      show wS (stI d p μ (Gf.elim p (invP p) ((List.range c).foldl (Gf.elim p (invP p)) ⟨Gf.rests p t, [], []⟩) c)) _ _ (stI d p μ (Gf.elim p (invP p) ((List.range c).foldl (Gf.elim p (invP p)) ⟨Gf.rests p t, [], []⟩) c)) _ _
      generalize (List.range c).foldl (Gf.elim p (invP p)) ⟨Gf.rests p t, [], []⟩ = S at I
      have hrows : S.rows.length ≤ 200 := by have := I.cnt; omega
      have hfound : S.found.length ≤ 200 := by have := I.cnt; omega
      (repeat fail)
      refine w_filtT S.rows lvecD lvecD (fun r => Gf.at' r c != 0) rfl (fun r hr => ⟨_, rfl, wQ_is ?_, fun _ => rfl⟩) (by omega) ?_
      · (repeat fail)
        refine w_ix rfl (at_get (r := r) (by rw [(I.rrest r hr).1]; exact hc)) ?_
        (repeat fail)
        exact ⟨by simp [bne, BEq.beq], rfl⟩
      (repeat fail)
      refine w_neNil (ds := (S.rows.filter fun r => Gf.at' r c != 0).map lvecD) (pn_lltab _).pl nob_tabs ?_
      (repeat fail)
      have hpv := filter_piv (fun r => Gf.at' r c != 0) S.rows
      have epiv : S.rows.findIdx? (fun r => Gf.at' r c != 0) = Gf.pivN c S.rows := rfl
      rw [epiv] at hpv
      cases hk : Gf.pivN c S.rows with
      | none =>
        rw [hk] at hpv
        have hpv : S.rows.filter (fun r => Gf.at' r c != 0) = [] := hpv
        rw [hpv]
        refine w_ifF (by simp) ?_
        (repeat fail)
        have : Gf.elim p (invP p) S c = S := by unfold Gf.elim; rw [hk]
        rw [this]
        exact ⟨_, _, _, _, _, _, _, _, rfl, rfl⟩
      | some k =>
        rw [hk] at hpv
        obtain ⟨r0, rest, h1, h2⟩ := hpv
        rw [h2]
        refine w_ifT (by simp) ?_
        have hk1 : k < S.rows.length := (List.getElem?_eq_some_iff.mp h1).1
        have eg : S.rows.getD k [] = r0 := by rw [List.getD_eq_getElem?_getD, h1]; rfl
        have m0 : r0 ∈ S.rows := List.mem_of_getElem? h1
        have q0 := I.rrest r0 m0
        have hne0 : Gf.at' r0 c ≠ 0 := by
          have : r0 ∈ S.rows.filter (fun r => Gf.at' r c != 0) := by rw [h2]; simp
          have := (List.mem_filter.mp this).2
          simpa using this
        have hb := q0.2 c
        have hone := one_over_ok (μ := μ ++ [some (.lst (S.places.map fun k => D.int (k : Nat)))]) hp hp2 (a := Gf.at' r0 c) (by omega) hb.2
        have himb := invP_ok hp (a := Gf.at' r0 c) (by omega) hb.2
        have hfi := find_row hk
        rw [eg] at hfi
        have helim : Gf.elim p (invP p) S c = ⟨(S.rows.eraseIdx k).map (Gf.rowOff p c (Gf.scal p (invP p (Gf.at' r0 c)) r0)), S.found.map (Gf.rowOff p c (Gf.scal p (invP p (Gf.at' r0 c)) r0)) ++ [Gf.scal p (invP p (Gf.at' r0 c)) r0], S.places ++ [c]⟩ := by
          unfold Gf.elim; rw [hk, ← eg]
        rw [helim]
        generalize invP p (Gf.at' r0 c) = m at hone himb
        have hh : Gf.Rest p n (Gf.scal p m r0) := Gf.scal_rest (by omega) q0.1
        (repeat fail)
        refine w_ixL (k := 0) (xs := (r0 :: rest).map lvecD) (x := lvecD r0) rfl (by show atI _ ((0 : Nat) : Int) = _; exact atI_nat rfl) ?_
        (repeat fail)
        refine w_ix rfl (at_get (r := r0) (by rw [q0.1]; exact hc)) ?_
        (repeat fail)
        refine w_is hone ?_
        (repeat fail)
        refine w_ixL (k := 0) (xs := (r0 :: rest).map lvecD) (x := lvecD r0) rfl (by show atI _ ((0 : Nat) : Int) = _; exact atI_nat rfl) ?_
        (repeat fail)
        refine w_mapT r0 D.int (fun a => D.int ((m * a) % p)) rfl (fun a ha => ⟨_, rfl, wQ_is ?_⟩) (by have := q0.1; omega) ?_
        · obtain ⟨j, hj⟩ := List.mem_iff_getElem?.mp ha
          have h3 := q0.2 j
          have e : Gf.at' r0 j = a := by simp [Gf.at', List.getD_eq_getElem?_getD, hj]
          rw [e] at h3
          (repeat fail)
          refine w_mulX (mulOk32 (by omega) (by omega)) ?_
          (repeat fail)
          refine w_mod (by omega) ?_
          rw [fmod_pos _ (by omega)]
          exact ⟨rfl, rfl⟩
        have ehd : D.lst (r0.map fun a => D.int ((m * a) % p)) = lvecD (Gf.scal p m r0) := by
          simp only [lvecD, Gf.scal, List.map_map]; rfl
        rw [ehd]
        generalize Gf.scal p m r0 = head at hh
        (repeat fail)
        refine ⟨rfl, ?_⟩
        (repeat fail)
        refine w_ixL (k := 0) (xs := (r0 :: rest).map lvecD) (x := lvecD r0) rfl (by show atI _ ((0 : Nat) : Int) = _; exact atI_nat rfl) ?_
        (repeat fail)
        refine w_index (pn_lltab S.rows).pl (pn_lvec r0).pl hfi ?_
        (repeat fail)
        refine w_filtT (S.rows.zipIdx 0) (fun q => .tup [.int (q.2 : Nat), lvecD q.1]) (fun q => lvecD (Gf.rowOff p c head q.1)) (fun q => !decide (((q.2 : Nat) : Int) = ((0 + k : Nat) : Int))) (enumF_map lvecD S.rows 0) (fun q hq => ⟨_, rfl, wQ_is ?_, fun _ => wQ_is ?_⟩) (by rw [List.length_zipIdx]; omega) ?_
        · (repeat fail)
          exact ⟨by rw [Nat.zero_add], rfl⟩
        · (repeat fail)
          have hm : q.1 ∈ S.rows := List.fst_mem_of_mem_zipIdx hq
          refine w_is (row_off_ok (by omega) hp2 (I.rrest q.1 hm) hh hc (by omega)) ⟨rfl, rfl⟩
        have er : (((S.rows.zipIdx 0).filter fun q => !decide (((q.2 : Nat) : Int) = ((0 + k : Nat) : Int))).map fun q => lvecD (Gf.rowOff p c head q.1)) = ((S.rows.eraseIdx k).map (Gf.rowOff p c head)).map lvecD := by
          rw [← zipIdx_erase S.rows 0 k, List.map_map, List.map_map]; rfl
        rw [er]
        (repeat fail)
        refine w_mapT S.found lvecD (fun r => lvecD (Gf.rowOff p c head r)) rfl (fun r hr => ⟨_, rfl, wQ_is ?_⟩) (by omega) ?_
        · (repeat fail)
          refine w_is (row_off_ok (by omega) hp2 (I.ech.rest r hr) hh hc (by omega)) ⟨rfl, rfl⟩
        (repeat fail)
        refine w_addLL (by rw [List.length_map]; simp only [List.length_cons, List.length_nil]; omega) ?_
        (repeat fail)
        refine ⟨ty_box, ?_⟩
        (repeat fail)
        refine w_append get_box (by have := I.ech.len; rw [List.length_map]; omega) ?_
        rw [set_box]
        (repeat fail)
        have ef : (S.found.map fun r => lvecD (Gf.rowOff p c head r)) ++ [D.lst (head.map D.int)] = (S.found.map (Gf.rowOff p c head) ++ [head]).map lvecD := by
          rw [List.map_append, List.map_map]; rfl
        rw [ef]
        exact ⟨_, _, _, _, _, _, _, _, rfl, by rw [List.map_append]; rfl⟩
    · subst e; subst em
      refine fin _ _ _ _ _ _ _ _ _ _ _ ?_ ?_ ?_
      · have := (Gf.fold_inv hp1 hinv hn n (Nat.le_refl n)).cnt
        have e : (Src.st (rngD 0 ((n : Nat) : Int).toNat)).ds.length = n := by
          show (rngD 0 n).length = n
          exact rngD_len n
        rw [e]; omega
      · have e : (Src.st (rngD 0 ((n : Nat) : Int).toNat)).ds.length = n := rngD_len n
        rw [e]; rfl
      · have e : (Src.st (rngD 0 ((n : Nat) : Int).toNat)).ds.length = n := rngD_len n
        rw [e]; rfl
end
end Pd
end
section
open Pd
local macro_rules
  | `(tactic| fail) => `(tactic| with_reducible first
  | refine w_seq ?_ | refine w_asgN ?_ | refine w_var (by with_unfolding_all rfl) ?_ | refine w_c ?_ | refine w_bin ?_ | refine w_call ?_ | refine w_cons ?_ | refine w_nil ?_
  | refine w_callN (by with_unfolding_all rfl) ?_ | refine w_if ?_ | refine w_ret ?_ | refine w_exp ?_ | refine w_nx ?_ | refine w_ct ?_ | refine w_bk ?_ | refine w_retN ?_
  | refine w_tst ?_ | refine w_not ?_ | refine w_and ?_ | refine w_or ?_ | refine w_andD ?_ | refine w_orD ?_ | refine w_notD ?_ | refine w_blD ?_ | refine w_ifD ?_ | refine w_tru ?_ | refine w_ch ?_
  | refine w_stL ?_ | refine w_tup ?_ | refine w_lst ?_ | refine w_newDict ?_ | refine w_boxDict ?_ | refine w_newDisp ?_ | refine w_newEmp ?_ | refine w_boxEmp ?_ | refine w_pairC ?_ | refine w_pair0 ?_ | refine w_newL ?_ | refine w_boxL ?_ | refine w_frz ?_ | refine w_un ?_ | refine w_meth0 ?_ | refine w_methB ?_ | refine w_noO ?_ | refine w_someO ?_ | refine w_slice ?_ | refine w_rev ?_ | refine w_revT ?_
  | refine w_seqSt ?_ | refine w_zipSt ?_ | refine w_enSt ?_ | refine w_tupRg1 ?_ | refine w_lstRg1 ?_ | refine w_lstRg2 ?_ | refine w_rng1 ?_ | refine w_rng2 ?_ | refine w_lcD ?_ | refine w_asg ?_ | refine w_par ?_ | refine w_aug ?_ | refine w_set ?_ | refine w_for ?_
  | refine w_addI ?_ | refine w_subI ?_ | refine w_cmp ?_ | refine w_neg ?_ | refine w_ipAdd ?_ | refine w_eqI ?_ | refine w_neI ?_ | refine w_eqS ?_ | refine w_neS ?_ | refine w_int ?_ | refine w_intB ?_ | refine w_abs ?_ | refine w_max2 ?_ | refine w_min2 ?_ | refine w_gcd ?_
  | refine w_ok ?_ | refine And.intro (Nat.le_of_ble_eq_true (by with_unfolding_all rfl)) ?_ | refine And.intro (sm_le (by with_unfolding_all rfl)) ?_ | refine and_fix (by with_unfolding_all rfl) ?_ | refine Exists.intro _ (And.intro (by with_unfolding_all rfl) ?_))
namespace Pd
open PySem PySem.Spec L2
section
variable {E : Exn → Mu → Prop} {Q : D → Mu → Prop} {μ : Mu}
theorem any_ints {i : Int} : ∀ ns : List Int, ((ns.map D.int).any fun z => eqF z (.int i)) = decide (i ∈ ns)
  | [] => rfl
  | n :: ns => by
    rw [List.map_cons, List.any_cons, any_ints ns]
    show ((n == i) || decide (i ∈ ns)) = _
    by_cases h1 : n = i
    · subst h1
      rw [decide_eq_true (List.mem_cons_self ..), beq_self_eq_true, Bool.true_or]
    · have h2 : (n == i) = false := by simpa using h1
      rw [h2, Bool.false_or]
      by_cases h3 : i ∈ ns
      · rw [decide_eq_true h3, decide_eq_true (List.mem_cons_of_mem _ h3)]
      · rw [decide_eq_false h3, decide_eq_false]
        intro h4
        rcases List.mem_cons.mp h4 with h5 | h5
        · exact h1 h5.symm
        · exact h3 h5
theorem flat_ints : ∀ ns : List Int, (ns.map D.int).all flatD = true
  | [] => rfl
  | n :: ns => by rw [List.map_cons, List.all_cons, flat_ints ns]; rfl
/-- whether a number is in a list, a tuple of numbers -/
theorem w_inInts {neg : Bool} {i : Int} {d : D} {ns : List Int} (hd : seqOf μ d = some (ns.map D.int)) (hs : ∀ z, d ≠ .str z) (h : Q (.bl (if neg then !decide (i ∈ ns) else decide (i ∈ ns))) μ) : wQ E Q (inD neg (.int i) d μ) := w_is (a := D.bl (if neg then !decide (i ∈ ns) else decide (i ∈ ns))) (μ := μ) (by
  cases d with
  | str z => exact absurd rfl (hs z)
  | _ => simp only [inD, hd, flatD, flat_ints, Bool.true_and, if_true, any_ints]) h
theorem setD_lst {l : Nat} {ds : List D} {v : D} {k : Nat} (h : μ[l]? = some (some (.lst ds))) (hk : k < ds.length) : setD (.ref l) (.int (k : Nat)) v μ = some (setL μ l (ds.set k v)) := by
  have e : ixN ds.length ((k : Nat) : Int) = some k := by
    unfold ixN
    rw [if_pos (by omega), if_pos (by omega)]; rfl
  simp only [setD, h, e]; rfl
end
theorem nats_eq (l : List Nat) : (l.map fun k => D.int (k : Nat)) = (l.map fun k => ((k : Nat) : Int)).map D.int := by rw [List.map_map]; rfl
theorem mem_nats {k : Nat} {l : List Nat} : ((k : Nat) : Int) ∈ (l.map fun k => ((k : Nat) : Int)) ↔ k ∈ l := by
  simp only [List.mem_map]
  constructor
  · rintro ⟨a, h, e⟩
    have : a = k := by omega
    exact this ▸ h
  · exact fun h => ⟨k, h, rfl⟩
def dotz (r x : List Int) : Int := ((r.zip x).map fun q => q.1 * q.2).sum
theorem dotz_dot : ∀ {n : Nat} {r x : List Int}, r.length = n → x.length = n → dotz r x = Gf.dot n r x := by
  intro n
  induction n with
  | zero => intro r x hr hx; cases r with
    | nil => rfl
    | cons a r => cases hr
  | succ n ih =>
    intro r x hr hx
    have key : ∀ {r x : List Int} {a b : Int}, r.length = n → x.length = n → dotz (r ++ [a]) (x ++ [b]) = dotz r x + a * b := by
      intro r x a b h1 h2
      unfold dotz
      rw [List.zip_append (by omega), List.map_append, List.sum_append]
      simp
    rcases List.eq_nil_or_concat r with rfl | ⟨r', a, rfl⟩
    · cases hr
    rcases List.eq_nil_or_concat x with rfl | ⟨x', b, rfl⟩
    · cases hx
    rw [List.concat_eq_append] at hr hx ⊢
    rw [List.concat_eq_append]
    have h1 : r'.length = n := by simpa using hr
    have h2 : x'.length = n := by simpa using hx
    rw [key h1 h2, ih h1 h2]
    unfold Gf.dot
    rw [Gf.sumN]
    congr 1
    · refine Gf.sumN_congr fun j hj => ?_
      unfold Gf.at'
      rw [List.getD_eq_getElem?_getD, List.getD_eq_getElem?_getD, List.getD_eq_getElem?_getD, List.getD_eq_getElem?_getD, List.getElem?_append_left (by omega), List.getElem?_append_left (by omega)]
    · unfold Gf.at'
      rw [List.getD_eq_getElem?_getD, List.getD_eq_getElem?_getD, List.getElem?_append_right (by omega), List.getElem?_append_right (by omega), h1, h2, Nat.sub_self]; rfl
def Small (v : List Int) : Prop := ∀ a ∈ v, a.natAbs < 2 ^ 40
theorem small_at {v : List Int} {j : Nat} (h : Small v) : (Gf.at' v j).natAbs < 2 ^ 40 := by
  by_cases hj : j < v.length
  · have : Gf.at' v j = v[j] := by simp [Gf.at', List.getD_eq_getElem?_getD, List.getElem?_eq_getElem hj]
    rw [this]; exact h _ (List.getElem_mem hj)
  · rw [Gf.at_out (by omega)]; decide
theorem rest_small {p : Int} {n : Nat} {r : List Int} (hp2 : p < 2 ^ 32) (h : Gf.Rest p n r) : Small r := fun a ha => by
  obtain ⟨j, hj⟩ := List.mem_iff_getElem?.mp ha
  have := h.2 j
  have e : Gf.at' r j = a := by simp [Gf.at', List.getD_eq_getElem?_getD, hj]
  rw [e] at this
  omega
section
variable {μ : Mu} {p : Int} {d d2 : D} {t : List (List Int)} {n : Nat}
theorem rank_at_ok (hd : fixD d = true) (hs : seqOf μ d = some (t.map vecD)) (hn : ∀ r ∈ t, r.length = n) (hp : PrimeI p) (hp2 : p < 2 ^ 32) (hn1 : n ≤ 200) (ht : t.length ≤ 200) :
    ∃ xs, f_rank_at [d, .int p] μ = ok (.int ((Gf.steps p (invP p) n t).places.length : Nat)) (μ ++ xs) := by
  obtain ⟨xs, e⟩ := steps_at_ok hd hs hn hp hp2 hn1 ht
  refine wQ_app (w_body ?_)
  show wS _ _ _ _ _ (b_rank_at [some d, some (.int p)] μ)
  unfold b_rank_at
  (repeat fail)
  refine w_is e ?_
  (repeat fail)
  refine w_ixL (k := 1) rfl rfl ?_
  (repeat fail)
  refine w_len (xs := ((Gf.steps p (invP p) n t).places.map fun k => D.int (k : Nat))) rfl ?_
  rw [List.length_map]
  exact ⟨rfl, xs, rfl⟩
def colsOf (t : List (List Int)) (m : Nat) : List (List Int) := (List.range m).map fun k => t.map fun r => Gf.at' r k
theorem columns_of_ok (hd : fixD d = true) (hs : seqOf μ d = some (t.map vecD)) (hn : ∀ r ∈ t, r.length = n) (hne : t ≠ []) (hn1 : n ≤ 200) (ht : t.length ≤ 200) : f_columns_of [d] μ = ok (ltabD (colsOf t n)) μ := by
  refine wQ_is (w_body ?_)
  show wS _ _ _ _ _ (b_columns_of [some d, none, none] μ)
  unfold b_columns_of
  have hlen : 0 < t.length := List.length_pos_iff.mpr hne
  obtain ⟨r0, hr0⟩ : ∃ r0, t[0]? = some r0 := ⟨t[0], List.getElem?_eq_getElem hlen⟩
  (repeat fail)
  refine w_len hs ?_
  (repeat fail)
  refine w_ifT (by rw [List.length_map]; exact decide_eq_true (by omega)) ?_
  (repeat fail)
  refine w_ixL (k := 0) (x := vecD r0) hs (by show atI _ ((0 : Nat) : Int) = _; exact atI_nat (by rw [List.getElem?_map, hr0]; rfl)) ?_
  (repeat fail)
  refine w_len (xs := r0.map D.int) rfl ?_
  (repeat fail)
  have h0 := hn r0 (List.mem_of_getElem? hr0)
  rw [List.length_map, h0]
  refine ⟨by omega, ?_⟩
  (repeat fail)
  refine w_mapT (List.range n) (fun k => D.int (k : Nat)) (fun k => vecD (t.map fun r => Gf.at' r k)) (by rw [Int.toNat_natCast]; exact rngD_map n) (fun k hk => ⟨_, rfl, wQ_is ?_⟩) (by rw [List.length_range]; omega) ?_
  · have hk := List.mem_range.mp hk
    (repeat fail)
    refine ⟨_, hs, hd, ?_⟩
    refine w_mapT t vecD (fun r => D.int (Gf.at' r k)) rfl (fun r hr => ⟨_, rfl, wQ_is ?_⟩) (by omega) ?_
    · (repeat fail)
      refine w_ix rfl (at_get (r := r) (by rw [hn r hr]; exact hk)) ⟨rfl, rfl⟩
    · (repeat fail)
      refine w_tuple rfl ⟨?_, rfl⟩
      simp only [vecD, List.map_map]; rfl
  · (repeat fail)
    refine ⟨?_, rfl⟩
    simp only [ltabD, colsOf, List.map_map]; rfl
theorem at_cols {m k i : Nat} (hk : k < m) {r : List Int} (hr : t[i]? = some r) : Gf.at' ((colsOf t m).getD k []) i = Gf.at' r k := by
  have e : (colsOf t m).getD k [] = t.map fun r => Gf.at' r k := by
    simp [colsOf, List.getD_eq_getElem?_getD, List.getElem?_map, List.getElem?_range hk]
  rw [e]
  simp [Gf.at', List.getD_eq_getElem?_getD, List.getElem?_map, hr]
/-- the sum of products, by a zip -/
theorem sum_zip {E : Exn → Mu → Prop} {Q : D → Mu → Prop} {sl : Sl} {tg : Tg} {fa : DE} {r x : List Int} (hr : Small r) (hx : Small x) (hl : r.length ≤ 1000)
    (he : ∀ a b : Int, a.natAbs < 2 ^ 40 → b.natAbs < 2 ^ 40 → ∃ sl1, bindT μ tg (.tup [.int a, .int b]) sl = some sl1 ∧ fa sl1 μ = ok (.int (a * b)) μ) (hq : Q (.lst (((r.zip x).map fun q => q.1 * q.2).map D.int)) μ) :
    wQ E Q (lcL (fun _ => true) tg yesB fa sl (zipD (r.map D.int) (x.map D.int)) [] μ) := by
  refine w_mapT (r.zip x) (fun q => .tup [.int q.1, .int q.2]) (fun q => .int (q.1 * q.2)) (zipD_map D.int D.int r x) (fun q hq => ?_) (by rw [List.length_zip]; omega) ?_
  · have := List.of_mem_zip hq
    exact he q.1 q.2 (hr _ this.1) (hx _ this.2)
  · rw [List.map_map] at hq; exact hq
theorem thing_led_ok {x : List Int} (hd : fixD d = true) (hs : seqOf μ d = some (t.map vecD)) (hd2 : fixD d2 = true) (hs2 : seqOf μ d2 = some (x.map D.int)) (hn : ∀ r ∈ t, r.length = n) (hx : x.length = n) (hts : ∀ r ∈ t, Small r) (hxs : Small x) (hp : 0 < p) (hn1 : n ≤ 200) (ht : t.length ≤ 200) :
    f_thing_led [d, d2, .int p] μ = ok (vecD (t.map fun r => dotz r x % p)) μ := by
  refine wQ_is (w_body ?_)
  show wS _ _ _ _ _ (b_thing_led [some d, some d2, some (.int p), none, none, none] μ)
  unfold b_thing_led
  (repeat fail)
  refine ⟨_, hs, hd, ?_⟩
  refine w_mapT t vecD (fun r => D.int (dotz r x % p)) rfl (fun r hr => ⟨_, rfl, wQ_is ?_⟩) (by omega) ?_
  · (repeat fail)
    refine ⟨_, _, _, _, rfl, rfl, hs2, ⟨rfl, hd2⟩, fun _ => by rw [List.length_map, List.length_map, hn r hr, hx], ?_⟩
    refine sum_zip (hts r hr) hxs (by rw [hn r hr]; omega) (fun a b ha hb => ⟨_, rfl, wQ_is ?_⟩) ?_
    · (repeat fail)
      refine w_mulX (mulOk32 ha hb) ?_
      exact ⟨rfl, rfl⟩
    · (repeat fail)
      refine w_sum rfl (ints_map _) ?_
      (repeat fail)
      refine w_mod (by omega) ?_
      rw [fmod_pos _ hp]
      exact ⟨rfl, rfl⟩
  · (repeat fail)
    refine w_tuple rfl ⟨?_, rfl⟩
    simp only [vecD, List.map_map]; rfl
theorem product_at_ok {u : List (List Int)} {m : Nat} (hd : fixD d = true) (hs : seqOf μ d = some (t.map vecD)) (hd2 : fixD d2 = true) (hs2 : seqOf μ d2 = some (u.map vecD)) (hn : ∀ r ∈ t, r.length = u.length) (hu : ∀ r ∈ u, r.length = m) (hts : ∀ r ∈ t, Small r) (hus : ∀ r ∈ u, Small r) (hp : 0 < p) (hu0 : u ≠ []) (hn1 : m ≤ 200) (hn2 : u.length ≤ 200) (ht : t.length ≤ 200) :
    f_product_at [d, d2, .int p] μ = ok (tabD (t.map fun r => (colsOf u m).map fun c => dotz r c % p)) μ := by
  refine wQ_is (w_body ?_)
  show wS _ _ _ _ _ (b_product_at [some d, some d2, some (.int p), none, none, none, none, none] μ)
  unfold b_product_at
  (repeat fail)
  refine w_is (columns_of_ok hd2 hs2 hu hu0 hn1 hn2) ?_
  (repeat fail)
  refine ⟨_, hs, hd, ?_⟩
  have hc : ∀ c ∈ colsOf u m, c.length = u.length ∧ Small c := fun c hc => by
    obtain ⟨k, hk, rfl⟩ := List.mem_map.mp hc
    refine ⟨by simp, fun a ha => ?_⟩
    obtain ⟨r, hr, rfl⟩ := List.mem_map.mp ha
    exact small_at (hus r hr)
  have hcl : (colsOf u m).length = m := by simp [colsOf]
  refine w_mapT t vecD (fun r => vecD ((colsOf u m).map fun c => dotz r c % p)) rfl (fun r hr => ⟨_, rfl, wQ_is ?_⟩) (by omega) ?_
  · (repeat fail)
    refine w_mapT (colsOf u m) vecD (fun c => D.int (dotz r c % p)) rfl (fun c hc' => ⟨_, rfl, wQ_is ?_⟩) (by omega) ?_
    · (repeat fail)
      refine ⟨_, _, _, _, rfl, rfl, rfl, ⟨rfl, rfl⟩, fun _ => by rw [List.length_map, List.length_map, hn r hr, (hc c hc').1], ?_⟩
      refine sum_zip (hts r hr) (hc c hc').2 (by rw [hn r hr]; omega) (fun a b ha hb => ⟨_, rfl, wQ_is ?_⟩) ?_
      · (repeat fail)
        refine w_mulX (mulOk32 ha hb) ?_
        exact ⟨rfl, rfl⟩
      · (repeat fail)
        refine w_sum rfl (ints_map _) ?_
        (repeat fail)
        refine w_mod (by omega) ?_
        rw [fmod_pos _ hp]
        exact ⟨rfl, rfl⟩
    · (repeat fail)
      refine w_tuple rfl ⟨?_, rfl⟩
      simp only [vecD, List.map_map]; rfl
  · (repeat fail)
    refine w_tuple rfl ⟨?_, rfl⟩
    simp only [tabD, List.map_map]; rfl
end
end Pd
end
section
open Pd
local macro_rules
  | `(tactic| fail) => `(tactic| with_reducible first
  | refine w_seq ?_ | refine w_asgN ?_ | refine w_var (by with_unfolding_all rfl) ?_ | refine w_c ?_ | refine w_bin ?_ | refine w_call ?_ | refine w_cons ?_ | refine w_nil ?_
  | refine w_callN (by with_unfolding_all rfl) ?_ | refine w_if ?_ | refine w_ret ?_ | refine w_exp ?_ | refine w_nx ?_ | refine w_ct ?_ | refine w_bk ?_ | refine w_retN ?_
  | refine w_tst ?_ | refine w_not ?_ | refine w_and ?_ | refine w_or ?_ | refine w_andD ?_ | refine w_orD ?_ | refine w_notD ?_ | refine w_blD ?_ | refine w_ifD ?_ | refine w_tru ?_ | refine w_ch ?_
  | refine w_stL ?_ | refine w_tup ?_ | refine w_lst ?_ | refine w_newDict ?_ | refine w_boxDict ?_ | refine w_newDisp ?_ | refine w_newEmp ?_ | refine w_boxEmp ?_ | refine w_pairC ?_ | refine w_pair0 ?_ | refine w_newL ?_ | refine w_boxL ?_ | refine w_frz ?_ | refine w_un ?_ | refine w_meth0 ?_ | refine w_methB ?_ | refine w_noO ?_ | refine w_someO ?_ | refine w_slice ?_ | refine w_rev ?_ | refine w_revT ?_
  | refine w_seqSt ?_ | refine w_zipSt ?_ | refine w_enSt ?_ | refine w_tupRg1 ?_ | refine w_lstRg1 ?_ | refine w_lstRg2 ?_ | refine w_rng1 ?_ | refine w_rng2 ?_ | refine w_lcD ?_ | refine w_asg ?_ | refine w_par ?_ | refine w_aug ?_ | refine w_set ?_ | refine w_for ?_
  | refine w_addI ?_ | refine w_subI ?_ | refine w_cmp ?_ | refine w_neg ?_ | refine w_ipAdd ?_ | refine w_eqI ?_ | refine w_neI ?_ | refine w_eqS ?_ | refine w_neS ?_ | refine w_int ?_ | refine w_intB ?_ | refine w_abs ?_ | refine w_max2 ?_ | refine w_min2 ?_ | refine w_gcd ?_
  | refine w_ok ?_ | refine And.intro (Nat.le_of_ble_eq_true (by with_unfolding_all rfl)) ?_ | refine And.intro (sm_le (by with_unfolding_all rfl)) ?_ | refine and_fix (by with_unfolding_all rfl) ?_ | refine Exists.intro _ (And.intro (by with_unfolding_all rfl) ?_))
namespace Gf
theorem idx_take {P : List Nat} {j k : Nat} (hj : j < P.length) : idx (P.take (j + 1)) k = (idx (P.take j) k).or (if P[j] = k then some j else none) := by
  have e : P.take (j + 1) = P.take j ++ [P[j]] := by rw [List.take_succ, List.getElem?_eq_getElem hj]; rfl
  unfold idx
  rw [e, List.findIdx?_append]
  congr 1
  rw [List.findIdx?_cons]
  by_cases h : P[j] = k
  · rw [if_pos h]
    simp [h, List.length_take]; omega
  · rw [if_neg h]
    simp [h]
theorem idx_lt {P : List Nat} {j k i : Nat} (h : idx (P.take j) k = some i) : i < j ∧ P[i]? = some k := by
  have := idx_some h
  have hi := (List.getElem?_eq_some_iff.mp this).1
  rw [List.length_take] at hi
  rw [List.getElem?_take] at this
  split at this
  · exact ⟨by omega, this⟩
  · cases this
/-- a list told at the places of P, else by z -/
def putP (n : Nat) (P : List Nat) (v : Nat → Int) (z : Nat → Int) : Vec := (List.range n).map fun k => match idx P k with
  | some i => v i
  | none => z k
theorem putP_len {n : Nat} {P : List Nat} {v z : Nat → Int} : (putP n P v z).length = n := by simp [putP]
theorem putP_at {n k : Nat} {P : List Nat} {v z : Nat → Int} (hk : k < n) : at' (putP n P v z) k = match idx P k with
    | some i => v i
    | none => z k := by
  unfold at' putP
  simp [List.getD_eq_getElem?_getD, List.getElem?_map, List.getElem?_range hk]
theorem putP_set {n j : Nat} {P : List Nat} {v z : Nat → Int} (hj : j < P.length) (ha : P.Pairwise (· < ·)) (hlt : P[j] < n) : (putP n (P.take j) v z).set P[j] (v j) = putP n (P.take (j + 1)) v z := by
  refine vec_ext (n := n) (by rw [List.length_set, putP_len]) putP_len fun k hk => ?_
  have hset : at' ((putP n (P.take j) v z).set P[j] (v j)) k = if P[j] = k then v j else at' (putP n (P.take j) v z) k := by
    unfold at'
    rw [List.getD_eq_getElem?_getD, List.getElem?_set]
    by_cases h : P[j] = k
    · rw [if_pos h, if_pos h, if_pos (by rw [putP_len]; omega)]; rfl
    · rw [if_neg h, if_neg h, List.getD_eq_getElem?_getD]
  rw [hset, putP_at hk, putP_at hk, idx_take hj]
  by_cases h : P[j] = k
  · rw [if_pos h, if_pos h]
    cases e : idx (P.take j) k with
    | none => rfl
    | some i =>
      obtain ⟨h1, h2⟩ := idx_lt e
      have := asc_inj ha h2 (show P[j]? = some k by rw [List.getElem?_eq_getElem hj, h])
      omega
  · rw [if_neg h, if_neg h]
    cases e : idx (P.take j) k <;> rfl
theorem thing_put {p : Int} {n f : Nat} {F : List Vec} {P : List Nat} : thing p n F P f = putP n P (fun i => (-(at' (F.getD i []) f)) % p) (fun k => if k = f then 1 else 0) := rfl
def freeL (n : Nat) (P : List Nat) : List Nat := (List.range n).filter fun k => !decide (k ∈ P)
/-- what is led to, told by the last column of the steps -/
def ledV (n : Nat) (F : List Vec) (P : List Nat) : Vec := putP n P (fun i => at' (F.getD i []) n) fun _ => 0
end Gf
namespace Pd
open PySem PySem.Spec L2
section
variable {μ : Mu} {c : Option Cell} {zs : Mu}
theorem get_mid : (μ ++ c :: zs)[μ.length]? = some c := by
  rw [List.getElem?_append_right (Nat.le_refl _), Nat.sub_self]; rfl
theorem set_mid {ys : List D} : setL (μ ++ c :: zs) μ.length ys = μ ++ some (.lst ys) :: zs := by
  unfold setL
  rw [List.set_append_right _ _ (Nat.le_refl _), Nat.sub_self]; rfl
theorem ty_mid {xs : List D} : tyD .lst (μ ++ some (.lst xs) :: zs) (.ref μ.length) = true := by
  simp only [tyD, lstOf, get_mid]; rfl
theorem seq_mid {xs : List D} : seqOf (μ ++ some (.lst xs) :: zs) (.ref μ.length) = some xs := by
  simp only [seqOf, lstOf, get_mid]
end
theorem map_set_int {v : List Int} {k : Nat} {a : Int} : (v.map D.int).set k (.int a) = (v.set k a).map D.int := by rw [List.map_set]
section
variable {μ : Mu} {p : Int} {d d2 : D} {t : List (List Int)} {n : Nat}
theorem made_nothing_ok (hd : fixD d = true) (hs : seqOf μ d = some (t.map vecD)) (hn : ∀ r ∈ t, r.length = n) (hp : PrimeI p) (hp2 : p < 2 ^ 32) (hn1 : n ≤ 200) (ht : t.length ≤ 200) :
    ∃ xs, f_made_nothing [d, .int p, .int (n : Nat)] μ = ok (tabD ((Gf.freeL n (Gf.steps p (invP p) n t).places).map (Gf.thing p n (Gf.steps p (invP p) n t).found (Gf.steps p (invP p) n t).places))) (μ ++ xs) := by
  obtain ⟨xs, e⟩ := steps_at_ok hd hs hn hp hp2 hn1 ht
  have G := Gf.steps_good hp.1 (fun a h0 h1 => (invP_ok hp h0 h1).1) hn
  generalize (Gf.steps p (invP p) n t).found = F at *
  generalize (Gf.steps p (invP p) n t).places = P at *
  have hF : F.length ≤ 200 := by have := G.cnt; omega
  have hFP := G.ech.len
  refine wQ_app (w_body ?_)
  show wS _ _ _ _ _ (b_made_nothing [some d, some (.int p), some (.int (n : Nat)), none, none, none, none, none, none, none] μ)
  unfold b_made_nothing
  (repeat fail)
  refine w_is e ?_
  (repeat fail)
  refine ⟨by omega, ?_⟩
  (repeat fail)
  refine w_filtT (List.range n) (fun k => D.int (k : Nat)) (fun k => D.int (k : Nat)) (fun k => !decide (k ∈ P)) (by rw [Int.toNat_natCast]; exact rngD_map n) (fun k hk => ⟨_, rfl, wQ_is ?_, fun _ => wQ_is ?_⟩) (by rw [List.length_range]; omega) ?_
  · (repeat fail)
    refine w_inInts (ns := P.map fun k => ((k : Nat) : Int)) (by show seqOf _ (natsD P) = _; show some _ = _; rw [nats_eq]) (fun z => by intro h; cases h) ?_
    (repeat fail)
    refine ⟨?_, rfl⟩
    rw [if_pos rfl]
    congr 1
    rw [Bool.eq_iff_iff]; simp [mem_nats]
  · (repeat fail)
    exact ⟨rfl, rfl⟩
  (repeat fail)
  show wS _ _ _ _ _ (forL (fun _ => true) _ _ ((Gf.freeL n P).map fun k => D.int (k : Nat)) _ _)
  refine w_forSt (fun j sl μ' => ∃ o6 o7 o8 o9 zs, sl = [some d, some (.int p), some (.int (n : Nat)), some (tabD F), some (natsD P), some (.ref (μ ++ xs).length), o6, o7, o8, o9] ∧ μ' = (μ ++ xs) ++ some (.lst (((Gf.freeL n P).take j).map fun f => vecD (Gf.thing p n F P f))) :: zs)
    ⟨none, none, none, none, [], rfl, rfl⟩ (fun j d' sl μ' hj ⟨o6, o7, o8, o9, zs, e1, e2⟩ => ?_) (fun sl μ' ⟨o6, o7, o8, o9, zs, e1, e2⟩ => ?_)
  · subst e1; subst e2
    rw [List.getElem?_map] at hj
    cases hf : (Gf.freeL n P)[j]? with
    | none => rw [hf] at hj; cases hj
    | some f =>
      rw [hf] at hj; cases hj
      have hfm : f ∈ Gf.freeL n P := List.mem_of_getElem? hf
      have hfn : f < n := List.mem_range.mp (List.mem_filter.mp hfm).1
      refine ⟨_, rfl, ?_⟩
      (repeat fail)
      refine ⟨by omega, ?_⟩
      (repeat fail)
      refine w_mapT (List.range n) (fun k => D.int (k : Nat)) (fun k => D.int (if k = f then 1 else 0)) (by rw [Int.toNat_natCast]; exact rngD_map n) (fun k hk => ⟨_, rfl, wQ_is ?_⟩) (by rw [List.length_range]; omega) ?_
      · (repeat fail)
        refine ⟨?_, rfl⟩
        by_cases h : k = f
        · subst h; rw [if_pos rfl, decide_eq_true rfl]; rfl
        · rw [if_neg h, decide_eq_false (by omega)]; rfl
      (repeat fail)
      refine ⟨_, _, _, _, rfl, rfl, rfl, ⟨rfl, rfl⟩, fun _ => by rw [List.length_map, List.length_map]; exact hFP, ?_⟩
      (repeat fail)
      have e0 : (List.range n).map (fun k => D.int (if k = f then 1 else 0)) = (Gf.putP n (P.take 0) (fun i => (-(Gf.at' (F.getD i []) f)) % p) (fun k => if k = f then 1 else 0)).map D.int := by
        rw [Gf.putP, List.map_map]; rfl
      rw [e0]
      generalize eμ : (μ ++ xs ++ some (Cell.lst (List.map (fun f => vecD (Gf.thing p n F P f)) (List.take j (Gf.freeL n P)))) :: zs) = μ2
      refine w_forSt (fun i sl μ' => ∃ o7 o9, sl = [some d, some (.int p), some (.int (n : Nat)), some (tabD F), some (natsD P), some (.ref (μ ++ xs).length), some (.int (f : Nat)), o7, some (.ref μ2.length), o9] ∧ μ' = μ2 ++ [some (.lst ((Gf.putP n (P.take i) (fun i => (-(Gf.at' (F.getD i []) f)) % p) (fun k => if k = f then 1 else 0)).map D.int))])
        ⟨_, _, rfl, rfl⟩ (fun i d' sl μ' hi ⟨o7, o9, e1, e2⟩ => ?_) (fun sl μ' ⟨o7, o9, e1, e2⟩ => ?_)
      · subst e1; subst e2
        have hi : (zipD (F.map vecD) (P.map fun k => D.int (k : Nat)))[i]? = some d' := hi
        rw [zipD_map, List.getElem?_map] at hi
        cases hz : (F.zip P)[i]? with
        | none => rw [hz] at hi; cases hi
        | some q =>
          rw [hz] at hi; cases hi
          obtain ⟨hq1, hq2⟩ := List.getElem?_zip_eq_some.mp hz
          have hil := (List.getElem?_eq_some_iff.mp hq2).1
          have ePi : P[i] = q.2 := (List.getElem?_eq_some_iff.mp hq2).2
          have eFi : F.getD i [] = q.1 := by rw [List.getD_eq_getElem?_getD, hq1]; rfl
          have hr := G.ech.rest q.1 (List.mem_of_getElem? hq1)
          have hlt := G.ech.lt q.2 (List.mem_of_getElem? hq2)
          refine ⟨_, rfl, ?_⟩
          (repeat fail)
          refine w_ix rfl (at_get (r := q.1) (by rw [hr.1]; exact hfn)) ?_
          (repeat fail)
          refine w_mod (by have := hp.1; omega) ?_
          (repeat fail)
          rw [fmod_pos _ (by have := hp.1; omega)]
          refine ⟨_, setD_lst get_box (by rw [List.length_map, Gf.putP_len]; exact hlt), ?_⟩
          refine ⟨_, _, rfl, ?_⟩
          rw [set_box, map_set_int]
          have := Gf.putP_set (n := n) (v := fun i => (-(Gf.at' (F.getD i []) f)) % p) (z := fun k => if k = f then 1 else 0) hil G.ech.asc (by rw [ePi]; exact hlt)
          rw [← this, ePi, eFi]
      · subst e1; subst e2
        have hl : (Src.st (zipD (F.map vecD) (P.map fun k => D.int (k : Nat)))).ds.length = P.length := by
          show (zipD _ _).length = _
          rw [zipD_map, List.length_map, List.length_zip]; omega
        rw [hl, List.take_length]
        (repeat fail)
        have e3 : μ2 ++ [some (Cell.lst ((Gf.putP n P (fun i => (-(Gf.at' (F.getD i []) f)) % p) (fun k => if k = f then 1 else 0)).map D.int))] = (μ ++ xs) ++ some (Cell.lst (List.map (fun f => vecD (Gf.thing p n F P f)) (List.take j (Gf.freeL n P)))) :: (zs ++ [some (Cell.lst ((Gf.thing p n F P f).map D.int))]) := by
          rw [← eμ, List.append_assoc]; rfl
        have hbx := seq_box (μ := μ2) (xs := (Gf.putP n P (fun i => (-(Gf.at' (F.getD i []) f)) % p) (fun k => if k = f then 1 else 0)).map D.int)
        rw [e3] at hbx ⊢
        refine ⟨ty_mid, ?_⟩
        (repeat fail)
        refine w_tuple hbx ?_
        (repeat fail)
        refine w_append get_mid (by
          have := List.length_filter_le (fun k => !decide (k ∈ P)) (List.range n)
          rw [List.length_range] at this
          rw [List.length_map, List.length_take, sizeLine_eq]
          unfold Gf.freeL
          omega) ?_
        rw [set_mid]
        (repeat fail)
        exact ⟨_, _, _, _, zs ++ [some (Cell.lst ((Gf.thing p n F P f).map D.int))], rfl, by rw [List.take_succ, hf, List.map_append]; rfl⟩
  · subst e1; subst e2
    (repeat fail)
    refine w_tuple seq_mid ?_
    rw [List.length_map, List.take_length]
    refine ⟨?_, xs ++ some (Cell.lst _) :: zs, by rw [List.append_assoc]⟩
    simp only [tabD, List.map_map]; rfl
end
end Pd
end
section
open Pd
local macro_rules
  | `(tactic| fail) => `(tactic| with_reducible first
  | refine w_seq ?_ | refine w_asgN ?_ | refine w_var (by with_unfolding_all rfl) ?_ | refine w_c ?_ | refine w_bin ?_ | refine w_call ?_ | refine w_cons ?_ | refine w_nil ?_
  | refine w_callN (by with_unfolding_all rfl) ?_ | refine w_if ?_ | refine w_ret ?_ | refine w_exp ?_ | refine w_nx ?_ | refine w_ct ?_ | refine w_bk ?_ | refine w_retN ?_
  | refine w_tst ?_ | refine w_not ?_ | refine w_and ?_ | refine w_or ?_ | refine w_andD ?_ | refine w_orD ?_ | refine w_notD ?_ | refine w_blD ?_ | refine w_ifD ?_ | refine w_tru ?_ | refine w_ch ?_
  | refine w_stL ?_ | refine w_tup ?_ | refine w_lst ?_ | refine w_newDict ?_ | refine w_boxDict ?_ | refine w_newDisp ?_ | refine w_newEmp ?_ | refine w_boxEmp ?_ | refine w_pairC ?_ | refine w_pair0 ?_ | refine w_newL ?_ | refine w_boxL ?_ | refine w_frz ?_ | refine w_un ?_ | refine w_meth0 ?_ | refine w_methB ?_ | refine w_noO ?_ | refine w_someO ?_ | refine w_slice ?_ | refine w_rev ?_ | refine w_revT ?_
  | refine w_seqSt ?_ | refine w_zipSt ?_ | refine w_enSt ?_ | refine w_tupRg1 ?_ | refine w_lstRg1 ?_ | refine w_lstRg2 ?_ | refine w_rng1 ?_ | refine w_rng2 ?_ | refine w_lcD ?_ | refine w_asg ?_ | refine w_par ?_ | refine w_aug ?_ | refine w_set ?_ | refine w_for ?_
  | refine w_addI ?_ | refine w_subI ?_ | refine w_cmp ?_ | refine w_neg ?_ | refine w_ipAdd ?_ | refine w_eqI ?_ | refine w_neI ?_ | refine w_eqS ?_ | refine w_neS ?_ | refine w_int ?_ | refine w_intB ?_ | refine w_abs ?_ | refine w_max2 ?_ | refine w_min2 ?_ | refine w_gcd ?_
  | refine w_ok ?_ | refine And.intro (Nat.le_of_ble_eq_true (by with_unfolding_all rfl)) ?_ | refine And.intro (sm_le (by with_unfolding_all rfl)) ?_ | refine and_fix (by with_unfolding_all rfl) ?_ | refine Exists.intro _ (And.intro (by with_unfolding_all rfl) ?_))
namespace Pd
open PySem PySem.Spec L2
section
variable {μ : Mu} {p : Int} {d d2 : D} {t : List (List Int)} {n : Nat}
def wideT (t : List (List Int)) (g : List Int) : List (List Int) := (t.zip g).map fun q => q.1 ++ [q.2]
def unitV (n k : Nat) : List Int := (List.range n).map fun j => if j = k then 1 else 0
def augT (t : List (List Int)) : List (List Int) := (t.zipIdx 0).map fun q => q.1 ++ unitV t.length q.2
theorem wide_len {g : List Int} (hn : ∀ r ∈ t, r.length = n) : ∀ r ∈ wideT t g, r.length = n + 1 := fun r hr => by
  obtain ⟨q, hq, rfl⟩ := List.mem_map.mp hr
  rw [List.length_append, hn q.1 (List.of_mem_zip hq).1]; rfl
theorem aug_len (hn : ∀ r ∈ t, r.length = n) : ∀ r ∈ augT t, r.length = n + t.length := fun r hr => by
  obtain ⟨q, hq, rfl⟩ := List.mem_map.mp hr
  rw [List.length_append, hn q.1 (List.fst_mem_of_mem_zipIdx hq)]; simp [unitV]
theorem led_to_ok {g : List Int} (hd : fixD d = true) (hs : seqOf μ d = some (t.map vecD)) (hd2 : fixD d2 = true) (hs2 : seqOf μ d2 = some (g.map D.int)) (hn : ∀ r ∈ t, r.length = n) (hg : g.length = t.length) (hp : PrimeI p) (hp2 : p < 2 ^ 32) (hn1 : n ≤ 100) (ht : t.length ≤ 200) :
    ∃ xs, f_led_to [d, d2, .int p, .int (n : Nat)] μ = ok (if n ∈ (Gf.steps p (invP p) (n + 1) (wideT t g)).places then .non else vecD (Gf.ledV n (Gf.steps p (invP p) (n + 1) (wideT t g)).found (Gf.steps p (invP p) (n + 1) (wideT t g)).places)) (μ ++ xs) := by
  have hz := sizeLine_eq
  have hw : (wideT t g).length ≤ 200 := by simp only [wideT, List.length_map, List.length_zip]; omega
  obtain ⟨xs, e⟩ := steps_at_ok (μ := μ) (d := ltabD (wideT t g)) (t := wideT t g) (n := n + 1) rfl rfl (wide_len hn) hp hp2 (by omega) hw
  have G := Gf.steps_good hp.1 (fun a h0 h1 => (invP_ok hp h0 h1).1) (wide_len (g := g) hn)
  generalize (Gf.steps p (invP p) (n + 1) (wideT t g)).found = F at *
  generalize (Gf.steps p (invP p) (n + 1) (wideT t g)).places = P at *
  have hF : F.length ≤ 200 := by have := G.cnt; omega
  have hFP := G.ech.len
  refine wQ_app (w_body ?_)
  show wS _ _ _ _ _ (b_led_to [some d, some d2, some (.int p), some (.int (n : Nat)), none, none, none, none, none, none] μ)
  unfold b_led_to
  (repeat fail)
  refine ⟨_, _, _, _, rfl, hs, hs2, ⟨hd, hd2⟩, fun _ => by rw [List.length_map, List.length_map, hg], ?_⟩
  refine w_mapT (t.zip g) (fun q => .tup [vecD q.1, .int q.2]) (fun q => vecD (q.1 ++ [q.2])) (zipD_map vecD D.int t g) (fun q hq => ⟨_, rfl, wQ_is ?_⟩) (by rw [List.length_zip]; omega) ?_
  · (repeat fail)
    have := hn q.1 (List.of_mem_zip hq).1
    refine ⟨by rw [List.length_append, List.length_map]; simp only [List.length_cons, List.length_nil]; omega, ?_, rfl⟩
    simp only [vecD, List.map_append]; rfl
  have ew : D.lst ((t.zip g).map fun q => vecD (q.1 ++ [q.2])) = ltabD (wideT t g) := by
    simp only [ltabD, wideT, List.map_map]; rfl
  rw [ew]
  (repeat fail)
  refine w_is e ?_
  (repeat fail)
  refine w_inInts (ns := P.map fun k => ((k : Nat) : Int)) (by show some _ = _; rw [nats_eq]) (fun z => by intro h; cases h) ?_
  (repeat fail)
  rw [if_neg Bool.false_ne_true]
  have ein : decide (((n : Nat) : Int) ∈ P.map fun k => ((k : Nat) : Int)) = decide (n ∈ P) := by
    rw [Bool.eq_iff_iff]; simp [mem_nats]
  rw [ein]
  by_cases hP : n ∈ P
  · refine w_ifT (decide_eq_true hP) ?_
    (repeat fail)
    rw [if_pos hP]
    exact ⟨rfl, xs, rfl⟩
  · refine w_ifF (by simpa using hP) ?_
    rw [if_neg hP]
    have hPn : ∀ k ∈ P, k < n := fun k hk => by
      have := G.ech.lt k hk
      have : k ≠ n := fun z => hP (z ▸ hk)
      omega
    (repeat fail)
    have em : mulL2 (.lst [.int 0]) (.int (n : Nat)) (μ ++ xs) = ok (.lst ((Gf.putP n (P.take 0) (fun i => Gf.at' (F.getD i []) n) fun _ => 0).map D.int)) (μ ++ xs) := by
      simp only [mulL2, lstOf]
      rw [if_pos ⟨by omega, by omega, by rw [Int.toNat_natCast, hz]; simp only [List.length_cons, List.length_nil]; omega⟩, Int.toNat_natCast]
      congr 2
      rw [Gf.putP]
      rw [List.map_map]
      have : ∀ m : Nat, (List.replicate m [D.int 0]).flatten = (List.range m).map fun _ => D.int 0 := by
        intro m
        rw [List.map_const', List.length_range]
        induction m with
        | zero => rfl
        | succ m ih => rw [List.replicate_succ, List.flatten_cons, ih, List.replicate_succ]; rfl
      rw [this]; rfl
    with_reducible refine w_is em ?_
    (repeat fail)
    refine ⟨_, _, _, _, rfl, rfl, rfl, ⟨rfl, rfl⟩, fun _ => by rw [List.length_map, List.length_map]; exact hFP, ?_⟩
    (repeat fail)
    refine w_forSt (fun i sl μ' => ∃ o6 o9, sl = [some d, some d2, some (.int p), some (.int (n : Nat)), some (tabD F), some (natsD P), o6, none, some (.ref (μ ++ xs).length), o9] ∧ μ' = (μ ++ xs) ++ [some (.lst ((Gf.putP n (P.take i) (fun i => Gf.at' (F.getD i []) n) fun _ => 0).map D.int))])
      ⟨_, _, rfl, rfl⟩ (fun i d' sl μ' hi ⟨o6, o9, e1, e2⟩ => ?_) (fun sl μ' ⟨o6, o9, e1, e2⟩ => ?_)
    · subst e1; subst e2
      have hi : (zipD (F.map vecD) (P.map fun k => D.int (k : Nat)))[i]? = some d' := hi
      rw [zipD_map, List.getElem?_map] at hi
      cases hz2 : (F.zip P)[i]? with
      | none => rw [hz2] at hi; cases hi
      | some q =>
        rw [hz2] at hi; cases hi
        obtain ⟨hq1, hq2⟩ := List.getElem?_zip_eq_some.mp hz2
        have hil := (List.getElem?_eq_some_iff.mp hq2).1
        have ePi : P[i] = q.2 := (List.getElem?_eq_some_iff.mp hq2).2
        have eFi : F.getD i [] = q.1 := by rw [List.getD_eq_getElem?_getD, hq1]; rfl
        have hr := G.ech.rest q.1 (List.mem_of_getElem? hq1)
        have hlt := hPn q.2 (List.mem_of_getElem? hq2)
        refine ⟨_, rfl, ?_⟩
        (repeat fail)
        refine w_ix rfl (at_get (r := q.1) (by rw [hr.1]; omega)) ?_
        (repeat fail)
        refine ⟨_, setD_lst get_box (by rw [List.length_map, Gf.putP_len]; exact hlt), ?_⟩
        refine ⟨_, _, rfl, ?_⟩
        rw [set_box, map_set_int]
        have := Gf.putP_set (n := n) (v := fun i => Gf.at' (F.getD i []) n) (z := fun k => 0) hil G.ech.asc (by rw [ePi]; exact hlt)
        rw [← this, ePi, eFi]
    · subst e1; subst e2
      have hl : (Src.st (zipD (F.map vecD) (P.map fun k => D.int (k : Nat)))).ds.length = P.length := by
        show (zipD _ _).length = _
        rw [zipD_map, List.length_map, List.length_zip]; omega
      rw [hl, List.take_length]
      (repeat fail)
      refine w_tuple seq_box ?_
      exact ⟨rfl, xs ++ [_], by rw [List.append_assoc]⟩
theorem cut_from_nat {ds : List D} {k : Nat} (h : k ≤ ds.length) : cutD ds (some (k : Nat)) none = ds.drop k := by
  unfold cutD
  rw [HT.sIx_nat, HT.sIx_none, Nat.min_eq_left h]
  rw [List.take_of_length_le (by rw [List.length_drop]; omega)]
theorem cut_to_nat {ds : List D} {k : Nat} (h : k ≤ ds.length) : cutD ds none (some (k : Nat)) = ds.take k := by
  unfold cutD
  rw [HT.sIx_nat, HT.sIx_none, Nat.min_eq_left h, List.drop_zero, Nat.sub_zero]
theorem undone_at_ok (hd : fixD d = true) (hs : seqOf μ d = some (t.map vecD)) (hn : ∀ r ∈ t, r.length = t.length) (hp : PrimeI p) (hp2 : p < 2 ^ 32) (ht : t.length ≤ 100) :
    ∃ xs, f_undone_at [d, .int p] μ = ok (if (Gf.steps p (invP p) (t.length + t.length) (augT t)).places = List.range t.length then tabD ((Gf.steps p (invP p) (t.length + t.length) (augT t)).found.map fun r => r.drop t.length) else .non) (μ ++ xs) := by
  have hz := sizeLine_eq
  have hw : (augT t).length = t.length := by simp [augT]
  obtain ⟨xs, e⟩ := steps_at_ok (μ := μ) (d := ltabD (augT t)) (t := augT t) (n := t.length + t.length) rfl rfl (aug_len hn) hp hp2 (by omega) (by omega)
  have G := Gf.steps_good hp.1 (fun a h0 h1 => (invP_ok hp h0 h1).1) (aug_len hn)
  generalize (Gf.steps p (invP p) (t.length + t.length) (augT t)).found = F at *
  generalize (Gf.steps p (invP p) (t.length + t.length) (augT t)).places = P at *
  have hF : F.length ≤ 200 := by have := G.cnt; omega
  refine wQ_app (w_body ?_)
  show wS _ _ _ _ _ (b_undone_at [some d, some (.int p), none, none, none, none, none, none] μ)
  unfold b_undone_at
  (repeat fail)
  refine w_len hs ?_
  rw [List.length_map]
  (repeat fail)
  refine ⟨_, hs, hd, ?_⟩
  refine w_mapT (t.zipIdx 0) (fun q => .tup [.int (q.2 : Nat), vecD q.1]) (fun q => vecD (q.1 ++ unitV t.length q.2)) (enumF_map vecD t 0) (fun q hq => ⟨_, rfl, wQ_is ?_⟩) (by rw [List.length_zipIdx]; omega) ?_
  · (repeat fail)
    refine ⟨by omega, ?_⟩
    refine w_mapT (List.range t.length) (fun k => D.int (k : Nat)) (fun k => D.int (if k = q.2 then 1 else 0)) (by rw [Int.toNat_natCast]; exact rngD_map _) (fun k hk => ⟨_, rfl, wQ_is ?_⟩) (by rw [List.length_range]; omega) ?_
    · (repeat fail)
      refine ⟨?_, rfl⟩
      by_cases h : k = q.2
      · rw [if_pos h, decide_eq_true (by omega)]; rfl
      · rw [if_neg h, decide_eq_false (by omega)]; rfl
    (repeat fail)
    have := hn q.1 (List.fst_mem_of_mem_zipIdx hq)
    refine ⟨by simp only [List.length_append, List.length_map, List.length_range, List.length_nil]; omega, ?_, rfl⟩
    simp only [vecD, unitV, List.map_append, List.map_map, List.append_nil]; rfl
  have ew : D.lst ((t.zipIdx 0).map fun q => vecD (q.1 ++ unitV t.length q.2)) = ltabD (augT t) := by
    simp only [ltabD, augT, List.map_map]; rfl
  rw [ew]
  (repeat fail)
  refine w_is e ?_
  (repeat fail)
  refine ⟨rgOk_nat (by omega), ?_⟩
  have er : D.tup (rngD 0 (((t.length : Nat) : Int) - 0).toNat) = natsD (List.range t.length) := by
    rw [Int.sub_zero, Int.toNat_natCast, rngD_map]; rfl
  rw [er]
  have nb : ∀ l : List Nat, nob (.tuple (l.map fun k => PyData.int (k : Nat))) = true := fun l => by
    rw [nob]; exact nobL_map _ _ fun x _ => rfl
  refine w_neP (pn_nats P).pl (pn_nats _).pl (nb _) (nb _) ?_
  (repeat fail)
  have inj : natsD P = natsD (List.range t.length) ↔ P = List.range t.length := by
    constructor
    · intro h
      unfold natsD at h
      injection h with h
      refine (List.map_inj_right fun x y e => ?_).mp h
      injection e with e
      omega
    · exact fun h => by rw [h]
  by_cases hP : P = List.range t.length
  · refine w_ifF (by simp [inj, hP]) ?_
    rw [if_pos hP]
    (repeat fail)
    refine w_mapT F vecD (fun r => vecD (r.drop t.length)) rfl (fun r hr => ⟨_, rfl, wQ_is ?_⟩) (by omega) ?_
    · (repeat fail)
      have := (G.ech.rest r hr).1
      refine w_is (a := vecD (r.drop t.length)) (μ := μ ++ xs) ?_ ⟨rfl, rfl⟩
      show ok (D.tup (cutD (r.map D.int) (some ((t.length : Nat) : Int)) none)) _ = _
      rw [cut_from_nat (by rw [List.length_map]; omega), vecD, List.map_drop]
    (repeat fail)
    refine w_tuple rfl ⟨?_, xs, rfl⟩
    simp only [tabD, List.map_map]; rfl
  · refine w_ifT (by simp [inj, hP]) ?_
    (repeat fail)
    rw [if_neg hP]
    exact ⟨rfl, xs, rfl⟩
end
end Pd
end
section
namespace Gf
section
variable {p : Int} {n m : Nat} {t F F' : List Vec} {P P' : List Nat}
def freeN (n : Nat) (P : List Nat) : List Nat := (List.range n).filter fun k => !decide (k ∈ P)
theorem sum_free (P : List Nat) (g : Nat → Int) : ∀ n : Nat, ((freeN n P).map g).sum = sumN n fun j => if j ∈ P then 0 else g j
  | 0 => rfl
  | n + 1 => by
    unfold freeN
    rw [List.range_succ, List.filter_append, List.map_append, List.sum_append, sumN]
    have := sum_free P g n
    unfold freeN at this
    rw [this]
    congr 1
    by_cases h : n ∈ P
    · rw [if_pos h, List.filter_cons_of_neg (by simp [h])]; rfl
    · rw [if_neg h, List.filter_cons_of_pos (by simp [h])]; simp
theorem emod_eq_of_dvd {a b : Int} (h : p ∣ a - b) : a % p = b % p := by
  obtain ⟨k, hk⟩ := h
  have : a = b + p * k := by omega
  rw [this, Int.add_mul_emod_self_left]
theorem dvd_of_emod_eq {a b : Int} (h : a % p = b % p) : p ∣ a - b := by
  have h1 := emod_sub_dvd a p
  have h2 := emod_sub_dvd b p
  obtain ⟨k, hk⟩ := h1
  obtain ⟨l, hl⟩ := h2
  exact ⟨l - k, by rw [Int.mul_sub]; omega⟩
/-- what is made 0: just the sums of the things, as free places tell -/
theorem ker_due (E : Ech p n F P) (x : Vec) : Ker p n F x ↔ ∀ k, k < n → at' x k % p = ((freeN n P).map fun f => at' x f * at' (thing p n F P f) k).sum % p := by
  have key : ∀ i r k, F[i]? = some r → P[i]? = some k → p ∣ ((freeN n P).map fun f => at' x f * at' (thing p n F P f) k).sum + sumN n fun j => if j ∈ P then 0 else at' r j * at' x j := fun i r k hr hk => by
    rw [sum_free, ← sumN_add]
    refine sumN_dvd fun j hj => ?_
    by_cases h : j ∈ P
    · rw [if_pos h, if_pos h]; exact Int.dvd_zero p
    · rw [if_neg h, if_neg h, thing_head E hr hk]
      obtain ⟨z, hz⟩ := neg_dvd (at' r j) p
      exact ⟨at' x j * z, by grind⟩
  rw [ker_iff E]
  constructor
  · intro h k hk
    by_cases hP : k ∈ P
    · obtain ⟨i, hi⟩ := List.mem_iff_getElem?.mp hP
      obtain ⟨r, hr⟩ := E.row hi
      refine emod_eq_of_dvd ?_
      have h1 := Int.dvd_sub (h i r k hr hi) (key i r k hr hi)
      generalize ((freeN n P).map fun f => at' x f * at' (thing p n F P f) k).sum = A at h1 ⊢
      generalize (sumN n fun j => if j ∈ P then 0 else at' r j * at' x j) = B at h1
      rwa [show at' x k + B - (A + B) = at' x k - A by omega] at h1
    · rw [sum_free, sumN_one (a := k) hk fun j hj hne => ?_, if_neg hP, thing_free hk hP, if_pos rfl, Int.mul_one]
      by_cases h : j ∈ P
      · rw [if_pos h]
      · rw [if_neg h, thing_free hk hP, if_neg (fun z => hne z.symm), Int.mul_zero]
  · intro h i r k hr hk
    have h1 := dvd_of_emod_eq (h k (E.lt k (List.mem_of_getElem? hk)))
    have h2 := Int.dvd_add h1 (key i r k hr hk)
    generalize ((freeN n P).map fun f => at' x f * at' (thing p n F P f) k).sum = A at h1 h2
    generalize (sumN n fun j => if j ∈ P then 0 else at' r j * at' x j) = B at h2 ⊢
    rwa [show at' x k - A + (A + B) = at' x k + B by omega] at h2
/-! rows with more behind -/
theorem at_app_l {r s : Vec} {j : Nat} (h : j < r.length) : at' (r ++ s) j = at' r j := by
  unfold at'
  rw [List.getD_eq_getElem?_getD, List.getD_eq_getElem?_getD, List.getElem?_append_left h]
theorem at_app_r {r s : Vec} {j : Nat} (h : r.length ≤ j) : at' (r ++ s) j = at' s (j - r.length) := by
  unfold at'
  rw [List.getD_eq_getElem?_getD, List.getD_eq_getElem?_getD, List.getElem?_append_right h]
theorem sumN_addN (n : Nat) (g : Nat → Int) : ∀ m : Nat, sumN (n + m) g = sumN n g + sumN m fun j => g (n + j)
  | 0 => by simp [sumN]
  | m + 1 => by rw [← Nat.add_assoc, sumN, sumN_addN n g m, sumN]; omega
theorem dot_app {r s x : Vec} (hr : r.length = n) : dot (n + m) (r ++ s) x = dot n r x + sumN m fun j => at' s j * at' x (n + j) := by
  unfold dot
  rw [sumN_addN]
  congr 1
  · exact sumN_congr fun j hj => by rw [at_app_l (by omega)]
  · exact sumN_congr fun j hj => by rw [at_app_r (by omega), hr, show n + j - n = j by omega]
/-- W: each row of t with something behind -/
def Wide (t W : List Vec) : Prop := (∀ w ∈ W, ∃ r ∈ t, ∃ s, w = r ++ s) ∧ ∀ r ∈ t, ∃ s, r ++ s ∈ W
theorem wide_ker {W : List Vec} (ht : ∀ r ∈ t, r.length = n) (h : Wide t W) {x : Vec} (h0 : ∀ j, n ≤ j → j < n + m → at' x j = 0) : Ker p (n + m) W x ↔ Ker p n t x := by
  have hz : ∀ s : Vec, (sumN m fun j => at' s j * at' x (n + j)) = 0 := fun s => sumN_zero fun j hj => by rw [h0 (n + j) (by omega) (by omega), Int.mul_zero]
  constructor
  · intro hk r hr
    obtain ⟨s, hs⟩ := h.2 r hr
    have := hk _ hs
    rwa [dot_app (ht r hr), hz, Int.add_zero] at this
  · intro hk w hw
    obtain ⟨r, hr, s, rfl⟩ := h.1 w hw
    rw [dot_app (ht r hr), hz, Int.add_zero]
    exact hk r hr
def cutV (n : Nat) (x : Vec) : Vec := (List.range n).map fun j => at' x j
theorem cut_at {x : Vec} {j : Nat} : at' (cutV n x) j = if j < n then at' x j else 0 := by
  by_cases h : j < n
  · rw [if_pos h]
    unfold cutV
    show ((List.range n).map fun j => at' x j).getD j 0 = _
    simp [List.getD_eq_getElem?_getD, List.getElem?_map, List.getElem?_range h]
  · rw [if_neg h]; exact at_out (by simp [cutV]; omega)
theorem dot_cut {r x : Vec} : dot n r (cutV n x) = dot n r x := sumN_congr fun j hj => by rw [cut_at, if_pos hj]
/-- heads of the first columns are the table's own -/
theorem wide_heads {W : List Vec} (hp : 1 < p) (ht : ∀ r ∈ t, r.length = n) (h : Wide t W) (G : Good p n t F P) (G' : Good p (n + m) W F' P') {k : Nat} (hk : k < n) : k ∈ P' ↔ k ∈ P := by
  rw [head_iff hp G'.ech (by omega), head_iff hp G.ech hk]
  refine not_congr ?_
  constructor
  · rintro ⟨x, h1, h2, h3⟩
    rw [G'.ker, wide_ker ht h fun j h4 h5 => h3 j (by omega) h5] at h1
    exact ⟨x, (G.ker x).mpr h1, h2, fun j h4 h5 => h3 j h4 (by omega)⟩
  · rintro ⟨x, h1, h2, h3⟩
    refine ⟨cutV n x, ?_, by rw [cut_at, if_pos hk, h2], fun j h4 h5 => ?_⟩
    · rw [G'.ker, wide_ker ht h fun j h4 h5 => by rw [cut_at, if_neg (by omega)]]
      intro r hr
      rw [dot_cut]
      exact (G.ker x).mp h1 r hr
    · rw [cut_at]
      split
      · exact h3 j h4 (by assumption)
      · rfl
theorem wide_places {W : List Vec} (hp : 1 < p) (ht : ∀ r ∈ t, r.length = n) (h : Wide t W) (G : Good p n t F P) (G' : Good p (n + m) W F' P') : P'.filter (fun k => decide (k < n)) = P :=
  asc_ext (G'.ech.asc.filter _) G.ech.asc fun k => by
    rw [List.mem_filter]
    constructor
    · rintro ⟨h1, h2⟩
      exact (wide_heads hp ht h G G' (by simpa using h2)).mp h1
    · intro h1
      have := G.ech.lt k h1
      exact ⟨(wide_heads hp ht h G G' this).mpr h1, by simpa using this⟩
/-- by one column: the rank grows exactly if it has a head -/
theorem wide_one {W : List Vec} (hp : 1 < p) (ht : ∀ r ∈ t, r.length = n) (h : Wide t W) (G : Good p n t F P) (G' : Good p (n + 1) W F' P') : P'.length = P.length + if n ∈ P' then 1 else 0 := by
  have e := wide_places hp ht h G G'
  have hlt := G'.ech.lt
  have hasc := G'.ech.asc
  clear G' h
  subst e
  clear G
  induction P' with
  | nil => rfl
  | cons a P' ih =>
    obtain ⟨h1, h2⟩ := List.pairwise_cons.mp hasc
    have ih := ih (fun k hk => hlt k (List.mem_cons_of_mem _ hk)) h2
    have ha := hlt a (List.mem_cons_self ..)
    by_cases h : a < n
    · rw [List.filter_cons_of_pos (by simpa using h), List.length_cons, ih]
      have : n ∈ a :: P' ↔ n ∈ P' := by
        constructor
        · intro z
          rcases List.mem_cons.mp z with z | z
          · omega
          · exact z
        · exact List.mem_cons_of_mem _
      simp only [this, List.length_cons]
      omega
    · have e : a = n := by omega
      subst e
      have : P' = [] := by
        cases P' with
        | nil => rfl
        | cons b P' =>
          have := h1 b (List.mem_cons_self ..)
          have := hlt b (List.mem_cons_of_mem _ (List.mem_cons_self ..))
          omega
      subst this
      simp
end
section
variable {p : Int} {n : Nat} {t F F' : List Vec} {P P' : List Nat} {g : Vec}
def wideW (t : List Vec) (g : Vec) : List Vec := (t.zip g).map fun q => q.1 ++ [q.2]
theorem wideW_wide (hg : g.length = t.length) : Wide t (wideW t g) := by
  refine ⟨fun w hw => ?_, fun r hr => ?_⟩
  · obtain ⟨q, hq, rfl⟩ := List.mem_map.mp hw
    exact ⟨q.1, (List.of_mem_zip hq).1, _, rfl⟩
  · obtain ⟨i, hi⟩ := List.mem_iff_getElem?.mp hr
    have hlt := (List.getElem?_eq_some_iff.mp hi).1
    refine ⟨[g[i]], List.mem_map.mpr ⟨(r, g[i]), ?_, rfl⟩⟩
    exact List.mem_iff_getElem?.mpr ⟨i, List.getElem?_zip_eq_some.mpr ⟨hi, List.getElem?_eq_getElem (by omega)⟩⟩
theorem dot_one {r x : Vec} {b : Int} (hr : r.length = n) : dot (n + 1) (r ++ [b]) x = dot n r x + b * at' x n := by
  rw [dot_app hr]
  simp [sumN, at']
/-- told to no head: it leads there -/
theorem led_right (hp : 1 < p) (ht : ∀ r ∈ t, r.length = n) (G' : Good p (n + 1) (wideW t g) F' P') (hn : n ∉ P') {x : Vec} (hx : ∀ k, k < n → at' x k = match idx P' k with
    | some i => at' (F'.getD i []) n
    | none => 0) : ∀ q ∈ t.zip g, p ∣ dot n q.1 x - q.2 := by
  have E := G'.ech
  obtain ⟨y, ey⟩ : ∃ y : Vec, y = cutV n x ++ [-1] := ⟨_, rfl⟩
  have hl : (cutV n x).length = n := by simp [cutV]
  have y1 : ∀ k, k < n → at' y k = at' x k := fun k hk => by rw [ey, at_app_l (by omega), cut_at, if_pos hk]
  have y2 : at' y n = -1 := by rw [ey, at_app_r (by omega), hl, Nat.sub_self]; rfl
  have hk : Ker p (n + 1) F' y := by
    rw [ker_iff E]
    intro i r k hr hk
    have hkn : k < n := by
      have := E.lt k (List.mem_of_getElem? hk)
      have : k ≠ n := fun z => hn (z ▸ List.mem_of_getElem? hk)
      omega
    obtain ⟨i', ei⟩ := idx_mem (List.mem_of_getElem? hk)
    have e1 : at' y k = at' r n := by
      rw [y1 k hkn, hx k hkn, ei]
      have := asc_inj E.asc (idx_some ei) hk
      subst this
      show at' (F'.getD i' []) n = _
      rw [List.getD_eq_getElem?_getD, hr]; rfl
    rw [e1, sumN_one (a := n) (by omega) fun j hj hne => ?_, if_neg hn, y2]
    · exact ⟨0, by omega⟩
    · by_cases h : j ∈ P'
      · rw [if_pos h]
      · rw [if_neg h, y1 j (by omega), hx j (by omega)]
        cases ej : idx P' j with
        | some i => exact absurd (List.mem_of_getElem? (idx_some ej)) h
        | none => exact Int.mul_zero _
  have hw := (G'.ker y).mp hk
  intro q hq
  have h1 := hw (q.1 ++ [q.2]) (List.mem_map.mpr ⟨q, hq, rfl⟩)
  have hr := ht q.1 (List.of_mem_zip hq).1
  rw [dot_one hr, y2] at h1
  have : dot n q.1 y = dot n q.1 x := sumN_congr fun j hj => by rw [y1 j hj]
  rw [this] at h1
  rwa [show dot n q.1 x + q.2 * -1 = dot n q.1 x - q.2 by omega] at h1
/-- where something is led there, none is -/
theorem led_none (hp : 1 < p) (ht : ∀ r ∈ t, r.length = n) (G' : Good p (n + 1) (wideW t g) F' P') {x : Vec} (hx : ∀ q ∈ t.zip g, p ∣ dot n q.1 x - q.2) : n ∉ P' := by
  rw [head_iff hp G'.ech (by omega)]
  intro h
  refine h ⟨cutV n (x.map (-·)) ++ [1], ?_, ?_, fun j h1 h2 => by omega⟩
  · rw [G'.ker]
    intro w hw
    obtain ⟨q, hq, rfl⟩ := List.mem_map.mp hw
    have hr := ht q.1 (List.of_mem_zip hq).1
    have hl : (cutV n (x.map (-·))).length = n := by simp [cutV]
    rw [dot_one hr, at_app_r (by omega), hl, Nat.sub_self]
    have e : dot n q.1 (cutV n (x.map (-·)) ++ [1]) = -(dot n q.1 x) := by
      have : -(dot n q.1 x) = (-1) * dot n q.1 x := by omega
      rw [this]
      unfold dot
      rw [← sumN_mul]
      refine sumN_congr fun j hj => ?_
      rw [at_app_l (by omega), cut_at, if_pos hj]
      by_cases hjx : j < x.length
      · rw [at_map (f := (-·)) hjx]; grind
      · rw [show at' (x.map (-·)) j = 0 from at_out (by simpa using hjx), show at' x j = 0 from at_out (by omega)]; simp
    rw [e]
    obtain ⟨z, hz⟩ := hx q hq
    exact ⟨-z, by show -(dot n q.1 x) + q.2 * at' [1] 0 = _; rw [show at' [1] 0 = 1 from rfl, Int.mul_neg]; omega⟩
  · have hl : (cutV n (x.map (-·))).length = n := by simp [cutV]
    rw [at_app_r (by omega), hl, Nat.sub_self]; rfl
end
/-! square ones undone -/
section
variable {p : Int} {n : Nat} {t F F' : List Vec} {P P' : List Nat}
def unitL (n k : Nat) : Vec := (List.range n).map fun j => if j = k then 1 else 0
theorem unit_at {n k j : Nat} (h : j < n) : at' (unitL n k) j = if j = k then 1 else 0 := by
  unfold unitL
  show ((List.range n).map _).getD j 0 = _
  simp [List.getD_eq_getElem?_getD, List.getElem?_map, List.getElem?_range h]
def augW (t : List Vec) : List Vec := (t.zipIdx 0).map fun q => q.1 ++ unitL t.length q.2
theorem aug_get {i : Nat} {r : Vec} (h : t[i]? = some r) : (augW t)[i]? = some (r ++ unitL t.length i) := by
  unfold augW
  rw [List.getElem?_map, List.getElem?_zipIdx, h]; simp
theorem aug_wide : Wide t (augW t) := by
  refine ⟨fun w hw => ?_, fun r hr => ?_⟩
  · obtain ⟨q, hq, rfl⟩ := List.mem_map.mp hw
    exact ⟨q.1, List.fst_mem_of_mem_zipIdx hq, _, rfl⟩
  · obtain ⟨i, hi⟩ := List.mem_iff_getElem?.mp hr
    exact ⟨_, List.mem_of_getElem? (aug_get hi)⟩
theorem asc_range : ∀ (P : List Nat) (s : Nat), P.Pairwise (· < ·) → (∀ k ∈ P, s ≤ k ∧ k < s + P.length) → P = List.range' s P.length
  | [], _, _, _ => rfl
  | a :: P, s, h, hk => by
    obtain ⟨h1, h2⟩ := List.pairwise_cons.mp h
    have ha := hk a (List.mem_cons_self ..)
    have ih := asc_range P (s + 1) h2 fun k hm => by
      have := h1 k hm
      have := hk k (List.mem_cons_of_mem _ hm)
      simp only [List.length_cons] at this
      omega
    have e : a = s := by
      cases P with
      | nil => simp at ha; omega
      | cons b P =>
        have hb : b = s + 1 := by
          rw [List.length_cons, List.range'_succ] at ih
          injection ih
        have := h1 b (List.mem_cons_self ..)
        omega
    subst e
    rw [List.length_cons, List.range'_succ, ← ih]
theorem asc_full (h : P.Pairwise (· < ·)) (hlt : ∀ k ∈ P, k < P.length) : P = List.range P.length := by
  rw [List.range_eq_range']
  exact asc_range P 0 h fun k hk => ⟨by omega, by have := hlt k hk; omega⟩
theorem undone_iff (hp : 1 < p) (ht : ∀ r ∈ t, r.length = n) (hn : t.length = n) (G : Good p n t F P) (G' : Good p (n + n) (augW t) F' P') : P' = List.range n ↔ P.length = n := by
  have e := wide_places hp ht aug_wide G G'
  constructor
  · intro h
    rw [h] at e
    rw [← e, List.filter_eq_self.mpr fun k hk => by simpa using hk, List.length_range]
  · intro h
    have h1 : P = List.range n := by
      have := asc_full G.ech.asc fun k hk => by have := G.ech.lt k hk; omega
      rwa [h] at this
    have hl : P'.length ≤ n := by
      have := G'.cnt
      have := G'.ech.len
      have : (augW t).length = n := by simp [augW, hn]
      omega
    have h2 : (P'.filter fun k => decide (k < n)).length = n := by rw [e, h]
    have h3 := List.length_filter_le (fun k => decide (k < n)) P'
    have h4 : P'.filter (fun k => decide (k < n)) = P' := List.filter_eq_self.mpr (List.length_filter_eq_length_iff.mp (by omega))
    rw [← h4, e, h1]
theorem aug_ker (ht : ∀ r ∈ t, r.length = n) (hn : t.length = n) {y : Vec} : Ker p (n + n) (augW t) y ↔ ∀ i r, t[i]? = some r → p ∣ dot n r y + at' y (n + i) := by
  have key : ∀ (i : Nat) r, t[i]? = some r → dot (n + n) (r ++ unitL t.length i) y = dot n r y + at' y (n + i) := fun i r hi => by
    have hlt := (List.getElem?_eq_some_iff.mp hi).1
    rw [dot_app (ht r (List.mem_of_getElem? hi)), sumN_one (a := i) (by omega) fun j hj hne => by rw [unit_at (by omega), if_neg hne, Int.zero_mul], unit_at (by omega), if_pos rfl, Int.one_mul]
  constructor
  · intro h i r hi
    rw [← key i r hi]
    exact h _ (List.mem_of_getElem? (aug_get hi))
  · intro h w hw
    obtain ⟨i, hi⟩ := List.mem_iff_getElem?.mp hw
    have hlt := (List.getElem?_eq_some_iff.mp hi).1
    have hlt : i < t.length := by simpa [augW] using hlt
    have h1 := List.getElem?_eq_getElem hlt
    rw [aug_get h1] at hi
    cases hi
    rw [key i _ h1]
    exact h i _ h1
theorem full_ker (E : Ech p (n + n) F' (List.range n)) {y : Vec} : Ker p (n + n) F' y ↔ ∀ i r, F'[i]? = some r → p ∣ at' y i + sumN n fun l => at' r (n + l) * at' y (n + l) := by
  rw [ker_iff E]
  have key : ∀ (r : Vec), (sumN (n + n) fun j => if j ∈ List.range n then 0 else at' r j * at' y j) = sumN n fun l => at' r (n + l) * at' y (n + l) := fun r => by
    rw [sumN_addN, sumN_zero fun j hj => by rw [if_pos (List.mem_range.mpr hj)], Int.zero_add]
    exact sumN_congr fun j hj => by rw [if_neg (by simp)]
  constructor
  · intro h i r hr
    have hl := (List.getElem?_eq_some_iff.mp hr).1
    have := E.len
    rw [List.length_range] at this
    have h1 := h i r i hr (List.getElem?_range (by omega))
    rwa [key] at h1
  · intro h i r k hr hk
    rw [key]
    obtain ⟨h1, h2⟩ := List.getElem?_eq_some_iff.mp hk
    rw [List.getElem_range] at h2
    subst h2
    exact h i r hr
/-- undone, both ways round -/
theorem undone_right (hp : 1 < p) (ht : ∀ r ∈ t, r.length = n) (hn : t.length = n) (G' : Good p (n + n) (augW t) F' (List.range n)) :
    (∀ i r k, t[i]? = some r → k < n → p ∣ (sumN n fun j => at' r j * at' (F'.getD j []) (n + k)) - if i = k then 1 else 0) ∧
    (∀ i r k, F'[i]? = some r → k < n → p ∣ (sumN n fun j => at' r (n + j) * at' (t.getD j []) k) - if i = k then 1 else 0) := by
  have hF : F'.length = n := by have := G'.ech.len; rwa [List.length_range] at this
  refine ⟨fun i r k hi hk => ?_, fun i r k hi hk => ?_⟩
  · obtain ⟨y, hy⟩ : ∃ y : Vec, y = (List.range n).map (fun j => -(at' (F'.getD j []) (n + k))) ++ unitL n k := ⟨_, rfl⟩
    have y1 : ∀ j, j < n → at' y j = -(at' (F'.getD j []) (n + k)) := fun j hj => by
      rw [hy, at_app_l (by simpa using hj)]
      show ((List.range n).map _).getD j 0 = _
      simp [List.getD_eq_getElem?_getD, List.getElem?_map, List.getElem?_range hj]
    have y2 : ∀ j, j < n → at' y (n + j) = if j = k then 1 else 0 := fun j hj => by
      rw [hy, at_app_r (by simp), List.length_map, List.length_range, show n + j - n = j by omega, unit_at hj]
    have hk1 : Ker p (n + n) F' y := by
      rw [full_ker G'.ech]
      intro i r hi
      have hl := (List.getElem?_eq_some_iff.mp hi).1
      rw [y1 i (by omega), sumN_one (a := k) hk fun j hj hne => by rw [y2 j hj, if_neg hne, Int.mul_zero], y2 k hk, if_pos rfl]
      have : F'.getD i [] = r := by rw [List.getD_eq_getElem?_getD, hi]; rfl
      rw [this]
      exact ⟨0, by omega⟩
    have h2 := (aug_ker ht hn).mp ((G'.ker y).mp hk1) i r hi
    have hl := (List.getElem?_eq_some_iff.mp hi).1
    rw [y2 i (by omega)] at h2
    have e : dot n r y = -(sumN n fun j => at' r j * at' (F'.getD j []) (n + k)) := by
      have : -(sumN n fun j => at' r j * at' (F'.getD j []) (n + k)) = (-1) * sumN n fun j => at' r j * at' (F'.getD j []) (n + k) := by omega
      rw [this, ← sumN_mul]
      exact sumN_congr fun j hj => by rw [y1 j hj]; grind
    rw [e] at h2
    obtain ⟨z, hz⟩ := h2
    exact ⟨-z, by rw [Int.mul_neg]; omega⟩
  · obtain ⟨y, hy⟩ : ∃ y : Vec, y = unitL n k ++ (List.range n).map (fun j => -(at' (t.getD j []) k)) := ⟨_, rfl⟩
    have ul : (unitL n k).length = n := by simp [unitL]
    have y1 : ∀ j, j < n → at' y j = if j = k then 1 else 0 := fun j hj => by
      rw [hy, at_app_l (by omega), unit_at hj]
    have y2 : ∀ j, j < n → at' y (n + j) = -(at' (t.getD j []) k) := fun j hj => by
      rw [hy, at_app_r (by omega), ul, show n + j - n = j by omega]
      show ((List.range n).map _).getD j 0 = _
      simp [List.getD_eq_getElem?_getD, List.getElem?_map, List.getElem?_range hj]
    have hk1 : Ker p (n + n) (augW t) y := by
      rw [aug_ker ht hn]
      intro i r hi
      have hl := (List.getElem?_eq_some_iff.mp hi).1
      have e : dot n r y = at' r k := by
        unfold dot
        rw [sumN_one (a := k) hk fun j hj hne => by rw [y1 j hj, if_neg hne, Int.mul_zero], y1 k hk, if_pos rfl, Int.mul_one]
      rw [e, y2 i (by omega)]
      have : t.getD i [] = r := by rw [List.getD_eq_getElem?_getD, hi]; rfl
      rw [this]
      exact ⟨0, by omega⟩
    have h2 := (full_ker G'.ech).mp ((G'.ker y).mpr hk1) i r hi
    have hl := (List.getElem?_eq_some_iff.mp hi).1
    rw [y1 i (by omega)] at h2
    have e : (sumN n fun l => at' r (n + l) * at' y (n + l)) = -(sumN n fun j => at' r (n + j) * at' (t.getD j []) k) := by
      have : -(sumN n fun j => at' r (n + j) * at' (t.getD j []) k) = (-1) * sumN n fun j => at' r (n + j) * at' (t.getD j []) k := by omega
      rw [this, ← sumN_mul]
      exact sumN_congr fun j hj => by rw [y2 j hj]; grind
    rw [e] at h2
    obtain ⟨z, hz⟩ := h2
    exact ⟨-z, by rw [Int.mul_neg]; omega⟩
end
end Gf
end
section
open Pd
local macro_rules
  | `(tactic| fail) => `(tactic| with_reducible first
  | refine w_seq ?_ | refine w_asgN ?_ | refine w_var (by with_unfolding_all rfl) ?_ | refine w_c ?_ | refine w_bin ?_ | refine w_call ?_ | refine w_cons ?_ | refine w_nil ?_
  | refine w_callN (by with_unfolding_all rfl) ?_ | refine w_if ?_ | refine w_ret ?_ | refine w_exp ?_ | refine w_nx ?_ | refine w_ct ?_ | refine w_bk ?_ | refine w_retN ?_
  | refine w_tst ?_ | refine w_not ?_ | refine w_and ?_ | refine w_or ?_ | refine w_andD ?_ | refine w_orD ?_ | refine w_notD ?_ | refine w_blD ?_ | refine w_ifD ?_ | refine w_tru ?_ | refine w_ch ?_
  | refine w_stL ?_ | refine w_tup ?_ | refine w_lst ?_ | refine w_newDict ?_ | refine w_boxDict ?_ | refine w_newDisp ?_ | refine w_newEmp ?_ | refine w_boxEmp ?_ | refine w_pairC ?_ | refine w_pair0 ?_ | refine w_newL ?_ | refine w_boxL ?_ | refine w_frz ?_ | refine w_un ?_ | refine w_meth0 ?_ | refine w_methB ?_ | refine w_noO ?_ | refine w_someO ?_ | refine w_slice ?_ | refine w_rev ?_ | refine w_revT ?_
  | refine w_seqSt ?_ | refine w_zipSt ?_ | refine w_enSt ?_ | refine w_tupRg1 ?_ | refine w_lstRg1 ?_ | refine w_lstRg2 ?_ | refine w_rng1 ?_ | refine w_rng2 ?_ | refine w_lcD ?_ | refine w_asg ?_ | refine w_par ?_ | refine w_aug ?_ | refine w_set ?_ | refine w_for ?_
  | refine w_addI ?_ | refine w_subI ?_ | refine w_cmp ?_ | refine w_neg ?_ | refine w_ipAdd ?_ | refine w_eqI ?_ | refine w_neI ?_ | refine w_eqS ?_ | refine w_neS ?_ | refine w_int ?_ | refine w_intB ?_ | refine w_abs ?_ | refine w_max2 ?_ | refine w_min2 ?_ | refine w_gcd ?_
  | refine w_ok ?_ | refine And.intro (Nat.le_of_ble_eq_true (by with_unfolding_all rfl)) ?_ | refine And.intro (sm_le (by with_unfolding_all rfl)) ?_ | refine and_fix (by with_unfolding_all rfl) ?_ | refine Exists.intro _ (And.intro (by with_unfolding_all rfl) ?_))
namespace Pd
open PySem PySem.Spec L2
/-! ### helpers of laws over tables -/
noncomputable def b__law_product : DS :=
    (seqS (asgS (boxD (lstD nilL)) (.nm 2))
    (seqS (forS (seqSrc' (varD 0)) (.nm 3)
    (expS (methB .lst dmAppend (varD 2) (consL (callB dcTuple (consL (newD (lcD [6] (rngSrc1 (consL (callB dcLen (consL (binD ixD (varD 1) (cD (.int 0))) nilL)) nilL)) (.nm 6) yesB (callB dcSum (consL (newD (lcD [4, 5] (zipSrc false (consL (varD 3) (consL (varD 1) nilL))) (.tp [(.nm 4), (.nm 5)]) yesB (binD mulX (varD 4) (binD ixD (varD 5) (varD 6))))) nilL)))) nilL)) nilL))))
    (retS (callB dcTuple (consL (varD 2) nilL)))))
noncomputable def f__law_product : DC := bodyR b__law_product 7
noncomputable def b__law_one : DS :=
    (retS (callB dcTuple (consL (newD (lcD [2] (rngSrc1 (consL (varD 0) nilL)) (.nm 2) yesB (callB dcTuple (consL (newD (lcD [1] (rngSrc1 (consL (varD 0) nilL)) (.nm 1) yesB (callB dcInt (consL (binD eqD (varD 2) (varD 1)) nilL)))) nilL)))) nilL)))
noncomputable def f__law_one : DC := bodyR b__law_one 3
noncomputable def b__law_drawn : DS :=
    (retS (callB dcTuple (consL (newD (lcD [5] (rngSrc1 (consL (varD 1) nilL)) (.nm 5) yesB (callB dcTuple (consL (newD (lcD [4] (rngSrc1 (consL (varD 2) nilL)) (.nm 4) yesB (callB (callN 2 f__law_of) (consL (varD 0) (consL (varD 3) nilL))))) nilL)))) nilL)))
noncomputable def f__law_drawn : DC := bodyR b__law_drawn 6
noncomputable def b__law_undone_at : DS :=
    (seqS (asgS (tupD (consL (varD 1) (consL (binD modI (callB dcInt (consL (varD 0) nilL)) (varD 1)) (consL (cD (.int 0)) (consL (cD (.int 1)) nilL))))) (.tp [(.nm 2), (.nm 3), (.nm 4), (.nm 5)]))
    (seqS (whS (tstD (binD (cmpI fun i j => decide (j < i)) (varD 3) (cD (.int 0))))
    (seqS (asgS (binD fdivI (varD 2) (varD 3)) (.nm 6))
    (asgS (tupD (consL (varD 3) (consL (binD subI (varD 2) (binD mulX (varD 6) (varD 3))) (consL (varD 5) (consL (binD subI (varD 4) (binD mulX (varD 6) (varD 5))) nilL))))) (.tp [(.nm 2), (.nm 3), (.nm 4), (.nm 5)]))))
    (retS (binD modI (callB dcInt (consL (varD 4) nilL)) (varD 1)))))
noncomputable def f__law_undone_at : DC := bodyR b__law_undone_at 7
noncomputable def b__law_rank : DS :=
    (seqS (parS [2, 3] (consL (newD (lcD [5] (seqSrc' (varD 0)) (.nm 5) yesB (newD (lcD [4] (seqSrc' (varD 5)) (.nm 4) yesB (binD modI (callB dcInt (consL (varD 4) nilL)) (varD 1)))))) (consL (cD (.int 0)) nilL)))
    (seqS (forS (rngSrc1 (consL (callB dcLen (consL (binD ixD (varD 0) (cD (.int 0))) nilL)) nilL)) (.nm 6)
    (seqS (asgS (newD (lcD [8, 5] (enSrc (varD 2)) (.tp [(.nm 8), (.nm 5)]) (tstD (binD neD (binD ixD (varD 5) (varD 6)) (cD (.int 0)))) (varD 8))) (.nm 7))
    (ifS (tstD (binD neD (varD 7) (newD (lstD nilL))))
    (seqS (parS [9, 3, 10] (consL (binD ixD (varD 2) (binD ixD (varD 7) (cD (.int 0)))) (consL (binD addD (varD 3) (cD (.int 1))) (consL (boxD (lstD nilL)) nilL))))
    (seqS (asgS (callB (callN 2 f__law_undone_at) (consL (binD ixD (varD 9) (varD 6)) (consL (varD 1) nilL))) (.nm 11))
    (seqS (forS (enSrc (varD 2)) (.tp [(.nm 8), (.nm 5)])
    (ifS (tstD (binD neD (varD 8) (binD ixD (varD 7) (cD (.int 0)))))
    (expS (methB .lst dmAppend (varD 10) (consL (newD (lcD [12, 13] (zipSrc false (consL (varD 5) (consL (varD 9) nilL))) (.tp [(.nm 12), (.nm 13)]) yesB (binD modI (callB dcInt (consL (binD subI (varD 12) (binD mulX (binD mulX (binD ixD (varD 5) (varD 6)) (varD 11)) (varD 13))) nilL)) (varD 1)))) nilL)))
    nxS))
    (asgS (frzD (varD 10)) (.nm 2)))))
    nxS)))
    (retS (varD 3))))
noncomputable def f__law_rank : DC := bodyR b__law_rank 14
noncomputable def b__law_led : DS :=
    (retS (callB dcTuple (consL (newD (lcD [5] (seqSrc' (varD 0)) (.nm 5) yesB (binD modI (callB dcInt (consL (callB dcSum (consL (newD (lcD [3, 4] (zipSrc false (consL (varD 5) (consL (varD 1) nilL))) (.tp [(.nm 3), (.nm 4)]) yesB (binD mulX (varD 3) (varD 4)))) nilL)) nilL)) (varD 2)))) nilL)))
noncomputable def f__law_led : DC := bodyR b__law_led 6
noncomputable def b__law_steps_right : DS :=
    (seqS (ifS (orB (tstD (binD neD (callB dcLen (consL (varD 1) nilL)) (callB dcLen (consL (varD 0) nilL)))) (tstD (binD neD (newD (callB dcList (consL (varD 1) nilL))) (newD (callB dcSorted (consL (newD (callB dcDict (consL (newD (lcD [4] (seqSrc' (varD 1)) (.nm 4) yesB (tupD (consL (varD 4) (consL (cD (.int 0)) nilL))))) nilL))) nilL))))))
    (retS (cD (.bl false)))
    nxS)
    (seqS (forS (enSrc (varD 0)) (.tp [(.nm 5), (.nm 6)])
    (seqS (ifS (orB (tstD (binD neD (callB dcLen (consL (varD 6) nilL)) (varD 2))) (orB (tstD (binD neD (newD (lcD [7] (seqSrc' (varD 6)) (.nm 7) (notB (tstD (chD (cmpI fun i j => decide (i ≤ j)) (cmpI fun i j => decide (i < j)) (cD (.int 0)) (varD 7) (varD 3)))) (varD 7))) (newD (lstD nilL)))) (tstD (binD neD (binD ixD (varD 6) (binD ixD (varD 1) (varD 5))) (cD (.int 1))))))
    (retS (cD (.bl false)))
    nxS)
    (seqS (ifS (tstD (binD neD (newD (lcD [7] (seqSrc' (sliceD (varD 6) noO (someO (binD ixD (varD 1) (varD 5))))) (.nm 7) (tstD (binD neD (varD 7) (cD (.int 0)))) (varD 7))) (newD (lstD nilL))))
    (retS (cD (.bl false)))
    nxS)
    (ifS (tstD (binD neD (newD (lcD [8, 9] (enSrc (varD 0)) (.tp [(.nm 8), (.nm 9)]) (andB (tstD (binD neD (varD 8) (varD 5))) (tstD (binD neD (binD ixD (varD 9) (binD ixD (varD 1) (varD 5))) (cD (.int 0))))) (cD (.int 1)))) (newD (lstD nilL))))
    (retS (cD (.bl false)))
    nxS))))
    (retS (cD (.bl true)))))
noncomputable def f__law_steps_right : DC := bodyR b__law_steps_right 10
section
variable {E : Exn → Mu → Prop} {Q : D → Mu → Prop} {μ : Mu} {B l c : Nat}
theorem w_pick {many : Int} (h : Sr B l c μ) (hB : B < 2 ^ 39) (hm : many.natAbs.log2 < 9000) (hq : ∀ (r : Nat) μ', Sr (B + 1) l c μ' → Frm μ μ' l c → ((r : Int) < many ∨ r = 0) → Q (.int (r : Nat)) μ') : wQ E Q (f__law_pick [.ref l, .int many] μ) := by
  obtain ⟨r, μ', e, h1, h2, h3⟩ := pickS h hB hm
  exact w_is e (hq r μ' h1 h3 h2)
theorem w_of {ds : List D} (h : Sr B l c μ) (hB : B < 2 ^ 39) (hd : ds ≠ []) (hz : ds.length ≤ 100000) (hq : ∀ x μ', x ∈ ds → Sr (B + 1) l c μ' → Frm μ μ' l c → Q x μ') : wQ E Q (f__law_of [.ref l, .lst ds] μ) := by
  obtain ⟨x, μ', e, h1, h2, h3⟩ := ofS h hB hd hz
  exact w_is e (hq x μ' h1 h2 h3)
theorem w_drawn {vs : List Int} {m n : Nat} (h : Sr B l c μ) (hB : B + m * n < 2 ^ 39) (hv : vs ≠ []) (hvl : vs.length ≤ 1000) (hm : m ≤ 100) (hn : n ≤ 100)
    (hq : ∀ T μ', T.length = m → (∀ r ∈ T, r.length = n ∧ ∀ a ∈ r, a ∈ vs) → Sr (B + m * n) l c μ' → Frm μ μ' l c → Q (tabD T) μ') : wQ E Q (f__law_drawn [.ref l, .int (m : Nat), .int (n : Nat), .lst (vs.map D.int)] μ) := by
  unfold f__law_drawn
  with_reducible refine w_body ?_
  show wS _ _ _ _ _ (b__law_drawn [some (.ref l), some (.int (m : Nat)), some (.int (n : Nat)), some (.lst (vs.map D.int)), none, none] μ)
  unfold b__law_drawn
  (repeat fail)
  refine ⟨by omega, ?_⟩
  have hml : (Src.st (rngD 0 ((m : Nat) : Int).toNat)).ds.length = m := rngD_len m
  have hnl : (Src.st (rngD 0 ((n : Nat) : Int).toNat)).ds.length = n := rngD_len n
  refine w_mapI (fun j acc μ' => ∃ T, acc = T.map vecD ∧ T.length = j ∧ (∀ r ∈ T, r.length = n ∧ ∀ a ∈ r, a ∈ vs) ∧ (j ≤ m → Sr (B + j * n) l c μ') ∧ Frm μ μ' l c) ⟨[], rfl, rfl, by simp, fun _ => by rw [Nat.zero_mul]; exact h, Frm.refl⟩ (fun j d acc μ1 hj ⟨T, e1, e2, e3, e4, e5⟩ => ⟨_, rfl, ?_⟩) (fun j acc μ' ⟨T, e1, e2, _⟩ => by rw [e1, List.length_map, e2]) (by rw [hml]; omega) fun acc μ1 ⟨T, e1, e2, e3, e4, e5⟩ => ?_
  · obtain ⟨hjm, rfl⟩ := rngD_at hj
    have hjm : j < m := hjm
    have hs := e4 (by omega)
    have hb2 : B + j * n + n ≤ B + m * n := by
      have : (j + 1) * n ≤ m * n := Nat.mul_le_mul_right n hjm
      rw [Nat.add_mul] at this; omega
    (repeat fail)
    refine ⟨by omega, ?_⟩
    refine w_mapI (fun i acc μ' => ∃ r : List Int, acc = r.map D.int ∧ r.length = i ∧ (∀ a ∈ r, a ∈ vs) ∧ (i ≤ n → Sr (B + j * n + i) l c μ') ∧ Frm μ μ' l c) ⟨[], rfl, rfl, by simp, fun _ => hs, e5⟩ (fun i d acc μ2 hi ⟨r, f1, f2, f3, f4, f5⟩ => ⟨_, rfl, ?_⟩) (fun j acc μ' ⟨T, e1, e2, _⟩ => by rw [e1, List.length_map, e2]) (by rw [hnl]; omega) fun acc μ2 ⟨r, f1, f2, f3, f4, f5⟩ => ?_
    · obtain ⟨hin, rfl⟩ := rngD_at hi
      have hin : i < n := hin
      (repeat fail)
      refine w_of (f4 (by omega)) (by omega) (by simpa using hv) (by rw [List.length_map]; omega) fun x μ3 hx hs3 hf => ?_
      obtain ⟨a, ha, rfl⟩ := List.mem_map.mp hx
      refine ⟨r ++ [a], by rw [f1, List.map_append]; rfl, by simp [f2], fun b hb => ?_, fun _ => hs3, f5.trans hf⟩
      rcases List.mem_append.mp hb with hb | hb
      · exact f3 b hb
      · rw [List.mem_singleton.mp hb]; exact ha
    · rw [hnl] at f2 f4
      (repeat fail)
      refine w_tuple rfl ?_
      refine ⟨T ++ [r], by rw [e1, List.map_append, f1]; rfl, by simp [e2], fun q hq => ?_, fun _ => ?_, f5⟩
      · rcases List.mem_append.mp hq with hq | hq
        · exact e3 q hq
        · rw [List.mem_singleton.mp hq]; exact ⟨f2, f3⟩
      · rw [Nat.add_mul, Nat.one_mul, ← Nat.add_assoc]; exact f4 (Nat.le_refl _)
  · rw [hml] at e2 e4
    (repeat fail)
    refine w_tuple rfl ?_
    rw [e1]
    exact hq T μ1 e2 e3 (e4 (Nat.le_refl _)) e5
end
section
variable {μ : Mu} {p a : Int}
theorem law_undone_ok (hp : PrimeI p) (hp2 : p < 2 ^ 32) (h0 : 0 < a) (h1 : a < p) : f__law_undone_at [.int a, .int p] μ = ok (.int (invP p a)) μ := by
  have hp1 := hp.1
  refine wQ_is (w_body ?_)
  show wS _ _ _ _ _ (b__law_undone_at [some (.int a), some (.int p), none, none, none, none, none] μ)
  unfold b__law_undone_at
  (repeat fail)
  refine w_mod (by omega) ?_
  rw [fmod_pos _ (by omega), Int.emod_eq_of_lt (by omega) h1]
  (repeat fail)
  refine w_wh (fun n sl μ' => ∃ h t f l y, sl = [some (.int a), some (.int p), some (.int h), some (.int t), some (.int f), some (.int l), y] ∧ μ' = μ ∧ n = t.toNat ∧ Euc p a h t f l) a.toNat ⟨p, a, 0, 1, none, rfl, rfl, rfl, ⟨by omega, by omega, by omega, by omega, fun d q1 q2 => hp.2 a h0 h1 d q2 q1, by rw [Int.mul_zero, Int.sub_zero]; exact Int.dvd_refl p, by rw [Int.mul_one, Int.sub_self]; exact Int.dvd_zero p, 0, 1, by omega, by omega, by omega, by omega, by omega, by omega, by omega⟩⟩ (fun n sl μ' ⟨h, t, f, l, y, e, em, en, E⟩ => ?_)
  subst e; subst em
  (repeat fail)
  have t0 := E.t0
  by_cases ht : t = 0
  · subst ht
    refine w_ifF (by simp) ?_
    (repeat fail)
    refine w_mod (by omega) ?_
    rw [fmod_pos _ (by omega), E.stop hp1]
    exact ⟨rfl, rfl⟩
  · have ht : 0 < t := by omega
    refine w_ifT (decide_eq_true ht) ?_
    obtain ⟨E', q0, q1, lt⟩ := E.step ht
    obtain ⟨s1, s2, s3, s4⟩ := E.small ht
    have htp := E.tp
    (repeat fail)
    refine w_fdiv (by omega) (div_log (by omega)) ?_
    rw [fdiv_pos _ ht]
    (repeat fail)
    refine w_mulX (mulOk32 (by omega) (by omega)) ?_
    (repeat fail)
    refine w_mulX (mulOk32 (by omega) (by omega)) ?_
    (repeat fail)
    exact ⟨_, by have := E'.t0; omega, _, _, _, _, _, rfl, rfl, rfl, E'⟩
theorem law_one_ok {n : Nat} (hn : n ≤ 1000) : f__law_one [.int (n : Nat)] μ = ok (tabD ((List.range n).map fun i => (List.range n).map fun j => if i = j then 1 else 0)) μ := by
  refine wQ_is ?_
  unfold f__law_one
  with_reducible refine w_body ?_
  show wS _ _ _ _ _ (b__law_one [some (.int (n : Nat)), none, none] μ)
  unfold b__law_one
  (repeat fail)
  refine ⟨by omega, ?_⟩
  refine w_mapT (List.range n) (fun k => D.int (k : Nat)) (fun i => vecD ((List.range n).map fun j => if i = j then 1 else 0)) (by rw [Int.toNat_natCast]; exact rngD_map _) (fun i hi => ⟨_, rfl, wQ_is ?_⟩) (by rw [List.length_range]; omega) ?_
  · (repeat fail)
    refine ⟨by omega, ?_⟩
    refine w_mapT (List.range n) (fun k => D.int (k : Nat)) (fun j => D.int (if i = j then 1 else 0)) (by rw [Int.toNat_natCast]; exact rngD_map _) (fun j hj => ⟨_, rfl, wQ_is ?_⟩) (by rw [List.length_range]; omega) ?_
    · (repeat fail)
      refine ⟨?_, rfl⟩
      by_cases h : i = j
      · rw [if_pos h, decide_eq_true (by omega)]; rfl
      · rw [if_neg h, decide_eq_false (by omega)]; rfl
    · (repeat fail)
      refine w_tuple rfl ⟨?_, rfl⟩
      simp only [vecD, List.map_map]; rfl
  · (repeat fail)
    refine w_tuple rfl ⟨?_, rfl⟩
    simp only [tabD, List.map_map]; rfl
theorem law_led_ok {t : List (List Int)} {x : List Int} {n : Nat} (hp : 0 < p) (hn : ∀ r ∈ t, r.length = n) (hts : ∀ r ∈ t, Small r) (hxs : Small x) (hn1 : n ≤ 200) (ht : t.length ≤ 200) : f__law_led [tabD t, vecD x, .int p] μ = ok (vecD (t.map fun r => dotz r x % p)) μ := by
  refine wQ_is (w_body ?_)
  show wS _ _ _ _ _ (b__law_led [some (tabD t), some (vecD x), some (.int p), none, none, none] μ)
  unfold b__law_led
  (repeat fail)
  refine w_mapT t vecD (fun r => D.int (dotz r x % p)) rfl (fun r hr => ⟨_, rfl, wQ_is ?_⟩) (by omega) ?_
  · (repeat fail)
    refine ⟨_, _, _, _, rfl, rfl, rfl, ⟨rfl, rfl⟩, ⟨fun h => Bool.noConfusion h, ?_⟩⟩
    refine sum_zip (hts r hr) hxs (by rw [hn r hr]; omega) (fun a b ha hb => ⟨_, rfl, wQ_is ?_⟩) ?_
    · (repeat fail)
      refine w_mulX (mulOk32 ha hb) ?_
      exact ⟨rfl, rfl⟩
    · (repeat fail)
      refine w_sum rfl (ints_map _) ?_
      (repeat fail)
      refine w_mod (by omega) ?_
      rw [fmod_pos _ hp]
      exact ⟨rfl, rfl⟩
  · (repeat fail)
    refine w_tuple rfl ⟨?_, rfl⟩
    simp only [vecD, List.map_map]; rfl
end
end Pd
end
section
open Pd
local macro_rules
  | `(tactic| fail) => `(tactic| with_reducible first
  | refine w_seq ?_ | refine w_asgN ?_ | refine w_var (by with_unfolding_all rfl) ?_ | refine w_c ?_ | refine w_bin ?_ | refine w_call ?_ | refine w_cons ?_ | refine w_nil ?_
  | refine w_callN (by with_unfolding_all rfl) ?_ | refine w_if ?_ | refine w_ret ?_ | refine w_exp ?_ | refine w_nx ?_ | refine w_ct ?_ | refine w_bk ?_ | refine w_retN ?_
  | refine w_tst ?_ | refine w_not ?_ | refine w_and ?_ | refine w_or ?_ | refine w_andD ?_ | refine w_orD ?_ | refine w_notD ?_ | refine w_blD ?_ | refine w_ifD ?_ | refine w_tru ?_ | refine w_ch ?_
  | refine w_stL ?_ | refine w_tup ?_ | refine w_lst ?_ | refine w_newDict ?_ | refine w_boxDict ?_ | refine w_newDisp ?_ | refine w_newEmp ?_ | refine w_boxEmp ?_ | refine w_pairC ?_ | refine w_pair0 ?_ | refine w_newL ?_ | refine w_boxL ?_ | refine w_frz ?_ | refine w_un ?_ | refine w_meth0 ?_ | refine w_methB ?_ | refine w_noO ?_ | refine w_someO ?_ | refine w_slice ?_ | refine w_rev ?_ | refine w_revT ?_
  | refine w_seqSt ?_ | refine w_zipSt ?_ | refine w_enSt ?_ | refine w_tupRg1 ?_ | refine w_lstRg1 ?_ | refine w_lstRg2 ?_ | refine w_rng1 ?_ | refine w_rng2 ?_ | refine w_lcD ?_ | refine w_asg ?_ | refine w_par ?_ | refine w_aug ?_ | refine w_set ?_ | refine w_for ?_
  | refine w_addI ?_ | refine w_subI ?_ | refine w_cmp ?_ | refine w_neg ?_ | refine w_ipAdd ?_ | refine w_eqI ?_ | refine w_neI ?_ | refine w_eqS ?_ | refine w_neS ?_ | refine w_int ?_ | refine w_intB ?_ | refine w_abs ?_ | refine w_max2 ?_ | refine w_min2 ?_ | refine w_gcd ?_
  | refine w_ok ?_ | refine And.intro (Nat.le_of_ble_eq_true (by with_unfolding_all rfl)) ?_ | refine And.intro (sm_le (by with_unfolding_all rfl)) ?_ | refine and_fix (by with_unfolding_all rfl) ?_ | refine Exists.intro _ (And.intro (by with_unfolding_all rfl) ?_))
namespace Pd
open PySem PySem.Spec L2
section
variable {α : Type} {E : Exn → Mu → Prop} {sl : Sl} {μ : Mu} {tg : Tg} {fa : DE} {c : Sl → Mu → R Bool} {Q : D → Mu → Prop}
/-- none of which something holds -/
theorem w_noneT {ds : List D} (xs : List α) (g : α → D) (hds : ds = xs.map g) (he : ∀ x ∈ xs, ∃ sl1, bindT μ tg (g x) sl = some sl1 ∧ c sl1 μ = ok false μ) (hq : Q (.lst []) μ) : wQ E Q (lcL (fun _ => true) tg c fa sl ds [] μ) := by
  subst hds
  refine w_lcL (fun j acc μ' => μ' = μ ∧ acc = []) (xs.map g) 0 [] μ ⟨rfl, rfl⟩ (fun j d acc μ' hj h => ?_) fun acc μ' h => ?_
  · obtain ⟨rfl, rfl⟩ := h
    rw [List.getElem?_map] at hj
    cases hx : xs[j]? with
    | none => rw [hx] at hj; cases hj
    | some x =>
      rw [hx] at hj; cases hj
      obtain ⟨sl1, e, e2⟩ := he x (List.mem_of_getElem? hx)
      exact ⟨sl1, e, w_is e2 (by rw [if_neg Bool.false_ne_true]; exact ⟨rfl, rfl⟩)⟩
  · obtain ⟨rfl, rfl⟩ := h
    exact hq
theorem w_neNilN (hq : Q (.bl false) μ) : wQ E Q (neD (.lst []) (.lst []) μ) := w_neNil pn_nil.pl rfl hq
theorem w_neBB {a b : Bool} (hq : Q (.bl (!decide (a = b))) μ) : wQ E Q (neD (.bl a) (.bl b) μ) := w_is (a := D.bl (!decide (a = b))) (μ := μ) (by
  rw [neD_pl (pl_bl a) (pl_bl b)]
  cases a <;> cases b <;> rfl) hq
end
theorem idx_filter {α : Type} (q : α → Bool) : ∀ (xs : List α) (s : Nat), match xs.findIdx? q with
    | none => (xs.zipIdx s).filter (fun z => q z.1) = []
    | some k => ∃ x rest, xs[k]? = some x ∧ (xs.zipIdx s).filter (fun z => q z.1) = (x, s + k) :: rest
  | [], _ => rfl
  | a :: xs, s => by
    have ih := idx_filter q xs (s + 1)
    rw [List.findIdx?_cons]
    cases hq : q a with
    | true => exact ⟨a, (xs.zipIdx (s + 1)).filter (fun z => q z.1), rfl, by rw [List.zipIdx_cons, List.filter_cons_of_pos (by exact hq)]; rfl⟩
    | false =>
      cases e : xs.findIdx? q with
      | none =>
        rw [e] at ih
        show List.filter _ _ = []
        rw [List.zipIdx_cons, List.filter_cons_of_neg (by simp [hq])]; exact ih
      | some k =>
        rw [e] at ih
        obtain ⟨x, rest, h1, h2⟩ := ih
        exact ⟨x, rest, h1, by rw [List.zipIdx_cons, List.filter_cons_of_neg (by simp [hq])]; rw [h2, show s + 1 + k = s + (k + 1) by omega]⟩
theorem off_same (p a x m b : Int) : (a - x * m * b) % p = (a - x * ((m * b) % p)) % p := by
  refine Gf.emod_eq_of_dvd ?_
  obtain ⟨k, hk⟩ := Gf.emod_sub_dvd (m * b) p
  exact ⟨x * k, by grind⟩
theorem off_vec {p m : Int} {c : Nat} {r h : List Int} : ((r.zip h).map fun q => (q.1 - Gf.at' r c * m * q.2) % p) = Gf.rowOff p c (Gf.scal p m h) r := by
  unfold Gf.rowOff Gf.scal
  rw [zipWith_zip, List.zip_map_right, List.map_map]
  exact List.map_congr_left fun q _ => off_same _ _ _ _ _
section
variable {μ : Mu} {p : Int} {t : List (List Int)} {n : Nat}
theorem law_rank_ok (hn : ∀ r ∈ t, r.length = n) (hp : PrimeI p) (hp2 : p < 2 ^ 32) (hn1 : n ≤ 200) (ht : t.length ≤ 200) (ht0 : t ≠ []) :
    ∃ xs, f__law_rank [tabD t, .int p] μ = ok (.int ((Gf.steps p (invP p) n t).places.length : Nat)) (μ ++ xs) := by
  have hz := sizeLine_eq
  have hp1 := hp.1
  have hinv : ∀ a, 0 < a → a < p → p ∣ invP p a * a - 1 := fun a h0 h1 => (invP_ok hp h0 h1).1
  have hlen : 0 < t.length := List.length_pos_iff.mpr ht0
  obtain ⟨r1, hr1⟩ : ∃ r1, t[0]? = some r1 := ⟨t[0], List.getElem?_eq_getElem hlen⟩
  refine wQ_app (w_body ?_)
  show wS _ _ _ _ _ (b__law_rank [some (tabD t), some (.int p), none, none, none, none, none, none, none, none, none, none, none, none] μ)
  unfold b__law_rank
  (repeat fail)
  refine w_mapT t vecD (fun r => lvecD (r.map (· % p))) rfl (fun r hr => ⟨_, rfl, wQ_is ?_⟩) (by omega) ?_
  · (repeat fail)
    refine w_mapT r D.int (fun a => D.int (a % p)) rfl (fun a ha => ⟨_, rfl, wQ_is ?_⟩) (by rw [hn r hr]; omega) ?_
    · (repeat fail)
      refine w_mod (by omega) ?_
      rw [fmod_pos _ (by omega)]; exact ⟨rfl, rfl⟩
    · (repeat fail)
      refine ⟨?_, rfl⟩
      simp only [lvecD, List.map_map]; rfl
  have er : D.lst (t.map fun r => lvecD (r.map (· % p))) = lltabD (Gf.rests p t) := by
    simp only [lltabD, Gf.rests, List.map_map]; rfl
  rw [er]
  (repeat fail)
  refine w_ixL (k := 0) (xs := t.map vecD) (x := vecD r1) rfl (by show atI _ ((0 : Nat) : Int) = _; exact atI_nat (by rw [List.getElem?_map, hr1]; rfl)) ?_
  (repeat fail)
  refine w_len (xs := r1.map D.int) rfl ?_
  rw [List.length_map, hn r1 (List.mem_of_getElem? hr1)]
  (repeat fail)
  refine ⟨by omega, ?_⟩
  (repeat fail)
  have hlr : (Src.st (rngD 0 ((n : Nat) : Int).toNat)).ds.length = n := rngD_len n
  refine w_forSt (fun c sl μ' => ∃ o4 o5 o6 o7 o8 o9 o10 o11 o12 o13 zs, sl = [some (tabD t), some (.int p), some (lltabD ((List.range c).foldl (Gf.elim p (invP p)) ⟨Gf.rests p t, [], []⟩).rows), some (.int (((List.range c).foldl (Gf.elim p (invP p)) ⟨Gf.rests p t, [], []⟩).places.length : Nat)), o4, o5, o6, o7, o8, o9, o10, o11, o12, o13] ∧ μ' = μ ++ zs)
    ⟨none, none, none, none, none, none, none, none, none, none, [], ?_, by rw [List.append_nil]⟩ (fun c d' sl μ' hj ⟨o4, o5, o6, o7, o8, o9, o10, o11, o12, o13, zs, e1, e2⟩ => ?_) (fun sl μ' ⟨o4, o5, o6, o7, o8, o9, o10, o11, o12, o13, zs, e1, e2⟩ => ?_)
  · rfl
  · subst e1; subst e2
    obtain ⟨hc, rfl⟩ := rngD_at hj
    have hc : c < n := hc
    refine ⟨_, rfl, ?_⟩
    have I := Gf.fold_inv hp1 hinv hn c (by omega)
    rw [List.range_succ, List.foldl_append]
    rw [List.foldl_cons, List.foldl_nil]
    generalize (List.range c).foldl (Gf.elim p (invP p)) ⟨Gf.rests p t, [], []⟩ = S at I
    have hrows : S.rows.length ≤ 200 := by have := I.cnt; omega
    (repeat fail)
    refine w_filtT (S.rows.zipIdx 0) (fun q => .tup [.int (q.2 : Nat), lvecD q.1]) (fun q => .int (q.2 : Nat)) (fun q => Gf.at' q.1 c != 0) (enumF_map lvecD S.rows 0) (fun q hq => ⟨_, rfl, wQ_is ?_, fun _ => rfl⟩) (by rw [List.length_zipIdx]; omega) ?_
    · have hm : q.1 ∈ S.rows := List.fst_mem_of_mem_zipIdx hq
      (repeat fail)
      refine w_ix rfl (at_get (r := q.1) (by rw [(I.rrest q.1 hm).1]; exact hc)) ?_
      (repeat fail)
      exact ⟨by simp [bne, BEq.beq], rfl⟩
    (repeat fail)
    have pint : ∀ l : List (List Int × Nat), Pl (.lst (l.map fun q => D.int (q.2 : Nat))) (.list (l.map fun q => PyData.int (q.2 : Nat))) := fun l => (pn_lst (n := 1) (g := fun q : List Int × Nat => D.int (q.2 : Nat)) fun x _ => pn_int _).pl
    refine w_neNil (pint _) (by rw [nob]; exact nobL_map _ _ fun x _ => rfl) ?_
    (repeat fail)
    have hpv := idx_filter (fun r => Gf.at' r c != 0) S.rows 0
    have epiv : S.rows.findIdx? (fun r => Gf.at' r c != 0) = Gf.pivN c S.rows := rfl
    rw [epiv] at hpv
    cases hk : Gf.pivN c S.rows with
    | none =>
      rw [hk] at hpv
      have hpv : (S.rows.zipIdx 0).filter (fun z => Gf.at' z.1 c != 0) = [] := hpv
      rw [hpv]
      refine w_ifF (by simp) ?_
      (repeat fail)
      have : Gf.elim p (invP p) S c = S := by unfold Gf.elim; rw [hk]
      rw [this]
      exact ⟨_, _, _, _, _, _, _, _, _, _, zs, rfl, rfl⟩
    | some k =>
      rw [hk] at hpv
      obtain ⟨r0, rest, h1, h2⟩ := hpv
      rw [h2]
      refine w_ifT (by simp) ?_
      have hk1 : k < S.rows.length := (List.getElem?_eq_some_iff.mp h1).1
      have eg : S.rows.getD k [] = r0 := by rw [List.getD_eq_getElem?_getD, h1]; rfl
      have m0 : r0 ∈ S.rows := List.mem_of_getElem? h1
      have q0 := I.rrest r0 m0
      have hne0 : Gf.at' r0 c ≠ 0 := by
        have : (r0, 0 + k) ∈ (S.rows.zipIdx 0).filter (fun z => Gf.at' z.1 c != 0) := by rw [h2]; simp
        have := (List.mem_filter.mp this).2
        simpa using this
      have hb := q0.2 c
      have himb := invP_ok hp (a := Gf.at' r0 c) (by omega) hb.2
      have hone := fun μ => law_undone_ok (μ := μ) hp hp2 (a := Gf.at' r0 c) (by omega) hb.2
      have helim : Gf.elim p (invP p) S c = ⟨(S.rows.eraseIdx k).map (Gf.rowOff p c (Gf.scal p (invP p (Gf.at' r0 c)) r0)), S.found.map (Gf.rowOff p c (Gf.scal p (invP p (Gf.at' r0 c)) r0)) ++ [Gf.scal p (invP p (Gf.at' r0 c)) r0], S.places ++ [c]⟩ := by
        unfold Gf.elim; rw [hk, ← eg]
      rw [helim]
      generalize invP p (Gf.at' r0 c) = m at hone himb
      (repeat fail)
      refine w_ixL (k := 0) (xs := ((r0, 0 + k) :: rest).map fun q => D.int (q.2 : Nat)) (x := .int ((0 + k : Nat) : Nat)) rfl (by show atI _ ((0 : Nat) : Int) = _; exact atI_nat rfl) ?_
      (repeat fail)
      refine w_ix (xs := S.rows.map lvecD) (k := 0 + k) (x := lvecD r0) rfl (by rw [Nat.zero_add, List.getElem?_map, h1]; rfl) ?_
      (repeat fail)
      refine w_ix rfl (at_get (r := r0) (by rw [q0.1]; exact hc)) ?_
      (repeat fail)
      refine w_is (hone _) ?_
      (repeat fail)
      generalize eμ : μ ++ zs = μ2
      have hzl : (Src.st (enumF 0 (S.rows.map lvecD))).ds = (S.rows.zipIdx 0).map fun q => D.tup [.int (q.2 : Nat), lvecD q.1] := enumF_map lvecD S.rows 0
      refine w_forSt (fun i sl μ' => ∃ o5 o8 o12 o13, sl = [some (tabD t), some (.int p), some (lltabD S.rows), some (.int (((S.places.length : Nat) : Int) + 1)), o4, o5, some (.int (c : Nat)), some (.lst (((r0, 0 + k) :: rest).map fun q => D.int (q.2 : Nat))), o8, some (lvecD r0), some (.ref μ2.length), some (.int m), o12, o13] ∧ μ' = μ2 ++ [some (.lst ((((S.rows.zipIdx 0).take i).filter fun q => !decide (((q.2 : Nat) : Int) = ((0 + k : Nat) : Int))).map fun q => lvecD (Gf.rowOff p c (Gf.scal p m r0) q.1)))])
        ⟨_, _, _, _, rfl, rfl⟩ (fun i d' sl μ' hi ⟨o5, o8, o12, o13, e1, e2⟩ => ?_) (fun sl μ' ⟨o5, o8, o12, o13, e1, e2⟩ => ?_)
      · subst e1; subst e2
        rw [hzl, List.getElem?_map] at hi
        cases hq : (S.rows.zipIdx 0)[i]? with
        | none => rw [hq] at hi; cases hi
        | some q =>
          rw [hq] at hi; cases hi
          have hm : q.1 ∈ S.rows := List.fst_mem_of_mem_zipIdx (List.mem_of_getElem? hq)
          have qr := I.rrest q.1 hm
          have htk : (S.rows.zipIdx 0).take (i + 1) = (S.rows.zipIdx 0).take i ++ [q] := by rw [List.take_succ, hq]; rfl
          refine ⟨_, rfl, ?_⟩
          (repeat fail)
          refine w_ixL (k := 0) (xs := ((r0, 0 + k) :: rest).map fun q => D.int (q.2 : Nat)) (x := .int ((0 + k : Nat) : Nat)) rfl (by show atI _ ((0 : Nat) : Int) = _; exact atI_nat rfl) ?_
          (repeat fail)
          refine w_ifBl (fun h => ?_) (fun h => ?_)
          · (repeat fail)
            refine ⟨ty_box, ?_⟩
            (repeat fail)
            refine ⟨_, _, _, _, rfl, rfl, rfl, ⟨rfl, rfl⟩, ⟨fun h => Bool.noConfusion h, ?_⟩⟩
            refine w_mapT (q.1.zip r0) (fun z => .tup [.int z.1, .int z.2]) (fun z => .int ((z.1 - Gf.at' q.1 c * m * z.2) % p)) (zipD_map D.int D.int q.1 r0) (fun z hz' => ⟨_, rfl, wQ_is ?_⟩) (by rw [List.length_zip, qr.1]; omega) ?_
            · have hb2 : z.2 ∈ r0 := (List.of_mem_zip hz').2
              obtain ⟨j, hj⟩ := List.mem_iff_getElem?.mp hb2
              have b1 := q0.2 j
              have b2 := qr.2 c
              have e : Gf.at' r0 j = z.2 := by simp [Gf.at', List.getD_eq_getElem?_getD, hj]
              rw [e] at b1
              (repeat fail)
              refine w_ix rfl (at_get (r := q.1) (by rw [qr.1]; exact hc)) ?_
              (repeat fail)
              refine w_mulX (mulOk32 (by omega) (by omega)) ?_
              (repeat fail)
              have b3 : (Gf.at' q.1 c * m).natAbs < 2 ^ 64 := by
                rw [Int.natAbs_mul]
                have : (Gf.at' q.1 c).natAbs * m.natAbs ≤ (2 ^ 32 - 1) * (2 ^ 32 - 1) := Nat.mul_le_mul (by omega) (by omega)
                omega
              refine w_mulX (mulOk_small b3 (by omega)) ?_
              (repeat fail)
              refine w_mod (by omega) ?_
              rw [fmod_pos _ (by omega)]
              exact ⟨rfl, rfl⟩
            have ev : D.lst ((q.1.zip r0).map fun z => D.int ((z.1 - Gf.at' q.1 c * m * z.2) % p)) = lvecD (Gf.rowOff p c (Gf.scal p m r0) q.1) := by
              rw [← off_vec, lvecD, List.map_map]; rfl
            rw [ev]
            (repeat fail)
            refine w_append get_box (by
              rw [List.length_map]
              refine Nat.lt_of_le_of_lt (List.length_filter_le _ _) ?_
              rw [List.length_take, List.length_zipIdx]; omega) ?_
            rw [set_box]
            (repeat fail)
            refine ⟨_, _, _, _, rfl, ?_⟩
            rw [htk, List.filter_append, List.filter_cons_of_pos (by simpa using h), List.map_append]; rfl
          · (repeat fail)
            refine ⟨_, _, _, _, rfl, ?_⟩
            rw [htk, List.filter_append, List.filter_cons_of_neg (by simpa using h), List.filter_nil, List.append_nil]
      · subst e1; subst e2
        rw [hzl, List.length_map, List.take_length]
        have er : (((S.rows.zipIdx 0).filter fun q => !decide (((q.2 : Nat) : Int) = ((0 + k : Nat) : Int))).map fun q => lvecD (Gf.rowOff p c (Gf.scal p m r0) q.1)) = ((S.rows.eraseIdx k).map (Gf.rowOff p c (Gf.scal p m r0))).map lvecD := by
          rw [← zipIdx_erase S.rows 0 k, List.map_map, List.map_map]; rfl
        rw [er]
        (repeat fail)
        refine ⟨_, _, rfl, get_box, ?_⟩
        have e9 : (((S.places ++ [c]).length : Nat) : Int) = ((S.places.length : Nat) : Int) + 1 := by rw [List.length_append]; rfl
        refine ⟨o4, o5, some (.int (c : Nat)), some (.lst (((r0, 0 + k) :: rest).map fun q => D.int (q.2 : Nat))), o8, some (lvecD r0), some (.ref μ2.length), some (.int m), o12, o13, zs ++ [none], ?_, ?_⟩
        · show _ = [some (tabD t), some (D.int p), some (lltabD ((S.rows.eraseIdx k).map (Gf.rowOff p c (Gf.scal p m r0)))), some (D.int (((S.places ++ [c]).length : Nat) : Int)), _, _, _, _, _, _, _, _, _, _]
          rw [e9]; rfl
        · rw [List.set_append_right _ _ (Nat.le_refl _), Nat.sub_self, ← eμ, List.append_assoc]; rfl
  · subst e1; subst e2
    (repeat fail)
    rw [hlr]
    exact ⟨rfl, zs, rfl⟩
end
end Pd
end
section
open Pd
local macro_rules
  | `(tactic| fail) => `(tactic| with_reducible first
  | refine w_seq ?_ | refine w_asgN ?_ | refine w_var (by with_unfolding_all rfl) ?_ | refine w_c ?_ | refine w_bin ?_ | refine w_call ?_ | refine w_cons ?_ | refine w_nil ?_
  | refine w_callN (by with_unfolding_all rfl) ?_ | refine w_if ?_ | refine w_ret ?_ | refine w_exp ?_ | refine w_nx ?_ | refine w_ct ?_ | refine w_bk ?_ | refine w_retN ?_
  | refine w_tst ?_ | refine w_not ?_ | refine w_and ?_ | refine w_or ?_ | refine w_andD ?_ | refine w_orD ?_ | refine w_notD ?_ | refine w_blD ?_ | refine w_ifD ?_ | refine w_tru ?_ | refine w_ch ?_
  | refine w_stL ?_ | refine w_tup ?_ | refine w_lst ?_ | refine w_newDict ?_ | refine w_boxDict ?_ | refine w_newDisp ?_ | refine w_newEmp ?_ | refine w_boxEmp ?_ | refine w_pairC ?_ | refine w_pair0 ?_ | refine w_newL ?_ | refine w_boxL ?_ | refine w_frz ?_ | refine w_un ?_ | refine w_meth0 ?_ | refine w_methB ?_ | refine w_noO ?_ | refine w_someO ?_ | refine w_slice ?_ | refine w_rev ?_ | refine w_revT ?_
  | refine w_seqSt ?_ | refine w_zipSt ?_ | refine w_enSt ?_ | refine w_tupRg1 ?_ | refine w_lstRg1 ?_ | refine w_lstRg2 ?_ | refine w_rng1 ?_ | refine w_rng2 ?_ | refine w_lcD ?_ | refine w_asg ?_ | refine w_par ?_ | refine w_aug ?_ | refine w_set ?_ | refine w_for ?_
  | refine w_addI ?_ | refine w_subI ?_ | refine w_cmp ?_ | refine w_neg ?_ | refine w_ipAdd ?_ | refine w_eqI ?_ | refine w_neI ?_ | refine w_eqS ?_ | refine w_neS ?_ | refine w_int ?_ | refine w_intB ?_ | refine w_abs ?_ | refine w_max2 ?_ | refine w_min2 ?_ | refine w_gcd ?_
  | refine w_ok ?_ | refine And.intro (Nat.le_of_ble_eq_true (by with_unfolding_all rfl)) ?_ | refine And.intro (sm_le (by with_unfolding_all rfl)) ?_ | refine and_fix (by with_unfolding_all rfl) ?_ | refine Exists.intro _ (And.intro (by with_unfolding_all rfl) ?_))
namespace Pd
open PySem PySem.Spec L2
section
variable {μ : Mu} {p : Int} {n m : Nat}
theorem law_product_ok {t u : List (List Int)} (hn : ∀ r ∈ t, r.length = u.length) (hu : ∀ r ∈ u, r.length = m) (hts : ∀ r ∈ t, Small r) (hus : ∀ r ∈ u, Small r) (hu0 : u ≠ []) (hm : m ≤ 200) (hu1 : u.length ≤ 200) (ht : t.length ≤ 200) :
    ∃ xs, f__law_product [tabD t, tabD u] μ = ok (tabD (t.map fun r => (colsOf u m).map fun c => dotz r c)) (μ ++ xs) := by
  have hz := sizeLine_eq
  have hlen : 0 < u.length := List.length_pos_iff.mpr hu0
  obtain ⟨u1, hu1'⟩ : ∃ u1, u[0]? = some u1 := ⟨u[0], List.getElem?_eq_getElem hlen⟩
  refine wQ_app (w_body ?_)
  show wS _ _ _ _ _ (b__law_product [some (tabD t), some (tabD u), none, none, none, none, none] μ)
  unfold b__law_product
  (repeat fail)
  refine w_forSt (fun j sl μ' => ∃ o3 o4 o5 o6, sl = [some (tabD t), some (tabD u), some (.ref μ.length), o3, o4, o5, o6] ∧ μ' = μ ++ [some (.lst (((t.take j).map fun r => vecD ((colsOf u m).map fun c => dotz r c))))])
    ⟨none, none, none, none, rfl, rfl⟩ (fun j d sl μ' hj ⟨o3, o4, o5, o6, e1, e2⟩ => ?_) (fun sl μ' ⟨o3, o4, o5, o6, e1, e2⟩ => ?_)
  · subst e1; subst e2
    have hj : (t.map vecD)[j]? = some d := hj
    rw [List.getElem?_map] at hj
    cases hr : t[j]? with
    | none => rw [hr] at hj; cases hj
    | some r =>
      rw [hr] at hj; cases hj
      have hrm := List.mem_of_getElem? hr
      refine ⟨_, rfl, ?_⟩
      (repeat fail)
      refine ⟨ty_box, ?_⟩
      (repeat fail)
      refine w_ixL (k := 0) (xs := u.map vecD) (x := vecD u1) rfl (by show atI _ ((0 : Nat) : Int) = _; exact atI_nat (by rw [List.getElem?_map, hu1']; rfl)) ?_
      (repeat fail)
      refine w_len (xs := u1.map D.int) rfl ?_
      rw [List.length_map, hu u1 (List.mem_of_getElem? hu1')]
      (repeat fail)
      refine ⟨by omega, ?_⟩
      refine w_mapT (List.range m) (fun k => D.int (k : Nat)) (fun k => D.int (dotz r (u.map fun s => Gf.at' s k))) (by rw [Int.toNat_natCast]; exact rngD_map _) (fun k hk => ⟨_, rfl, wQ_is ?_⟩) (by rw [List.length_range]; omega) ?_
      · have hk := List.mem_range.mp hk
        (repeat fail)
        refine ⟨_, _, _, _, rfl, rfl, rfl, ⟨rfl, rfl⟩, ⟨fun h => Bool.noConfusion h, ?_⟩⟩
        refine w_mapT (r.zip u) (fun q => .tup [.int q.1, vecD q.2]) (fun q => .int (q.1 * Gf.at' q.2 k)) (zipD_map D.int vecD r u) (fun q hq => ⟨_, rfl, wQ_is ?_⟩) (by rw [List.length_zip]; omega) ?_
        · have hq1 := (List.of_mem_zip hq).1
          have hq2 := (List.of_mem_zip hq).2
          (repeat fail)
          refine w_ix rfl (at_get (r := q.2) (by rw [hu q.2 hq2]; exact hk)) ?_
          (repeat fail)
          refine w_mulX (mulOk32 (hts r hrm _ hq1) (small_at (hus q.2 hq2))) ?_
          exact ⟨rfl, rfl⟩
        · have e : ((r.zip u).map fun q => D.int (q.1 * Gf.at' q.2 k)) = ((r.zip u).map fun q => q.1 * Gf.at' q.2 k).map D.int := by rw [List.map_map]; rfl
          rw [e]
          (repeat fail)
          refine w_sum rfl (ints_map _) ?_
          refine ⟨?_, rfl⟩
          unfold dotz
          rw [List.zip_map_right, List.map_map]; rfl
      (repeat fail)
      refine w_tuple rfl ?_
      (repeat fail)
      have ev : D.tup ((List.range m).map fun k => D.int (dotz r (u.map fun s => Gf.at' s k))) = vecD ((colsOf u m).map fun c => dotz r c) := by
        unfold vecD colsOf
        rw [List.map_map, List.map_map]; rfl
      rw [ev]
      refine w_append get_box (by rw [List.length_map, List.length_take]; omega) ?_
      rw [set_box]
      refine ⟨_, _, _, _, rfl, ?_⟩
      rw [List.take_succ, hr, List.map_append]; rfl
  · subst e1; subst e2
    have hl : (Src.st (t.map vecD)).ds.length = t.length := List.length_map ..
    rw [hl, List.take_length]
    (repeat fail)
    refine w_tuple seq_box ?_
    refine ⟨?_, _, rfl⟩
    simp only [tabD, List.map_map]; rfl
theorem pairs_zero : ∀ l : List Nat, pairsOf (l.map fun k => D.tup [.int (k : Nat), .int 0]) = some (l.map fun k => ((.inl ((k : Nat) : Int) : Key), D.int 0))
  | [] => rfl
  | k :: l => by
    rw [List.map_cons, pairsOf, pairs_zero l]; rfl
theorem merg_new : ∀ (qs : List (Key × D)) (ks : List Key) (xs : List D), (∀ q ∈ qs, q.1 ∉ ks) → (qs.map Prod.fst).Nodup → mergD ks xs qs = (ks ++ qs.map Prod.fst, xs ++ qs.map Prod.snd)
  | [], ks, xs, _, _ => by simp [mergD]
  | (k, y) :: qs, ks, xs, h, hn => by
    have hk : k ∉ ks := h (k, y) (List.mem_cons_self ..)
    rw [List.map_cons, List.nodup_cons] at hn
    rw [mergD, putKs, putXs, if_neg hk, if_neg hk, merg_new qs _ _ (fun q hq hm => ?_) hn.2]
    · simp
    · rcases List.mem_append.mp hm with hm | hm
      · exact h q (List.mem_cons_of_mem _ hq) hm
      · rw [List.mem_singleton] at hm
        exact hn.1 (List.mem_map.mpr ⟨q, hq, hm⟩)
theorem intKs_map : ∀ l : List Int, intKs (l.map Sum.inl) = some l
  | [] => rfl
  | k :: l => by rw [List.map_cons, intKs, intKs_map l]; rfl
theorem asc_nodup {l : List Nat} (h : l.Pairwise (· < ·)) : l.Nodup := h.imp fun h => by omega
/-- sorted(dict([(k, 0) for k in ..])) of ascending numbers -/
theorem w_dictP {E : Exn → Mu → Prop} {Q : D → Mu → Prop} {l : List Nat} (h : l.Pairwise (· < ·)) (hq : Q (.dic (l.map fun k => (.inl ((k : Nat) : Int) : Key)) (l.map fun _ => D.int 0)) μ) : wQ E Q (dcDict [.lst (l.map fun k => D.tup [.int (k : Nat), .int 0])] μ) := by
  have e := merg_new (l.map fun k => ((.inl ((k : Nat) : Int) : Key), D.int 0)) [] [] (by simp) (by
    rw [List.map_map]
    refine List.Pairwise.map _ (fun a b (h : a < b) => ?_) h
    intro z
    have z : ((a : Nat) : Int) = b := by injection z
    omega)
  refine w_is (a := .dic (l.map fun k => (.inl ((k : Nat) : Int) : Key)) (l.map fun _ => D.int 0)) (μ := μ) ?_ hq
  have e3 : (lstOf μ (.lst (l.map fun k => D.tup [.int (k : Nat), .int 0]))).bind pairsOf = some (l.map fun k => ((.inl ((k : Nat) : Int) : Key), D.int 0)) := pairs_zero l
  unfold dcDict
  simp only [e3, e, List.nil_append, List.map_map]; rfl
theorem w_sortedD {E : Exn → Mu → Prop} {Q : D → Mu → Prop} {l : List Nat} (h : l.Pairwise (· < ·)) (hl : l.length < 64) (hq : Q (.lst (l.map fun k => D.int (k : Nat))) μ) : wQ E Q (dcSorted [.dic (l.map fun k => (.inl ((k : Nat) : Int) : Key)) (l.map fun _ => D.int 0)] μ) := by
  refine w_is (a := .lst (l.map fun k => D.int (k : Nat))) (μ := μ) ?_ hq
  have e1 : intKs (l.map fun k => (.inl ((k : Nat) : Int) : Key)) = some (l.map fun k => ((k : Nat) : Int)) := by
    rw [← intKs_map (l.map fun k => ((k : Nat) : Int)), List.map_map]; rfl
  have e2 : sortI (l.map fun k => ((k : Nat) : Int)) = l.map fun k => ((k : Nat) : Int) := sorted_unique (sortI_perm _) (sortI_sorted _) (List.Pairwise.map _ (fun a b (h : a < b) => by show ((a : Nat) : Int) ≤ b; omega) h)
  show (if isLstB [.dic _ _] μ = true then dcSortI _ μ else dcSortD [.dic _ _] μ) = _
  rw [if_neg (by intro h; cases h)]
  unfold dcSortD
  simp only [dicOf, e1]
  rw [if_pos ⟨by rw [List.length_map]; exact hl, by rw [List.length_map, List.length_map]⟩, e2, List.map_map]; rfl
theorem w_sl_to {E : Exn → Mu → Prop} {Q : D → Mu → Prop} {ds : List D} {k : Nat} (h : k ≤ ds.length) (hq : Q (.tup (ds.take k)) μ) : wQ E Q (slD (.tup ds) none (some (k : Nat)) μ) := w_is (a := D.tup (ds.take k)) (μ := μ) (by show ok (D.tup (cutD ds none (some ((k : Nat) : Int)))) μ = _; rw [cut_to_nat h]) hq
theorem steps_right_ok {F : List (List Int)} {P : List Nat} (E : Gf.Ech p n F P) (hF : F.length < 64) (hn : n ≤ 200) (hp : 0 < p) : f__law_steps_right [tabD F, natsD P, .int (n : Nat), .int p] μ = ok (.bl true) μ := by
  have hz := sizeLine_eq
  have hFP := E.len
  refine wQ_is (w_body ?_)
  show wS _ _ _ _ _ (b__law_steps_right [some (tabD F), some (natsD P), some (.int (n : Nat)), some (.int p), none, none, none, none, none, none] μ)
  unfold b__law_steps_right
  (repeat fail)
  refine w_len (xs := P.map fun k => D.int (k : Nat)) rfl ?_
  (repeat fail)
  refine w_len (xs := F.map vecD) rfl ?_
  (repeat fail)
  refine w_ifF (by simp [hFP]) ?_
  (repeat fail)
  refine w_list rfl ?_
  (repeat fail)
  refine w_mapT P (fun k => D.int (k : Nat)) (fun k => D.tup [.int (k : Nat), .int 0]) rfl (fun k hk => ⟨_, rfl, wQ_is ?_⟩) (by omega) ?_
  · (repeat fail)
    exact ⟨rfl, rfl⟩
  (repeat fail)
  refine w_dictP E.asc ⟨_, _, rfl, ?_⟩
  (repeat fail)
  refine w_sortedD E.asc (by omega) ?_
  (repeat fail)
  refine w_neSelf (pn_lst (n := 1) (g := fun k : Nat => D.int (k : Nat)) (f := fun k : Nat => PyData.int (k : Nat)) (xs := P) fun x _ => pn_int _).pl ?_
  (repeat fail)
  refine w_ifF Bool.false_ne_true ?_
  (repeat fail)
  have hes : (Src.st (enumF 0 (F.map vecD))).ds = (F.zipIdx 0).map fun q => D.tup [.int (q.2 : Nat), vecD q.1] := enumF_map vecD F 0
  refine w_forSt (fun j sl μ' => ∃ o5 o6, sl = [some (tabD F), some (natsD P), some (.int (n : Nat)), some (.int p), none, o5, o6, none, none, none] ∧ μ' = μ) ⟨_, _, rfl, rfl⟩ (fun j d sl μ' hj ⟨o5, o6, e1, e2⟩ => ?_) (fun sl μ' ⟨o5, o6, e1, e2⟩ => ?_)
  · subst e1; subst e2
    rw [hes, List.getElem?_map, List.getElem?_zipIdx] at hj
    cases hr : F[j]? with
    | none => rw [hr] at hj; cases hj
    | some r =>
      rw [hr] at hj; cases hj
      obtain ⟨k, hk⟩ := E.place hr
      have hkm := List.mem_of_getElem? hk
      have q := E.rest r (List.mem_of_getElem? hr)
      have hkn := E.lt k hkm
      have pk : (P.map fun k => D.int (k : Nat))[0 + j]? = some (.int (k : Nat)) := by rw [Nat.zero_add, List.getElem?_map, hk]; rfl
      have rk : (r.map D.int)[k]? = some (.int (Gf.at' r k)) := at_get (by rw [q.1]; exact hkn)
      have hat : ∀ a ∈ r, 0 ≤ a ∧ a < p := fun a ha => by
        obtain ⟨i, hi⟩ := List.mem_iff_getElem?.mp ha
        have := q.2 i
        have e : Gf.at' r i = a := by simp [Gf.at', List.getD_eq_getElem?_getD, hi]
        rwa [e] at this
      refine ⟨_, rfl, ?_⟩
      (repeat fail)
      refine w_len (xs := r.map D.int) rfl ?_
      (repeat fail)
      refine w_ifF (by simp [q.1]) ?_
      (repeat fail)
      refine w_noneT r D.int rfl (fun a ha => ⟨_, rfl, wQ_is ?_⟩) ?_
      · (repeat fail)
        refine w_ifT (decide_eq_true (hat a ha).1) ?_
        (repeat fail)
        exact ⟨by rw [decide_eq_true (hat a ha).2]; rfl, rfl⟩
      (repeat fail)
      refine w_neNilN ?_
      (repeat fail)
      refine w_ifF Bool.false_ne_true ?_
      (repeat fail)
      refine w_ix (k := 0 + j) rfl pk ?_
      (repeat fail)
      refine w_ix rfl rk ?_
      (repeat fail)
      rw [E.one j r k hr hk]
      refine w_ifF (by decide) ?_
      (repeat fail)
      refine w_ix (k := 0 + j) rfl pk ?_
      (repeat fail)
      refine w_sl_to (by rw [List.length_map, q.1]; omega) ?_
      (repeat fail)
      refine w_noneT (r.take k) D.int (by show (r.map D.int).take k = _; rw [List.map_take]) (fun a ha => ⟨_, rfl, wQ_is ?_⟩) ?_
      · (repeat fail)
        obtain ⟨i, hi⟩ := List.mem_iff_getElem?.mp ha
        rw [List.getElem?_take] at hi
        split at hi
        · rename_i hik
          have := E.low j r k hr hk i hik
          have e : Gf.at' r i = a := by simp [Gf.at', List.getD_eq_getElem?_getD, hi]
          rw [e] at this
          exact ⟨by simp [this], rfl⟩
        · cases hi
      (repeat fail)
      refine w_neNilN ?_
      (repeat fail)
      refine w_ifF Bool.false_ne_true ?_
      (repeat fail)
      refine w_noneT (F.zipIdx 0) (fun q => D.tup [.int (q.2 : Nat), vecD q.1]) (enumF_map vecD F 0) (fun z hz => ⟨_, rfl, wQ_is ?_⟩) ?_
      · (repeat fail)
        refine w_ifBl (fun h => ?_) (fun h => ⟨rfl, rfl⟩)
        (repeat fail)
        refine w_ix (k := 0 + j) rfl pk ?_
        (repeat fail)
        have hz2 := List.mem_zipIdx hz
        have hzF : F[z.2]? = some z.1 := by
          have h1 := hz2.2.1
          have h3 := hz2.2.2
          simp only [Nat.zero_add, Nat.sub_zero] at h1 h3
          rw [List.getElem?_eq_getElem h1]; exact congrArg some h3.symm
        have qz := E.rest z.1 (List.mem_of_getElem? hzF)
        refine w_ix rfl (at_get (r := z.1) (j := k) (by rw [qz.1]; exact hkn)) ?_
        (repeat fail)
        rw [E.zer z.2 j z.1 k (fun e => by subst e; simp at h) hzF hk]
        exact ⟨rfl, rfl⟩
      (repeat fail)
      refine w_neNilN ?_
      (repeat fail)
      refine w_ifF Bool.false_ne_true ?_
      (repeat fail)
      exact ⟨_, _, rfl, rfl⟩
  · subst e1; subst e2
    (repeat fail)
    exact ⟨rfl, rfl⟩
end
end Pd
end
section
open Pd
local macro_rules
  | `(tactic| fail) => `(tactic| with_reducible first
  | refine w_seq ?_ | refine w_asgN ?_ | refine w_var (by with_unfolding_all rfl) ?_ | refine w_c ?_ | refine w_bin ?_ | refine w_call ?_ | refine w_cons ?_ | refine w_nil ?_
  | refine w_callN (by with_unfolding_all rfl) ?_ | refine w_if ?_ | refine w_ret ?_ | refine w_exp ?_ | refine w_nx ?_ | refine w_ct ?_ | refine w_bk ?_ | refine w_retN ?_
  | refine w_tst ?_ | refine w_not ?_ | refine w_and ?_ | refine w_or ?_ | refine w_andD ?_ | refine w_orD ?_ | refine w_notD ?_ | refine w_blD ?_ | refine w_ifD ?_ | refine w_tru ?_ | refine w_ch ?_
  | refine w_stL ?_ | refine w_tup ?_ | refine w_lst ?_ | refine w_newDict ?_ | refine w_boxDict ?_ | refine w_newDisp ?_ | refine w_newEmp ?_ | refine w_boxEmp ?_ | refine w_pairC ?_ | refine w_pair0 ?_ | refine w_newL ?_ | refine w_boxL ?_ | refine w_frz ?_ | refine w_un ?_ | refine w_meth0 ?_ | refine w_methB ?_ | refine w_noO ?_ | refine w_someO ?_ | refine w_slice ?_ | refine w_rev ?_ | refine w_revT ?_
  | refine w_seqSt ?_ | refine w_zipSt ?_ | refine w_enSt ?_ | refine w_tupRg1 ?_ | refine w_lstRg1 ?_ | refine w_lstRg2 ?_ | refine w_rng1 ?_ | refine w_rng2 ?_ | refine w_lcD ?_ | refine w_asg ?_ | refine w_par ?_ | refine w_aug ?_ | refine w_set ?_ | refine w_for ?_
  | refine w_addI ?_ | refine w_subI ?_ | refine w_cmp ?_ | refine w_neg ?_ | refine w_ipAdd ?_ | refine w_eqI ?_ | refine w_neI ?_ | refine w_eqS ?_ | refine w_neS ?_ | refine w_int ?_ | refine w_intB ?_ | refine w_abs ?_ | refine w_max2 ?_ | refine w_min2 ?_ | refine w_gcd ?_
  | refine w_ok ?_ | refine And.intro (Nat.le_of_ble_eq_true (by with_unfolding_all rfl)) ?_ | refine And.intro (sm_le (by with_unfolding_all rfl)) ?_ | refine and_fix (by with_unfolding_all rfl) ?_ | refine Exists.intro _ (And.intro (by with_unfolding_all rfl) ?_))
namespace Pd
open PySem PySem.Spec L2
theorem eq_ref {x : D} {μ : Mu} {l : Nat} {ds : List D} (h : μ[l]? = some (some (.lst ds))) : eqD x (.ref l) μ = eqD x (.lst ds) μ := by
  have e1 : toPy μ 9 (.ref l) = toPy μ 9 (.lst ds) := by simp only [toPy, h]
  cases x <;> simp only [eqD, twoS, eqD0, e1]
theorem zip_self_map {α β : Type} (g : α → β) : ∀ l : List α, l.zip (l.map g) = l.map fun a => (a, g a)
  | [] => rfl
  | a :: l => by rw [List.map_cons, List.zip_cons_cons, zip_self_map g l, List.map_cons]
theorem lvecD_inj {a b : List Int} : lvecD a = lvecD b ↔ a = b := by
  constructor
  · intro h
    unfold lvecD at h
    injection h with h
    exact (List.map_inj_right fun x y e => by injection e).mp h
  · exact fun h => by rw [h]
theorem vecD_inj {a b : List Int} : vecD a = vecD b ↔ a = b := by
  constructor
  · intro h
    unfold vecD at h
    injection h with h
    exact (List.map_inj_right fun x y e => by injection e).mp h
  · exact fun h => by rw [h]
open Classical in
theorem w_eqLV {E : Exn → Mu → Prop} {Q : D → Mu → Prop} {μ : Mu} {a b : List Int} (h : Q (.bl (decide (a = b))) μ) : wQ E Q (eqD (lvecD a) (lvecD b) μ) := by
  refine w_eqP (pn_lvec a).pl (pn_lvec b).pl (nob_plv a) (nob_plv b) ?_
  have e : decide (lvecD a = lvecD b) = decide (a = b) := by
    rw [Bool.eq_iff_iff]; simp [lvecD_inj]
  rw [e]; exact h
theorem w_neLV {E : Exn → Mu → Prop} {Q : D → Mu → Prop} {μ : Mu} {a b : List Int} (h : Q (.bl (!decide (a = b))) μ) : wQ E Q (neD (lvecD a) (lvecD b) μ) := by
  refine w_neP (pn_lvec a).pl (pn_lvec b).pl (nob_plv a) (nob_plv b) ?_
  have e : @decide (lvecD a = lvecD b) (Classical.propDecidable _) = decide (a = b) := by
    rw [Bool.eq_iff_iff]; simp [lvecD_inj]
  rw [e]; exact h
theorem w_neV {E : Exn → Mu → Prop} {Q : D → Mu → Prop} {μ : Mu} {a b : List Int} (h : Q (.bl (!decide (a = b))) μ) : wQ E Q (neD (vecD a) (vecD b) μ) := by
  refine w_neP (pn_vec a).pl (pn_vec b).pl (nob_pv a) (nob_pv b) ?_
  have e : @decide (vecD a = vecD b) (Classical.propDecidable _) = decide (a = b) := by
    rw [Bool.eq_iff_iff]; simp [vecD_inj]
  rw [e]; exact h
theorem w_eqBB {E : Exn → Mu → Prop} {Q : D → Mu → Prop} {μ : Mu} {a b : Bool} (hq : Q (.bl (decide (a = b))) μ) : wQ E Q (eqD (.bl a) (.bl b) μ) := w_is (a := D.bl (decide (a = b))) (μ := μ) (by
  rw [eqD_pl (pl_bl a) (pl_bl b)]
  cases a <;> cases b <;> rfl) hq
end Pd
namespace Kn
open PySem PySem.Spec L2 Pd
theorem pick_same : f__law_pick = Pd.f__law_pick := rfl
theorem of_same : f__law_of = Pd.f__law_of := rfl
theorem source_same : f__law_source = Pd.f__law_source := rfl
theorem rests_same : f_table_rests = Pd.f_table_rests := rfl
theorem steps_same : f_steps_at = Pd.f_steps_at := rfl
theorem rank_same : f_rank_at = Pd.f_rank_at := rfl
theorem made_same : f_made_nothing = Pd.f_made_nothing := rfl
theorem thing_same : f_thing_led = Pd.f_thing_led := rfl
theorem led_same : f_led_to = Pd.f_led_to := rfl
theorem prod_same : f_product_at = Pd.f_product_at := rfl
theorem und_same : f_undone_at = Pd.f_undone_at := rfl
theorem lprod_same : f__law_product = Pd.f__law_product := rfl
theorem lone_same : f__law_one = Pd.f__law_one := rfl
theorem ldrawn_same : f__law_drawn = Pd.f__law_drawn := rfl
theorem lund_same : f__law_undone_at = Pd.f__law_undone_at := rfl
theorem lrank_same : f__law_rank = Pd.f__law_rank := rfl
theorem lled_same : f__law_led = Pd.f__law_led := rfl
theorem lsteps_same : f__law_steps_right = Pd.f__law_steps_right := rfl
section
variable {μ : Mu} {p : Int} {n B : Nat} {t : List (List Int)}
theorem all_led (F : List (List Int)) (P : List Nat) (G : Gf.Good p n t F P) {x : List Int} (hx : x.length = n) (ht : ∀ r ∈ t, r.length = n) : (∀ a ∈ (t.map fun r => dotz r x % p), a = 0) ↔ Gf.Ker p n F x := by
  rw [G.ker]
  constructor
  · intro h r hr
    have h1 := h _ (List.mem_map.mpr ⟨r, hr, rfl⟩)
    rw [dotz_dot (ht r hr) hx] at h1
    exact Int.dvd_of_emod_eq_zero h1
  · intro h a ha
    obtain ⟨r, hr, rfl⟩ := List.mem_map.mp ha
    show dotz r x % p = 0
    rw [dotz_dot (ht r hr) hx]
    exact Int.emod_eq_zero_of_dvd (h r hr)
theorem made_right_ok {E : Exn → Mu → Prop} {Q : D → Mu → Prop} (h : Sr B 1 0 μ) (hB : B + n < 2 ^ 39) (hn : ∀ r ∈ t, r.length = n) (hts : ∀ r ∈ t, Small r) (hp : PrimeI p) (hp2 : p < 2 ^ 32) (hn1 : n ≤ 100) (ht : t.length ≤ 100) (hq : ∀ μ', Sr (B + n) 1 0 μ' → Q (.bl true) μ') :
    wQ E Q (f__law_made_right [.ref 1, tabD t, .int p, .int (n : Nat), natsD (Gf.steps p (invP p) n t).places] μ) := by
  have hz := sizeLine_eq
  obtain ⟨xs, e⟩ := made_nothing_ok (μ := μ) (d := tabD t) rfl rfl hn hp hp2 (by omega) (by omega)
  have G := Gf.steps_good hp.1 (fun a h0 h1 => (invP_ok hp h0 h1).1) hn
  generalize (Gf.steps p (invP p) n t).found = F at *
  generalize (Gf.steps p (invP p) n t).places = P at *
  have hfl : (Gf.freeL n P).length ≤ n := by
    have := List.length_filter_le (fun k => !decide (k ∈ P)) (List.range n)
    rw [List.length_range] at this
    exact this
  have hfm : ∀ f ∈ Gf.freeL n P, f < n ∧ f ∉ P := fun f hf => by
    obtain ⟨h1, h2⟩ := List.mem_filter.mp hf
    exact ⟨List.mem_range.mp h1, by simpa using h2⟩
  have hths : ∀ f, Small (Gf.thing p n F P f) := fun f => by
    have hp1 := hp.1
    intro a ha
    obtain ⟨k, hk, rfl⟩ := List.mem_map.mp ha
    split
    · rename_i i _
      have := Int.emod_nonneg (-Gf.at' (F.getD i []) f) (b := p) (by omega)
      have := Int.emod_lt_of_pos (-Gf.at' (F.getD i []) f) (b := p) (by omega)
      omega
    · split <;> decide
  refine w_body ?_
  show wS _ _ _ _ _ (b__law_made_right [some (.ref 1), some (tabD t), some (.int p), some (.int (n : Nat)), some (natsD P), none, none, none, none, none, none, none, none, none] μ)
  unfold b__law_made_right
  (repeat fail)
  refine w_is e ?_
  (repeat fail)
  refine ⟨by omega, ?_⟩
  refine w_filtT (List.range n) (fun k => D.int (k : Nat)) (fun k => D.int (k : Nat)) (fun k => !decide (k ∈ P)) (by rw [Int.toNat_natCast]; exact rngD_map n) (fun k hk => ⟨_, rfl, wQ_is ?_, fun _ => rfl⟩) (by rw [List.length_range]; omega) ?_
  · (repeat fail)
    refine w_inInts (ns := P.map fun k => ((k : Nat) : Int)) (by show some _ = _; rw [nats_eq]) (fun z => by intro h; cases h) ?_
    (repeat fail)
    refine ⟨?_, rfl⟩
    rw [if_pos rfl]
    congr 1
    rw [Bool.eq_iff_iff]; simp [mem_nats]
  (repeat fail)
  refine w_len (xs := ((Gf.freeL n P).map (Gf.thing p n F P)).map vecD) rfl ?_
  (repeat fail)
  refine w_len (xs := (Gf.freeL n P).map fun k => D.int (k : Nat)) rfl ?_
  (repeat fail)
  refine w_ifF (by simp) ?_
  (repeat fail)
  refine ⟨_, _, _, _, rfl, rfl, rfl, ⟨rfl, rfl⟩, ⟨fun h => Bool.noConfusion h, ?_⟩⟩
  (repeat fail)
  have hzs : zipD ((Gf.freeL n P).map fun k => D.int (k : Nat)) (((Gf.freeL n P).map (Gf.thing p n F P)).map vecD) = (Gf.freeL n P).map fun f => D.tup [.int (f : Nat), vecD (Gf.thing p n F P f)] := by
    rw [zipD_map, zip_self_map, List.map_map]; rfl
  have hl2 : (Src.st (zipD ((Gf.freeL n P).map fun k => D.int (k : Nat)) (((Gf.freeL n P).map (Gf.thing p n F P)).map vecD))).ds = (Gf.freeL n P).map fun f => D.tup [.int (f : Nat), vecD (Gf.thing p n F P f)] := hzs
  refine w_forSt (fun j sl μ' => ∃ o8 o9, sl = [some (.ref 1), some (tabD t), some (.int p), some (.int (n : Nat)), some (natsD P), some (tabD ((Gf.freeL n P).map (Gf.thing p n F P))), some (.lst ((Gf.freeL n P).map fun k => D.int (k : Nat))), none, o8, o9, none, none, none, none] ∧ μ' = μ ++ xs) ⟨_, _, rfl, rfl⟩ (fun j d sl μ' hj ⟨o8, o9, e1, e2⟩ => ?_) (fun sl μ' ⟨o8, o9, e1, e2⟩ => ?_)
  · subst e1; subst e2
    have hj : ((Gf.freeL n P).map fun f => D.tup [.int (f : Nat), vecD (Gf.thing p n F P f)])[j]? = some d := by rw [← hl2]; exact hj
    rw [List.getElem?_map] at hj
    cases hf : (Gf.freeL n P)[j]? with
    | none => rw [hf] at hj; cases hj
    | some f =>
      rw [hf] at hj; cases hj
      obtain ⟨hfn, hfP⟩ := hfm f (List.mem_of_getElem? hf)
      refine ⟨_, rfl, ?_⟩
      (repeat fail)
      refine w_mapT (Gf.freeL n P) (fun k => D.int (k : Nat)) (fun k => D.int (if k = f then 1 else 0)) rfl (fun k hk => ⟨_, rfl, wQ_is ?_⟩) (by omega) ?_
      · obtain ⟨hkn, hkP⟩ := hfm k hk
        (repeat fail)
        refine w_ix rfl (at_get (r := Gf.thing p n F P f) (j := k) (by rw [Gf.thing_len]; exact hkn)) ?_
        rw [Gf.thing_free hkn hkP]
        exact ⟨rfl, rfl⟩
      (repeat fail)
      refine w_mapT (Gf.freeL n P) (fun k => D.int (k : Nat)) (fun k => D.int (if k = f then 1 else 0)) rfl (fun k hk => ⟨_, rfl, wQ_is ?_⟩) (by omega) ?_
      · (repeat fail)
        refine ⟨?_, rfl⟩
        by_cases h : k = f
        · rw [if_pos h, decide_eq_true (by omega)]; rfl
        · rw [if_neg h, decide_eq_false (by omega)]; rfl
      (repeat fail)
      have e3 : D.lst ((Gf.freeL n P).map fun k => D.int (if k = f then 1 else 0)) = lvecD ((Gf.freeL n P).map fun k => if k = f then 1 else 0) := by
        unfold lvecD; rw [List.map_map]; rfl
      rw [e3]
      refine w_neSelf (pn_lvec _).pl ?_
      (repeat fail)
      refine w_ifF Bool.false_ne_true ?_
      (repeat fail)
      refine w_len (xs := (Gf.thing p n F P f).map D.int) rfl ?_
      (repeat fail)
      refine w_ifF (by rw [List.length_map, Gf.thing_len]; simp) ?_
      (repeat fail)
      refine w_is (law_led_ok (by have := hp.1; omega) hn hts (hths f) (by omega) (by omega)) ?_
      (repeat fail)
      refine w_noneT (t.map fun r => dotz r (Gf.thing p n F P f) % p) D.int rfl (fun a ha => ⟨_, rfl, wQ_is ?_⟩) ?_
      · have := (all_led F P G Gf.thing_len hn).mpr (Gf.thing_ker G.ech hfn hfP) a ha
        (repeat fail)
        exact ⟨by rw [this]; rfl, rfl⟩
      (repeat fail)
      refine w_neNilN ?_
      (repeat fail)
      refine w_ifF Bool.false_ne_true ?_
      (repeat fail)
      exact ⟨_, _, rfl, rfl⟩
  · subst e1; subst e2
    (repeat fail)
    refine ⟨by omega, ?_⟩
    have hnl : (Src.st (rngD 0 ((n : Nat) : Int).toNat)).ds.length = n := rngD_len n
    refine w_mapI (fun i acc μ' => ∃ r : List Int, acc = r.map D.int ∧ r.length = i ∧ (∀ a ∈ r, 0 ≤ a ∧ a < 5) ∧ (i ≤ n → Sr (B + i) 1 0 μ')) ⟨[], rfl, rfl, by simp, fun _ => h.app xs⟩ (fun i d acc μ2 hi ⟨r, f1, f2, f3, f4⟩ => ⟨_, rfl, ?_⟩) (fun j acc μ' ⟨T, e1, e2, _⟩ => by rw [e1, List.length_map, e2]) (by rw [hnl]; omega) fun acc μ2 ⟨x, f1, f2, f3, f4⟩ => ?_
    · obtain ⟨hin, rfl⟩ := rngD_at hi
      have hin : i < n := hin
      (repeat fail)
      rw [pick_same]
      refine w_pick (f4 (by omega)) (by omega) (by decide) fun a μ3 hs3 hf ha => ?_
      refine ⟨r ++ [((a : Nat) : Int)], by rw [f1, List.map_append]; rfl, by simp [f2], fun b hb => ?_, fun _ => hs3⟩
      rcases List.mem_append.mp hb with hb | hb
      · exact f3 b hb
      · rw [List.mem_singleton.mp hb]; omega
    rw [hnl] at f2 f4
    have hs := f4 (Nat.le_refl _)
    have hxs : Small x := fun a ha => by have := f3 a ha; omega
    (repeat fail)
    refine w_tuple rfl ?_
    rw [f1]
    (repeat fail)
    refine ⟨by omega, ?_⟩
    (repeat fail)
    refine w_forSt (fun j sl μ' => ∃ o7 o8, sl = [some (.ref 1), some (tabD t), some (.int p), some (.int (n : Nat)), some (natsD P), some (tabD ((Gf.freeL n P).map (Gf.thing p n F P))), some (.lst ((Gf.freeL n P).map fun k => D.int (k : Nat))), o7, o8, some (vecD x), none, some (.ref μ2.length), none, none] ∧
      μ' = μ2 ++ [some (.lst ((((List.range j).map fun k => ((Gf.freeL n P).map fun f => Gf.at' x f * Gf.at' (Gf.thing p n F P f) k).sum % p)).map D.int))]) ⟨_, _, rfl, rfl⟩ (fun j d sl μ' hj ⟨o7, o8, e1, e2⟩ => ?_) (fun sl μ' ⟨o7, o8, e1, e2⟩ => ?_)
    · subst e1; subst e2
      obtain ⟨hjn, rfl⟩ := rngD_at hj
      have hjn : j < n := hjn
      refine ⟨_, rfl, ?_⟩
      (repeat fail)
      refine ⟨ty_box, ?_⟩
      (repeat fail)
      refine ⟨_, _, _, _, rfl, rfl, rfl, ⟨rfl, rfl⟩, ⟨fun h => Bool.noConfusion h, ?_⟩⟩
      refine w_mapT (Gf.freeL n P) (fun f => D.tup [.int (f : Nat), vecD (Gf.thing p n F P f)]) (fun f => .int (Gf.at' x f * Gf.at' (Gf.thing p n F P f) j)) hzs (fun f hf => ⟨_, rfl, wQ_is ?_⟩) (by omega) ?_
      · obtain ⟨hfn, hfP⟩ := hfm f hf
        (repeat fail)
        refine w_ix rfl (at_get (r := x) (j := f) (by omega)) ?_
        (repeat fail)
        refine w_ix rfl (at_get (r := Gf.thing p n F P f) (j := j) (by rw [Gf.thing_len]; exact hjn)) ?_
        (repeat fail)
        refine w_mulX (mulOk32 (small_at hxs) (small_at (hths f))) ?_
        exact ⟨rfl, rfl⟩
      have e4 : ((Gf.freeL n P).map fun f => D.int (Gf.at' x f * Gf.at' (Gf.thing p n F P f) j)) = ((Gf.freeL n P).map fun f => Gf.at' x f * Gf.at' (Gf.thing p n F P f) j).map D.int := by rw [List.map_map]; rfl
      rw [e4]
      (repeat fail)
      refine w_sum rfl (ints_map _) ?_
      (repeat fail)
      have hp1 := hp.1
      refine w_mod (by omega) ?_
      rw [fmod_pos _ (by omega)]
      (repeat fail)
      refine w_append get_box (by rw [List.length_map, List.length_map, List.length_range]; omega) ?_
      rw [set_box]
      refine ⟨_, _, rfl, ?_⟩
      rw [List.range_succ, List.map_append, List.map_append]; rfl
    · subst e1; subst e2
      rw [hnl]
      generalize edue : ((List.range n).map fun k => ((Gf.freeL n P).map fun f => Gf.at' x f * Gf.at' (Gf.thing p n F P f) k).sum % p) = due
      have hp1 := hp.1
      (repeat fail)
      refine w_is (law_led_ok (by omega) hn hts hxs (by omega) (by omega)) ?_
      (repeat fail)
      refine w_filtT (t.map fun r => dotz r x % p) D.int D.int (fun a => !decide (a = 0)) rfl (fun a ha => ⟨_, rfl, wQ_is ?_, fun _ => rfl⟩) (by rw [List.length_map]; omega) ?_
      · (repeat fail)
        exact ⟨rfl, rfl⟩
      (repeat fail)
      refine w_eqNil (pn_lvec _).pl (nob_plv _) ?_
      (repeat fail)
      refine w_mapT x D.int (fun a => D.int (a % p)) rfl (fun a ha => ⟨_, rfl, wQ_is ?_⟩) (by omega) ?_
      · (repeat fail)
        refine w_mod (by omega) ?_
        rw [fmod_pos _ (by omega)]
        exact ⟨rfl, rfl⟩
      (repeat fail)
      have e5 : D.lst (x.map fun a => D.int (a % p)) = lvecD (x.map (· % p)) := by
        unfold lvecD; rw [List.map_map]; rfl
      rw [e5, eq_ref get_box]
      refine w_eqLV ?_
      (repeat fail)
      refine w_eqBB ?_
      have hiff : (((t.map fun r => dotz r x % p).filter fun a => !decide (a = 0)).map D.int).isEmpty = decide (x.map (· % p) = due) := by
        rw [Bool.eq_iff_iff]
        simp only [List.isEmpty_iff, List.map_eq_nil_iff, decide_eq_true_eq]
        have h1 : ((t.map fun r => dotz r x % p).filter fun a => !decide (a = 0)) = [] ↔ Gf.Ker p n F x := by
          rw [← all_led F P G f2 hn, List.filter_eq_nil_iff]
          simp
        rw [h1, Gf.ker_due G.ech]
        subst edue
        constructor
        · intro h
          refine Gf.vec_ext (n := n) (by simp [f2]) (by simp) fun k hk => ?_
          rw [Gf.at_map (f := (· % p)) (by omega), h k hk]
          show _ = ((List.range n).map _).getD k 0
          simp only [List.getD_eq_getElem?_getD, List.getElem?_map, List.getElem?_range hk]; rfl
        · intro h k hk
          have h2 : Gf.at' (x.map (· % p)) k = Gf.at' ((List.range n).map fun k => ((Gf.freeL n P).map fun f => Gf.at' x f * Gf.at' (Gf.thing p n F P f) k).sum % p) k := by rw [h]
          rw [Gf.at_map (f := (· % p)) (by omega)] at h2
          rw [h2]
          show ((List.range n).map _).getD k 0 = _
          simp only [List.getD_eq_getElem?_getD, List.getElem?_map, List.getElem?_range hk]; rfl
      rw [hiff, decide_eq_true rfl]
      exact hq _ (hs.app _)
end
end Kn
end
section
namespace Pd
open PySem PySem.Spec L2
/-! ### primes by trying -/
def noDiv (n : Nat) : Nat → Nat → Bool
  | 0, d => decide (n < d * d)
  | f + 1, d => decide (n % d ≠ 0) && noDiv n f (d + 1)
theorem noDiv_ok {n : Nat} : ∀ (f d e : Nat), noDiv n f d = true → d ≤ e → e * e ≤ n → n % e ≠ 0
  | 0, d, e, h, h1, h2 => by
    have h := of_decide_eq_true h
    have : d * d ≤ e * e := Nat.mul_le_mul h1 h1
    omega
  | f + 1, d, e, h, h1, h2 => by
    rw [noDiv, Bool.and_eq_true] at h
    by_cases he : d = e
    · subst he; exact of_decide_eq_true h.1
    · exact noDiv_ok f (d + 1) e h.2 (by omega) h2
theorem prime_of {n f : Nat} (hn : 2 ≤ n) (h : noDiv n f 2 = true) : PrimeI ((n : Nat) : Int) := by
  refine ⟨by omega, fun a h0 h1 d hd hdn => ?_⟩
  have hd1 : d.natAbs ∣ a.natAbs := Int.natAbs_dvd_natAbs.mpr hd
  have hd2 : d.natAbs ∣ n := by have := Int.natAbs_dvd_natAbs.mpr hdn; rwa [Int.natAbs_natCast] at this
  have hle : d.natAbs ≤ a.natAbs := Nat.le_of_dvd (by omega) hd1
  have hlt : d.natAbs < n := by omega
  have h1 : d.natAbs = 1 := by
    obtain ⟨e, he⟩ := hd2
    have hd0 : d.natAbs ≠ 0 := fun z => by rw [z, Nat.zero_mul] at he; omega
    have he0 : e ≠ 0 := fun z => by rw [z, Nat.mul_zero] at he; omega
    refine Classical.byContradiction fun hne => ?_
    have he1 : e ≠ 1 := fun z => by rw [z, Nat.mul_one] at he; omega
    by_cases hc : d.natAbs ≤ e
    · refine noDiv_ok f 2 d.natAbs h (by omega) ?_ (by rw [he]; exact Nat.mul_mod_right _ _)
      rw [he]; exact Nat.mul_le_mul_left _ hc
    · refine noDiv_ok f 2 e h (by omega) ?_ (by rw [he]; exact Nat.mul_mod_left _ _)
      rw [he]; exact Nat.mul_le_mul_right _ (by omega)
  have := Int.natAbs_dvd_natAbs.mp (show d.natAbs ∣ (1 : Int).natAbs by rw [h1]; decide)
  exact this
theorem primes15 : ∀ p ∈ ([2, 2, 3, 3, 5, 7, 13, 101, 9973, 999999937] : List Int), PrimeI p ∧ p < 2 ^ 32 := by
  have h2 : PrimeI 2 := prime_of (n := 2) (f := 0) (by decide) (by decide)
  have h3 : PrimeI 3 := prime_of (n := 3) (f := 0) (by decide) (by decide)
  have h5 : PrimeI 5 := prime_of (n := 5) (f := 1) (by decide) (by decide)
  have h7 : PrimeI 7 := prime_of (n := 7) (f := 1) (by decide) (by decide)
  have h13 : PrimeI 13 := prime_of (n := 13) (f := 2) (by decide) (by decide)
  have h101 : PrimeI 101 := prime_of (n := 101) (f := 9) (by decide) (by decide)
  have h9973 : PrimeI 9973 := prime_of (n := 9973) (f := 98) (by decide) (by decide +kernel)
  have h9 : PrimeI 999999937 := prime_of (n := 999999937) (f := 31622) (by decide) (by decide +kernel)
  intro p hp
  simp only [List.mem_cons, List.not_mem_nil, or_false] at hp
  rcases hp with rfl | rfl | rfl | rfl | rfl | rfl | rfl | rfl | rfl | rfl
  · exact ⟨h2, by decide⟩
  · exact ⟨h2, by decide⟩
  · exact ⟨h3, by decide⟩
  · exact ⟨h3, by decide⟩
  · exact ⟨h5, by decide⟩
  · exact ⟨h7, by decide⟩
  · exact ⟨h13, by decide⟩
  · exact ⟨h101, by decide⟩
  · exact ⟨h9973, by decide⟩
  · exact ⟨h9, by decide⟩
/-! ### texts of data: of which length they are -/
structure Sz (d : D) (p : PyData) (b : Nat) : Prop where
  pl : Pn 8 d p
  sh : p.showable = true
  sz : shSz p ≤ b
theorem sz_int {i : Int} (h : i.natAbs < 2 ^ 64) : Sz (.int i) (.int i) 66 := by
  have hl : i.natAbs.log2 ≤ 64 := by
    by_cases h0 : i.natAbs = 0
    · rw [h0]; decide
    · have := (Nat.log2_lt h0).mpr h; omega
  refine ⟨(pn_int i).mono, by simp only [PyData.showable]; exact decide_eq_true (by omega), ?_⟩
  show i.natAbs.log2 + 2 ≤ 66
  omega
theorem sh_map {α : Type} (f : α → PyData) (b : Nat) : ∀ (xs : List α), (∀ x ∈ xs, (f x).showable = true ∧ shSz (f x) ≤ b) → PyData.showableAll (xs.map f) = true ∧ shSzL (xs.map f) ≤ (b + 2) * xs.length
  | [], _ => ⟨rfl, by simp [shSzL]⟩
  | x :: xs, h => by
    obtain ⟨h1, h2⟩ := h x (List.mem_cons_self ..)
    obtain ⟨h3, h4⟩ := sh_map f b xs fun y hy => h y (List.mem_cons_of_mem _ hy)
    refine ⟨by rw [List.map_cons, PyData.showableAll, h1, h3]; rfl, ?_⟩
    rw [List.map_cons, shSzL, List.length_cons, Nat.mul_add, Nat.mul_one]; omega
theorem sz_tup {α : Type} {g : α → D} {f : α → PyData} {xs : List α} {b n : Nat} (hp : ∀ x ∈ xs, Pn n (g x) (f x)) (hn : n + 1 ≤ 8) (h : ∀ x ∈ xs, (f x).showable = true ∧ shSz (f x) ≤ b) : Sz (.tup (xs.map g)) (.tuple (xs.map f)) ((b + 2) * xs.length + 3) := by
  obtain ⟨h1, h2⟩ := sh_map f b xs h
  refine ⟨(pn_tup hp).mono hn, by rw [PyData.showable]; exact h1, ?_⟩
  rw [shSz]; omega
theorem sz_lst {α : Type} {g : α → D} {f : α → PyData} {xs : List α} {b n : Nat} (hp : ∀ x ∈ xs, Pn n (g x) (f x)) (hn : n + 1 ≤ 8) (h : ∀ x ∈ xs, (f x).showable = true ∧ shSz (f x) ≤ b) : Sz (.lst (xs.map g)) (.list (xs.map f)) ((b + 2) * xs.length + 3) := by
  obtain ⟨h1, h2⟩ := sh_map f b xs h
  refine ⟨(pn_lst hp).mono hn, by rw [PyData.showable]; exact h1, ?_⟩
  rw [shSz]; omega
def B64 (v : List Int) : Prop := ∀ a ∈ v, a.natAbs < 2 ^ 64
theorem sz_pv {v : List Int} (h : B64 v) : (pv v).showable = true ∧ shSz (pv v) ≤ 68 * v.length + 3 := by
  have := sz_tup (xs := v) (g := D.int) (f := PyData.int) (n := 1) (b := 66) (fun x _ => pn_int x) (by decide) fun x hx => ⟨(sz_int (h x hx)).sh, (sz_int (h x hx)).sz⟩
  exact ⟨this.sh, this.sz⟩
theorem sz_vec {v : List Int} (h : B64 v) : Sz (vecD v) (pv v) (68 * v.length + 3) := ⟨(pn_vec v).mono, (sz_pv h).1, (sz_pv h).2⟩
theorem sz_tab {t : List (List Int)} {n : Nat} (ht : ∀ r ∈ t, r.length ≤ n ∧ B64 r) : Sz (tabD t) (.tuple (t.map pv)) ((68 * n + 5) * t.length + 3) :=
  sz_tup (fun x _ => pn_vec x) (by decide) fun r hr => ⟨(sz_pv (ht r hr).2).1, by
    have := (sz_pv (ht r hr).2).2
    have h2 : 68 * r.length ≤ 68 * n := Nat.mul_le_mul_left _ (ht r hr).1
    omega⟩
theorem sz_nats {l : List Nat} (h : ∀ k ∈ l, k < 2 ^ 64) : Sz (natsD l) (.tuple (l.map fun k => PyData.int (k : Nat))) (68 * l.length + 3) :=
  sz_tup (n := 1) (fun x _ => pn_int _) (by decide) fun k hk => ⟨(sz_int (by have := h k hk; omega)).sh, (sz_int (by have := h k hk; omega)).sz⟩
theorem w_repr {E : Exn → Mu → Prop} {Q : D → Mu → Prop} {μ : Mu} {d : D} {p : PyData} {b : Nat} (h : Sz d p b) (hb : b ≤ 16000000) (hq : Q (.str p.shown) μ) : wQ E Q (dcRepr [d] μ) :=
  w_is (repr_pl h.pl.pl h.sh (by have := h.sz; have := sizeLine_eq; omega)) hq
theorem sz_tup2 {x y : D} {p q : PyData} {a b : Nat} (hx : Sz x p a) (hy : Sz y q b) (h7 : Pn 7 x p ∧ Pn 7 y q) : Sz (.tup [x, y]) (.tuple [p, q]) (a + b + 7) := by
  refine ⟨⟨by rw [pyD, pyL, hx.pl.py, pyL, hy.pl.py]; rfl, by simp only [PyData.canLay0, PyData.canLayAll0, hx.pl.lay, hy.pl.lay, Bool.and_self], ?_⟩, by simp only [PyData.showable, PyData.showableAll, hx.sh, hy.sh, Bool.and_self], ?_⟩
  · have h1 := h7.1.dep
    have h2 := h7.2.dep
    simp only [PyData.depth, PyData.depthAll]; omega
  · have h1 := hx.sz
    have h2 := hy.sz
    simp only [shSz, shSzL]; omega
theorem sz_lst2 {x y : D} {p q : PyData} {a b : Nat} (hx : Sz x p a) (hy : Sz y q b) (h7 : Pn 7 x p ∧ Pn 7 y q) : Sz (.lst [x, y]) (.list [p, q]) (a + b + 7) := by
  refine ⟨⟨by rw [pyD, pyL, hx.pl.py, pyL, hy.pl.py]; rfl, by simp only [PyData.canLay0, PyData.canLayAll0, hx.pl.lay, hy.pl.lay, Bool.and_self], ?_⟩, by simp only [PyData.showable, PyData.showableAll, hx.sh, hy.sh, Bool.and_self], ?_⟩
  · have h1 := h7.1.dep
    have h2 := h7.2.dep
    simp only [PyData.depth, PyData.depthAll]; omega
  · have h1 := hx.sz
    have h2 := hy.sz
    simp only [shSz, shSzL]; omega
end Pd
end
section
namespace Pd
open PySem PySem.Spec L2
section
variable {p : Int} {n : Nat} {t : List (List Int)} {g : List Int}
theorem good_of (hp : PrimeI p) (hn : ∀ r ∈ t, r.length = n) : Gf.Good p n t (Gf.steps p (invP p) n t).found (Gf.steps p (invP p) n t).places := Gf.steps_good hp.1 (fun a h0 h1 => (invP_ok hp h0 h1).1) hn
theorem led_eq {v : List Int} (hn : ∀ r ∈ t, r.length = n) (hv : v.length = n) (hg : g.length = t.length) (h : ∀ q ∈ t.zip g, p ∣ Gf.dot n q.1 v - q.2) : (t.map fun r => dotz r v % p) = g.map (· % p) := by
  refine List.ext_getElem (by simp [hg]) fun i h1 h2 => ?_
  rw [List.getElem_map, List.getElem_map]
  have h1 : i < t.length := by simpa using h1
  have hm : (t[i], g[i]) ∈ t.zip g := List.mem_iff_getElem?.mpr ⟨i, List.getElem?_zip_eq_some.mpr ⟨List.getElem?_eq_getElem h1, List.getElem?_eq_getElem (by omega)⟩⟩
  rw [dotz_dot (hn _ (List.getElem_mem h1)) hv]
  exact Gf.emod_eq_of_dvd (h _ hm)
theorem ledV_at {F : List (List Int)} {P : List Nat} {k : Nat} (hk : k < n) : Gf.at' (Gf.ledV n F P) k = match Gf.idx P k with
    | some i => Gf.at' (F.getD i []) n
    | none => 0 := Gf.putP_at hk
theorem led_facts (hp : PrimeI p) (hn : ∀ r ∈ t, r.length = n) (hg : g.length = t.length) (h : n ∉ (Gf.steps p (invP p) (n + 1) (wideT t g)).places) :
    (t.map fun r => dotz r (Gf.ledV n (Gf.steps p (invP p) (n + 1) (wideT t g)).found (Gf.steps p (invP p) (n + 1) (wideT t g)).places) % p) = g.map (· % p) := by
  have G := good_of hp (wide_len (g := g) hn)
  exact led_eq hn Gf.putP_len hg (Gf.led_right hp.1 hn G h fun k hk => ledV_at hk)
theorem led_some {x : List Int} (hp : PrimeI p) (hn : ∀ r ∈ t, r.length = n) (hx : x.length = n) : n ∉ (Gf.steps p (invP p) (n + 1) (wideT t (t.map fun r => dotz r x % p))).places := by
  have G := good_of hp (wide_len (g := t.map fun r => dotz r x % p) hn)
  refine Gf.led_none hp.1 hn G (x := x) fun q hq => ?_
  rw [zip_self_map'] at hq
  obtain ⟨r, hr, rfl⟩ := List.mem_map.mp hq
  rw [dotz_dot (hn r hr) hx]
  have := Gf.emod_sub_dvd (Gf.dot n r x) p
  obtain ⟨k, hk⟩ := this
  exact ⟨-k, by show Gf.dot n r x - Gf.dot n r x % p = _; rw [Int.mul_neg]; omega⟩
where
  zip_self_map' {α β : Type} {f : α → β} : ∀ {l : List α}, l.zip (l.map f) = l.map fun a => (a, f a)
    | [] => rfl
    | a :: l => by rw [List.map_cons, List.zip_cons_cons, zip_self_map', List.map_cons]
theorem wide_places_iff (hp : PrimeI p) (hn : ∀ r ∈ t, r.length = n) (hg : g.length = t.length) {k : Nat} (hk : k < n) : k ∈ (Gf.steps p (invP p) (n + 1) (wideT t g)).places ↔ k ∈ (Gf.steps p (invP p) n t).places :=
  Gf.wide_heads hp.1 hn (Gf.wideW_wide hg) (good_of hp hn) (good_of hp (wide_len (g := g) hn)) hk
theorem led_zero (hp : PrimeI p) (hn : ∀ r ∈ t, r.length = n) (hg : g.length = t.length) {k : Nat} (hk : k < n) (h : k ∉ (Gf.steps p (invP p) n t).places) :
    Gf.at' (Gf.ledV n (Gf.steps p (invP p) (n + 1) (wideT t g)).found (Gf.steps p (invP p) (n + 1) (wideT t g)).places) k = 0 := by
  rw [ledV_at hk]
  cases e : Gf.idx (Gf.steps p (invP p) (n + 1) (wideT t g)).places k with
  | none => rfl
  | some i => exact absurd ((wide_places_iff hp hn hg hk).mp (List.mem_of_getElem? (Gf.idx_some e))) h
theorem led_rank (hp : PrimeI p) (hn : ∀ r ∈ t, r.length = n) (hg : g.length = t.length) : (Gf.steps p (invP p) (n + 1) (wideT t g)).places.length = (Gf.steps p (invP p) n t).places.length + if n ∈ (Gf.steps p (invP p) (n + 1) (wideT t g)).places then 1 else 0 :=
  Gf.wide_one hp.1 hn (Gf.wideW_wide hg) (good_of hp hn) (good_of hp (wide_len (g := g) hn))
theorem led_rest (hp : PrimeI p) (hn : ∀ r ∈ t, r.length = n) : ∀ a ∈ Gf.ledV n (Gf.steps p (invP p) (n + 1) (wideT t g)).found (Gf.steps p (invP p) (n + 1) (wideT t g)).places, 0 ≤ a ∧ a < p := by
  have G := good_of hp (wide_len (g := g) hn)
  have hp1 := hp.1
  intro a ha
  obtain ⟨k, hk, rfl⟩ := List.mem_map.mp ha
  split
  · rename_i i hi
    obtain ⟨r, hr⟩ := G.ech.row (Gf.idx_some hi)
    have : (Gf.steps p (invP p) (n + 1) (wideT t g)).found.getD i [] = r := by rw [List.getD_eq_getElem?_getD, hr]; rfl
    show 0 ≤ Gf.at' ((Gf.steps p (invP p) (n + 1) (wideT t g)).found.getD i []) n ∧ Gf.at' ((Gf.steps p (invP p) (n + 1) (wideT t g)).found.getD i []) n < p
    rw [this]
    exact (G.ech.rest r (List.mem_of_getElem? hr)).2 n
  · show (0 : Int) ≤ 0 ∧ (0 : Int) < p
    omega
/-- rows told in another order, with more of what they make: the same steps -/
theorem same_steps {u : List (List Int)} (hp : PrimeI p) (hn : ∀ r ∈ t, r.length = n) (hu : ∀ r ∈ u, r.length = n) (h : ∀ x, Gf.Ker p n u x ↔ Gf.Ker p n t x) : (Gf.steps p (invP p) n u).found = (Gf.steps p (invP p) n t).found ∧ (Gf.steps p (invP p) n u).places = (Gf.steps p (invP p) n t).places := by
  have G := good_of hp hn
  have G' := good_of hp hu
  exact Gf.ech_unique hp.1 G'.ech G.ech fun x => by rw [G'.ker, G.ker, h]
def identT (n : Nat) : List (List Int) := (List.range n).map fun i => (List.range n).map fun j => if i = j then 1 else 0
theorem undone_none (hp : PrimeI p) (hn : ∀ r ∈ t, r.length = t.length) : (Gf.steps p (invP p) (t.length + t.length) (augT t)).places = List.range t.length ↔ (Gf.steps p (invP p) t.length t).places.length = t.length :=
  Gf.undone_iff hp.1 hn rfl (good_of hp hn) (good_of hp (aug_len hn))
theorem rank_le (hp : PrimeI p) (hn : ∀ r ∈ t, r.length = n) : (Gf.steps p (invP p) n t).places.length ≤ t.length := by
  have G := good_of hp hn
  have := G.cnt
  have := G.ech.len
  omega
theorem at_colsmap {u : List (List Int)} {m k : Nat} {f : List Int → Int} (hk : k < m) : Gf.at' ((colsOf u m).map f) k = f (u.map fun r => Gf.at' r k) := by
  show (List.map f (colsOf u m)).getD k 0 = _
  have : (colsOf u m)[k]? = some (u.map fun r => Gf.at' r k) := by
    unfold colsOf
    rw [List.getElem?_map, List.getElem?_range hk]; rfl
  rw [List.getD_eq_getElem?_getD, List.getElem?_map, this]; rfl
theorem undone_prod (hp : PrimeI p) (hn : ∀ r ∈ t, r.length = t.length) (h : (Gf.steps p (invP p) (t.length + t.length) (augT t)).places = List.range t.length) :
    ((Gf.steps p (invP p) (t.length + t.length) (augT t)).found.map fun r => r.drop t.length).length = t.length ∧
    (∀ r ∈ (Gf.steps p (invP p) (t.length + t.length) (augT t)).found.map fun r => r.drop t.length, r.length = t.length ∧ ∀ a ∈ r, 0 ≤ a ∧ a < p) ∧
    (t.map fun r => (colsOf ((Gf.steps p (invP p) (t.length + t.length) (augT t)).found.map fun r => r.drop t.length) t.length).map fun c => dotz r c % p) = identT t.length ∧
    (((Gf.steps p (invP p) (t.length + t.length) (augT t)).found.map fun r => r.drop t.length).map fun r => (colsOf t t.length).map fun c => dotz r c % p) = identT t.length := by
  have G := good_of hp (aug_len hn)
  rw [h] at G
  have hp1 := hp.1
  generalize (Gf.steps p (invP p) (t.length + t.length) (augT t)).found = F at G
  obtain ⟨h1, h2⟩ := Gf.undone_right hp1 hn rfl G
  have hF : F.length = t.length := by have := G.ech.len; rwa [List.length_range] at this
  have hrow : ∀ r ∈ F, r.length = t.length + t.length := fun r hr => (G.ech.rest r hr).1
  have hdl : ∀ r ∈ F, (r.drop t.length).length = t.length := fun r hr => by rw [List.length_drop, hrow r hr]; omega
  have hdat : ∀ (r : List Int) j, Gf.at' (r.drop t.length) j = Gf.at' r (t.length + j) := fun r j => by
    unfold Gf.at'
    rw [List.getD_eq_getElem?_getD, List.getD_eq_getElem?_getD, List.getElem?_drop]
  have fin : ∀ (A : List (List Int)) (f : Nat → Nat → Int), A.length = t.length → (∀ r ∈ A, r.length = t.length) → (∀ i k, i < t.length → k < t.length → Gf.at' (A.getD i []) k = if i = k then 1 else 0) → A = identT t.length := by
    intro A f hA hr he
    refine List.ext_getElem (by simp [identT, hA]) fun i hi1 hi2 => ?_
    have eA : A[i] = A.getD i [] := by simp [List.getD_eq_getElem?_getD, List.getElem?_eq_getElem hi1]
    have eI : (identT t.length)[i] = (List.range t.length).map fun j => if i = j then 1 else 0 := by simp [identT]
    rw [eA, eI]
    refine Gf.vec_ext (n := t.length) (by rw [← eA]; exact hr _ (List.getElem_mem hi1)) (by simp) fun k hk => ?_
    rw [he i k (by omega) hk]
    show _ = ((List.range t.length).map _).getD k 0
    simp [List.getD_eq_getElem?_getD, List.getElem?_map, List.getElem?_range hk]
  refine ⟨by rw [List.length_map, hF], fun r hr => ?_, ?_, ?_⟩
  · obtain ⟨q, hq, rfl⟩ := List.mem_map.mp hr
    refine ⟨hdl q hq, fun a ha => ?_⟩
    have := List.mem_of_mem_drop ha
    obtain ⟨j, hj⟩ := List.mem_iff_getElem?.mp this
    have b := (G.ech.rest q hq).2 j
    have e : Gf.at' q j = a := by simp [Gf.at', List.getD_eq_getElem?_getD, hj]
    rwa [e] at b
  · refine fin _ (fun _ _ => 0) (by simp) (fun r hr => ?_) fun i k hi hk => ?_
    · obtain ⟨q, hq, rfl⟩ := List.mem_map.mp hr
      simp [colsOf]
    · have hti : t[i]? = some t[i] := List.getElem?_eq_getElem hi
      have e1 : (t.map fun r => (colsOf (F.map fun r => r.drop t.length) t.length).map fun c => dotz r c % p).getD i [] = (colsOf (F.map fun r => r.drop t.length) t.length).map fun c => dotz t[i] c % p := by
        simp [List.getD_eq_getElem?_getD, List.getElem?_map, hti]
      rw [e1]
      have e2 : Gf.at' ((colsOf (F.map fun r => r.drop t.length) t.length).map fun c => dotz t[i] c % p) k = dotz t[i] ((F.map fun r => r.drop t.length).map fun r => Gf.at' r k) % p := by
        exact at_colsmap hk
      rw [e2, dotz_dot (hn _ (List.getElem_mem hi)) (by simp [hF])]
      have e3 : Gf.dot t.length t[i] ((F.map fun r => r.drop t.length).map fun r => Gf.at' r k) = Gf.sumN t.length fun j => Gf.at' t[i] j * Gf.at' (F.getD j []) (t.length + k) := by
        refine Gf.sumN_congr fun j hj => ?_
        congr 1
        have hFj : F[j]? = some F[j] := List.getElem?_eq_getElem (by omega)
        have : Gf.at' ((F.map fun r => r.drop t.length).map fun r => Gf.at' r k) j = Gf.at' (F[j].drop t.length) k := by
          show (List.map _ _).getD j 0 = _
          rw [List.getD_eq_getElem?_getD, List.getElem?_map, List.getElem?_map, hFj]; rfl
        rw [this, hdat]
        rw [List.getD_eq_getElem?_getD, hFj]; rfl
      rw [e3]
      have h3 := h1 i t[i] k hti hk
      have h4 := Gf.emod_eq_of_dvd h3
      rw [h4]
      split
      · exact Int.emod_eq_of_lt (by omega) hp1
      · exact Int.zero_emod p
  · refine fin _ (fun _ _ => 0) (by simp [hF]) (fun r hr => ?_) fun i k hi hk => ?_
    · obtain ⟨q, hq, rfl⟩ := List.mem_map.mp hr
      simp [colsOf]
    · have hFi : F[i]? = some F[i] := List.getElem?_eq_getElem (by omega)
      have e1 : ((F.map fun r => r.drop t.length).map fun r => (colsOf t t.length).map fun c => dotz r c % p).getD i [] = (colsOf t t.length).map fun c => dotz (F[i].drop t.length) c % p := by
        rw [List.getD_eq_getElem?_getD, List.getElem?_map, List.getElem?_map, hFi]; rfl
      rw [e1]
      have e2 : Gf.at' ((colsOf t t.length).map fun c => dotz (F[i].drop t.length) c % p) k = dotz (F[i].drop t.length) (t.map fun r => Gf.at' r k) % p := by
        exact at_colsmap hk
      rw [e2, dotz_dot (hdl _ (List.mem_of_getElem? hFi)) (by simp)]
      have e3 : Gf.dot t.length (F[i].drop t.length) (t.map fun r => Gf.at' r k) = Gf.sumN t.length fun j => Gf.at' F[i] (t.length + j) * Gf.at' (t.getD j []) k := by
        refine Gf.sumN_congr fun j hj => ?_
        have htj : t[j]? = some t[j] := List.getElem?_eq_getElem hj
        rw [hdat]
        congr 1
        show (List.map _ _).getD j 0 = _
        rw [List.getD_eq_getElem?_getD, List.getElem?_map, htj, List.getD_eq_getElem?_getD, htj]; rfl
      rw [e3]
      have h3 := h2 i F[i] k hFi hk
      have h4 := Gf.emod_eq_of_dvd h3
      rw [h4]
      split
      · exact Int.emod_eq_of_lt (by omega) hp1
      · exact Int.zero_emod p
end
end Pd
end
section
open Pd
local macro_rules
  | `(tactic| fail) => `(tactic| with_reducible first
  | refine w_seq ?_ | refine w_asgN ?_ | refine w_var (by with_unfolding_all rfl) ?_ | refine w_c ?_ | refine w_bin ?_ | refine w_call ?_ | refine w_cons ?_ | refine w_nil ?_
  | refine w_callN (by with_unfolding_all rfl) ?_ | refine w_if ?_ | refine w_ret ?_ | refine w_exp ?_ | refine w_nx ?_ | refine w_ct ?_ | refine w_bk ?_ | refine w_retN ?_
  | refine w_tst ?_ | refine w_not ?_ | refine w_and ?_ | refine w_or ?_ | refine w_andD ?_ | refine w_orD ?_ | refine w_notD ?_ | refine w_blD ?_ | refine w_ifD ?_ | refine w_tru ?_ | refine w_ch ?_
  | refine w_stL ?_ | refine w_tup ?_ | refine w_lst ?_ | refine w_newDict ?_ | refine w_boxDict ?_ | refine w_newDisp ?_ | refine w_newEmp ?_ | refine w_boxEmp ?_ | refine w_pairC ?_ | refine w_pair0 ?_ | refine w_newL ?_ | refine w_boxL ?_ | refine w_frz ?_ | refine w_un ?_ | refine w_meth0 ?_ | refine w_methB ?_ | refine w_noO ?_ | refine w_someO ?_ | refine w_slice ?_ | refine w_rev ?_ | refine w_revT ?_
  | refine w_seqSt ?_ | refine w_zipSt ?_ | refine w_enSt ?_ | refine w_tupRg1 ?_ | refine w_lstRg1 ?_ | refine w_lstRg2 ?_ | refine w_rng1 ?_ | refine w_rng2 ?_ | refine w_lcD ?_ | refine w_asg ?_ | refine w_par ?_ | refine w_aug ?_ | refine w_set ?_ | refine w_for ?_
  | refine w_addI ?_ | refine w_subI ?_ | refine w_cmp ?_ | refine w_neg ?_ | refine w_ipAdd ?_ | refine w_eqI ?_ | refine w_neI ?_ | refine w_eqS ?_ | refine w_neS ?_ | refine w_int ?_ | refine w_intB ?_ | refine w_abs ?_ | refine w_max2 ?_ | refine w_min2 ?_ | refine w_gcd ?_
  | refine w_ok ?_ | refine And.intro (Nat.le_of_ble_eq_true (by with_unfolding_all rfl)) ?_ | refine And.intro (sm_le (by with_unfolding_all rfl)) ?_ | refine and_fix (by with_unfolding_all rfl) ?_ | refine Exists.intro _ (And.intro (by with_unfolding_all rfl) ?_))
namespace Pd
open PySem PySem.Spec L2
theorem w_cut {N N' : Sl → Mu → Prop} {T : D → Mu → Prop} {B C : Sl → Mu → Prop} {X : Exn → Sl → Mu → Prop} {o : Option OutS} (h : wS N' T B C X o) (hn : ∀ sl μ, N' sl μ → N sl μ) : wS N T B C X o :=
  wS_imp h hn (fun _ _ h => h) (fun _ _ h => h) (fun _ _ h => h) (fun _ _ _ h => h)
/-- the law gives True -/
abbrev fin (o : Option OutS) : Prop := wS (fun _ _ => D.non = D.bl true) (fun d _ => d = .bl true) (fun _ _ => False) (fun _ _ => False) (fun x _ μ => nE x μ) o
end Pd
namespace Kn
open PySem PySem.Spec L2 Pd
noncomputable def tl31 : DS := (retS (orD (binD isD (varD 21) (cD .non)) (binD eqD (callB dcRepr (consL (newD (lstD (consL (callB (callN 3 Pd.f_product_at) (consL (varD 20) (consL (varD 21) (consL (varD 2) nilL)))) (consL (callB (callN 3 Pd.f_product_at) (consL (varD 21) (consL (varD 20) (consL (varD 2) nilL)))) nilL)))) nilL)) (callB dcRepr (consL (newD (lstD (consL (varD 22) (consL (varD 22) nilL)))) nilL)))))
noncomputable def tl30 : DS := (seqS (asgS (callB (callN 1 Pd.f__law_one) (consL (varD 4) nilL)) (.nm 22))
    tl31)
noncomputable def tl29 : DS := (seqS (ifS (tstD (binD neD (binD isD (varD 21) (cD .non)) (binD (cmpI fun i j => decide (i < j)) (callB (callN 2 Pd.f__law_rank) (consL (varD 20) (consL (varD 2) nilL))) (varD 4))))
    (retS (cD (.bl false)))
    nxS)
    tl30)
noncomputable def tl28 : DS := (seqS (asgS (callB (callN 2 Pd.f_undone_at) (consL (varD 20) (consL (varD 2) nilL))) (.nm 21))
    tl29)
noncomputable def tl27 : DS := (seqS (asgS (callB (callN 4 Pd.f__law_drawn) (consL (varD 1) (consL (varD 4) (consL (varD 4) (consL (newD (lstD (consL (cD (.int 0)) (consL (cD (.int 1)) (consL (cD (.int 1)) (consL (unD negI (cD (.int 1))) (consL (cD (.int 2)) (consL (varD 2) (consL (cD (.int 3)) nilL))))))))) nilL))))) (.nm 20))
    tl28)
noncomputable def tl26 : DS := (seqS (ifS (tstD (binD neD (callB dcRepr (consL (callB (callN 3 Pd.f_product_at) (consL (varD 5) (consL (varD 18) (consL (varD 2) nilL)))) nilL)) (callB dcRepr (consL (varD 19) nilL))))
    (retS (cD (.bl false)))
    nxS)
    tl27)
noncomputable def tl25 : DS := (seqS (asgS (callB dcTuple (consL (newD (lcD [8] (seqSrc' (callB (callN 2 Pd.f__law_product) (consL (varD 5) (consL (varD 18) nilL)))) (.nm 8) yesB (callB dcTuple (consL (newD (lcD [6] (seqSrc' (varD 8)) (.nm 6) yesB (binD modI (callB dcInt (consL (varD 6) nilL)) (varD 2)))) nilL)))) nilL)) (.nm 19))
    tl26)
noncomputable def tl24 : DS := (seqS (asgS (callB (callN 4 Pd.f__law_drawn) (consL (varD 1) (consL (varD 4) (consL (binD addD (cD (.int 1)) (callB (callN 2 Pd.f__law_pick) (consL (varD 1) (consL (cD (.int 3)) nilL)))) (consL (newD (lstD (consL (cD (.int 0)) (consL (cD (.int 1)) (consL (cD (.int 2)) (consL (unD negI (cD (.int 3))) (consL (binD subI (varD 2) (cD (.int 1))) nilL))))))) nilL))))) (.nm 18))
    tl25)
noncomputable def tl23 : DS := (seqS (ifS (andB (tstD (binD isnotD (varD 15) (cD .non))) (tstD (binD neD (callB (callN 3 Pd.f__law_led) (consL (varD 5) (consL (varD 15) (consL (varD 2) nilL)))) (callB dcTuple (consL (newD (lcD [6] (seqSrc' (varD 16)) (.nm 6) yesB (binD modI (callB dcInt (consL (varD 6) nilL)) (varD 2)))) nilL)))))
    (retS (cD (.bl false)))
    nxS)
    tl24)
noncomputable def tl22 : DS := (seqS (ifS (tstD (binD neD (binD isD (varD 15) (cD .non)) (binD (cmpI fun i j => decide (j < i)) (callB (callN 2 Pd.f__law_rank) (consL (varD 17) (consL (varD 2) nilL))) (varD 9))))
    (retS (cD (.bl false)))
    nxS)
    tl23)
noncomputable def tl21 : DS := (seqS (asgS (callB (callN 4 Pd.f_led_to) (consL (varD 5) (consL (varD 16) (consL (varD 2) (consL (varD 4) nilL))))) (.nm 15))
    tl22)
noncomputable def tl20 : DS := (seqS (asgS (callB dcTuple (consL (newD (lcD [8, 6] (zipSrc false (consL (varD 5) (consL (varD 16) nilL))) (.tp [(.nm 8), (.nm 6)]) yesB (binD addD (varD 8) (tupD (consL (varD 6) nilL))))) nilL)) (.nm 17))
    tl21)
noncomputable def tl19 : DS := (seqS (asgS (callB dcTuple (consL (newD (lcD [8] (seqSrc' (varD 5)) (.nm 8) yesB (callB (callN 2 Pd.f__law_pick) (consL (varD 1) (consL (cD (.int 4)) nilL))))) nilL)) (.nm 16))
    tl20)
noncomputable def tl18 : DS := (seqS (ifS (tstD (binD neD (newD (lcD [13] (rngSrc1 (consL (varD 4) nilL)) (.nm 13) (andB (tstD (binD (inD true) (varD 13) (varD 11))) (tstD (binD neD (binD ixD (varD 15) (varD 13)) (cD (.int 0))))) (binD ixD (varD 15) (varD 13)))) (newD (lstD nilL))))
    (retS (cD (.bl false)))
    nxS)
    tl19)
noncomputable def tl17 : DS := (seqS (ifS (orB (tstD (binD isD (varD 15) (cD .non))) (tstD (binD neD (callB (callN 3 Pd.f__law_led) (consL (varD 5) (consL (varD 15) (consL (varD 2) nilL)))) (varD 14))))
    (retS (cD (.bl false)))
    nxS)
    tl18)
noncomputable def tl16 : DS := (seqS (asgS (callB (callN 4 Pd.f_led_to) (consL (varD 5) (consL (varD 14) (consL (varD 2) (consL (varD 4) nilL))))) (.nm 15))
    tl17)
noncomputable def tl15 : DS := (seqS (ifS (tstD (binD neD (callB dcRepr (consL (varD 14) nilL)) (callB dcRepr (consL (callB (callN 3 Pd.f__law_led) (consL (varD 5) (consL (varD 12) (consL (varD 2) nilL)))) nilL))))
    (retS (cD (.bl false)))
    nxS)
    tl16)
noncomputable def tl14 : DS := (seqS (asgS (callB (callN 3 Pd.f_thing_led) (consL (varD 5) (consL (varD 12) (consL (varD 2) nilL)))) (.nm 14))
    tl15)
noncomputable def tl13 : DS := (seqS (asgS (callB dcTuple (consL (newD (lcD [13] (rngSrc1 (consL (varD 4) nilL)) (.nm 13) yesB (binD subI (callB (callN 2 Pd.f__law_pick) (consL (varD 1) (consL (cD (.int 9)) nilL))) (cD (.int 4))))) nilL)) (.nm 12))
    tl14)
noncomputable def tl12 : DS := (seqS (ifS (tstD (binD eqD (varD 3) (cD (.int 0))))
    (retS (andD (binD eqD (callB dcRepr (consL (callB (callN 4 Pd.f_led_to) (consL (tupD nilL) (consL (tupD nilL) (consL (varD 2) (consL (varD 4) nilL))))) nilL)) (callB dcRepr (consL (binD mulX (tupD (consL (cD (.int 0)) nilL)) (varD 4)) nilL))) (binD eqD (callB (callN 2 Pd.f_steps_at) (consL (tupD nilL) (consL (varD 2) nilL))) (tupD (consL (tupD nilL) (consL (tupD nilL) nilL))))))
    nxS)
    tl13)
noncomputable def tl11 : DS := (seqS (ifS (andB (tstD (binD (cmpI fun i j => decide (j < i)) (varD 3) (cD (.int 0)))) (tstD (binD neD (callB (callN 2 Pd.f__law_rank) (consL (binD addD (varD 5) (callB dcTuple (consL (varD 10) nilL))) (consL (varD 2) nilL))) (varD 9))))
    (retS (cD (.bl false)))
    nxS)
    tl12)
noncomputable def tl10 : DS := (seqS (ifS (tstD (binD neD (callB dcRepr (consL (callB (callN 2 Pd.f_steps_at) (consL (revT (varD 5)) (consL (varD 2) nilL))) nilL)) (callB dcRepr (consL (tupD (consL (varD 10) (consL (varD 11) nilL))) nilL))))
    (retS (cD (.bl false)))
    nxS)
    tl11)
noncomputable def tl9 : DS := (seqS (ifS (orB (notB (truB (callB (callN 4 Pd.f__law_steps_right) (consL (varD 10) (consL (varD 11) (consL (varD 4) (consL (varD 2) nilL))))))) (notB (truB (callB (callN 5 f__law_made_right) (consL (varD 1) (consL (varD 5) (consL (varD 2) (consL (varD 4) (consL (varD 11) nilL)))))))))
    (retS (cD (.bl false)))
    nxS)
    tl10)
noncomputable def tl8 : DS := (seqS (ifS (orB (tstD (binD neD (callB dcRepr (consL (callB (callN 2 Pd.f_table_rests) (consL (varD 5) (consL (varD 2) nilL))) nilL)) (callB dcRepr (consL (varD 7) nilL)))) (orB (tstD (binD neD (callB (callN 2 Pd.f_rank_at) (consL (varD 5) (consL (varD 2) nilL))) (varD 9))) (tstD (binD neD (callB dcLen (consL (varD 10) nilL)) (varD 9)))))
    (retS (cD (.bl false)))
    nxS)
    tl9)
noncomputable def tl7 : DS := (seqS (asgS (callB (callN 2 Pd.f_steps_at) (consL (varD 5) (consL (varD 2) nilL))) (.tp [(.nm 10), (.nm 11)]))
    tl8)
noncomputable def tl6 : DS := (seqS (asgS (ifD (tstD (binD (cmpI fun i j => decide (j < i)) (varD 3) (cD (.int 0)))) (callB (callN 2 Pd.f__law_rank) (consL (varD 5) (consL (varD 2) nilL))) (cD (.int 0))) (.nm 9))
    tl7)
noncomputable def tl5 : DS := (seqS (asgS (callB dcTuple (consL (newD (lcD [8] (seqSrc' (varD 5)) (.nm 8) yesB (callB dcTuple (consL (newD (lcD [6] (seqSrc' (varD 8)) (.nm 6) yesB (binD modI (callB dcInt (consL (varD 6) nilL)) (varD 2)))) nilL)))) nilL)) (.nm 7))
    tl6)
noncomputable def tl4 : DS := (seqS (ifS (andB (tstD (binD (cmpI fun i j => decide (j < i)) (varD 3) (cD (.int 1)))) (tstD (binD eqD (callB (callN 2 Pd.f__law_pick) (consL (varD 1) (consL (cD (.int 2)) nilL))) (cD (.int 0)))))
    (asgS (binD addD (sliceD (varD 5) noO (someO (unD negI (cD (.int 1))))) (tupD (consL (callB dcTuple (consL (newD (lcD [6] (seqSrc' (binD ixD (varD 5) (cD (.int 0)))) (.nm 6) yesB (binD mulX (cD (.int 2)) (varD 6)))) nilL)) nilL))) (.nm 5))
    nxS)
    tl5)
noncomputable def tl3 : DS := (seqS (asgS (callB (callN 4 Pd.f__law_drawn) (consL (varD 1) (consL (varD 3) (consL (varD 4) (consL (newD (lstD (consL (cD (.int 0)) (consL (cD (.int 0)) (consL (cD (.int 1)) (consL (unD negI (cD (.int 1))) (consL (cD (.int 2)) (consL (cD (.int 3)) (consL (varD 2) (consL (cD (.int 5)) (consL (unD negI (varD 2)) (consL (cD (.int 6)) (consL (binD addD (varD 2) (cD (.int 1))) nilL))))))))))))) nilL))))) (.nm 5))
    tl4)
noncomputable def tl2 : DS := (seqS (parS [3, 4] (consL (callB (callN 2 Pd.f__law_pick) (consL (varD 1) (consL (cD (.int 6)) nilL))) (consL (binD addD (cD (.int 1)) (callB (callN 2 Pd.f__law_pick) (consL (varD 1) (consL (cD (.int 6)) nilL)))) nilL)))
    tl3)
noncomputable def tl1 : DS := (seqS (asgS (callB (callN 2 Pd.f__law_of) (consL (varD 1) (consL (newD (lstD (consL (cD (.int 2)) (consL (cD (.int 2)) (consL (cD (.int 3)) (consL (cD (.int 3)) (consL (cD (.int 5)) (consL (cD (.int 7)) (consL (cD (.int 13)) (consL (cD (.int 101)) (consL (cD (.int 9973)) (consL (cD (.int 999999937)) nilL)))))))))))) nilL))) (.nm 2))
    tl2)
noncomputable def tl0 : DS := (seqS (asgS (callB (callN 1 Pd.f__law_source) (consL (varD 0) nilL)) (.nm 1))
    tl1)
theorem tleq : b_law = tl0 := rfl
/-- what is told of the drawing -/
structure Dr (p : Int) (r n : Nat) (T : List (List Int)) : Prop where
  hP : PrimeI p
  hp2 : p < 2 ^ 32
  hr : r ≤ 5
  hn1 : 1 ≤ n
  hn6 : n ≤ 6
  hTr : T.length = r
  hTn : ∀ q ∈ T, q.length = n
  hT36 : ∀ q ∈ T, ∀ a ∈ q, a.natAbs < 2 ^ 36
section
variable {p : Int} {r n : Nat} {T : List (List Int)}
theorem Dr.sm (h : Dr p r n T) : ∀ q ∈ T, Small q := fun q hq a ha => by have := h.hT36 q hq a ha; omega
theorem Dr.good (h : Dr p r n T) : Gf.Good p n T (Gf.steps p (invP p) n T).found (Gf.steps p (invP p) n T).places := good_of h.hP h.hTn
theorem Dr.fl (h : Dr p r n T) : (Gf.steps p (invP p) n T).found.length ≤ 5 ∧ (Gf.steps p (invP p) n T).places.length ≤ 5 ∧ (Gf.steps p (invP p) n T).found.length = (Gf.steps p (invP p) n T).places.length := by
  have G := h.good
  have h1 := G.cnt
  have h2 := G.ech.len
  have h3 := h.hTr
  have h4 := h.hr
  omega
theorem rest_b {q : List Int} (hp2 : p < 2 ^ 32) (hn6 : n ≤ 6) (hq : Gf.Rest p n q) : q.length ≤ 6 ∧ B64 q := ⟨by rw [hq.1]; omega, fun a ha => by have := rest_small hp2 hq a ha; omega⟩
theorem szFP (h : Dr p r n T) : ∃ q, Sz (.tup [tabD (Gf.steps p (invP p) n T).found, natsD (Gf.steps p (invP p) n T).places]) q (((68 * 6 + 5) * (Gf.steps p (invP p) n T).found.length + 3) + (68 * (Gf.steps p (invP p) n T).places.length + 3) + 7) :=
  ⟨_, sz_tup2 (sz_tab fun q hq => rest_b h.hp2 h.hn6 (h.good.ech.rest q hq)) (sz_nats fun k hk => by have h1 := h.good.ech.lt k hk; have := h.hn6; omega) ⟨(pn_tab _).mono, (pn_nats _).mono⟩⟩
end
abbrev S0 (x0 : D) (p : Int) (r n : Nat) (T : List (List Int)) (o6 o7 o8 o9 o10 o11 o12 o13 o14 o15 o16 o17 o18 o19 o20 o21 o22 : Option D) : Sl := [some x0, some (.ref 1), some (.int p), some (.int (r : Nat)), some (.int (n : Nat)), some (tabD T), o6, o7, o8, o9, o10, o11, o12, o13, o14, o15, o16, o17, o18, o19, o20, o21, o22]
section
variable {p : Int} {r n : Nat} {T : List (List Int)} {μ : Mu} {x0 : D} {o6 o7 o8 o9 o10 o11 o12 o13 o14 o15 o16 o17 o18 o19 o20 o21 o22 : Option D} {m : Nat}
/-- the end: a square one undone -/
theorem st25 (h : Dr p r n T) (s : Sr 140 1 0 μ) : fin (tl27 (S0 x0 p r n T o6 o7 o8 o9 o10 o11 o12 o13 o14 o15 o16 o17 o18 o19 o20 o21 o22) μ) := by
  have hp1 := h.hP.1
  have hp2 := h.hp2
  have hn6 := h.hn6
  have hn1 := h.hn1
  have hP := h.hP
  clear h
  unfold tl27
  (repeat fail)
  have hnn : n * n ≤ 36 := Nat.le_trans (Nat.mul_le_mul hn6 hn6) (by decide)
  refine w_drawn (vs := [0, 1, 1, -1, 2, p, 3]) s (by omega) (by simp) (by simp) (by omega) (by omega) fun U μ1 hU1 hU2 s1 _ => ?_
  have hUn : ∀ q ∈ U, q.length = U.length := fun q hq => by rw [(hU2 q hq).1, hU1]
  have hUs : ∀ q ∈ U, Small q := fun q hq a ha => by
    have := (hU2 q hq).2 a ha
    simp only [List.mem_cons, List.not_mem_nil, or_false] at this
    omega
  clear hnn
  subst hU1
  obtain ⟨xs, e1⟩ := undone_at_ok (μ := μ1) (d := tabD U) rfl rfl hUn hP hp2 (by omega)
  unfold tl28
  (repeat fail)
  refine w_is e1 ?_
  obtain ⟨ys, e2⟩ := law_rank_ok (μ := μ1 ++ xs) hUn hP hp2 (by omega) (by omega) (fun z => by rw [z] at hn1; exact absurd hn1 (by decide))
  have hiff := undone_none hP hUn
  have hle := rank_le hP hUn
  have hprod := undone_prod hP hUn
  unfold tl29
  by_cases hd : (Gf.steps p (invP p) (U.length + U.length) (augT U)).places = List.range U.length
  · rw [if_pos hd]
    have hrk := hiff.mp hd
    obtain ⟨b1, b2, b3, b4⟩ := hprod hd
    generalize ((Gf.steps p (invP p) (U.length + U.length) (augT U)).found.map fun r => r.drop U.length) = V at b1 b2 b3 b4
    have hVs : ∀ q ∈ V, Small q := fun q hq a ha => by have := (b2 q hq).2 a ha; omega
    have hV0 : V ≠ [] := fun z => by rw [z] at b1; simp at b1; omega
    have hU0 : U ≠ [] := fun z => by rw [z] at hn1; exact absurd hn1 (by decide)
    (repeat fail)
    refine w_is (a := D.bl false) (μ := μ1 ++ xs) rfl ?_
    (repeat fail)
    refine w_is e2 ?_
    (repeat fail)
    rw [hrk, decide_eq_false (Int.lt_irrefl _)]
    refine w_neBB ?_
    (repeat fail)
    refine w_ifF (by simp) ?_
    unfold tl30
    (repeat fail)
    refine w_is (law_one_ok (by omega)) ?_
    unfold tl31
    (repeat fail)
    refine w_is (a := D.bl false) (μ := μ1 ++ xs ++ ys) rfl ?_
    (repeat fail)
    refine w_ifF Bool.false_ne_true ?_
    have p1 := product_at_ok (p := p) (μ := μ1 ++ xs ++ ys) (d := tabD U) (d2 := tabD V) (t := U) (u := V) (m := U.length) rfl rfl rfl rfl (fun q hq => by rw [hUn q hq, b1]) (fun q hq => (b2 q hq).1) hUs hVs (by omega) hV0 (by omega) (by omega) (by omega)
    rw [b3] at p1
    have p2 := product_at_ok (p := p) (μ := μ1 ++ xs ++ ys) (d := tabD V) (d2 := tabD U) (t := V) (u := U) (m := U.length) rfl rfl rfl rfl (fun q hq => (b2 q hq).1) hUn hVs hUs (by omega) hU0 (by omega) (by omega) (by omega)
    rw [b4] at p2
    have szI : Sz (tabD (identT U.length)) _ _ := sz_tab (n := 6) fun q hq => by
      obtain ⟨i, _, rfl⟩ := List.mem_map.mp hq
      refine ⟨by simp; omega, fun a ha => ?_⟩
      obtain ⟨j, _, rfl⟩ := List.mem_map.mp ha
      show (if i = j then (1 : Int) else 0).natAbs < _
      split <;> decide
    have szII : Sz (.lst [tabD (identT U.length), tabD (identT U.length)]) _ _ := sz_lst2 szI szI ⟨(pn_tab _).mono, (pn_tab _).mono⟩
    have hil : (identT U.length).length = U.length := by simp [identT]
    (repeat fail)
    refine w_is p1 ?_
    (repeat fail)
    refine w_is p2 ?_
    (repeat fail)
    refine w_repr szII (by omega) ?_
    (repeat fail)
    refine w_repr szII (by omega) ?_
    (repeat fail)
    simp
  · rw [if_neg hd]
    have hrk : (Gf.steps p (invP p) U.length U).places.length < U.length := by
      have : (Gf.steps p (invP p) U.length U).places.length ≠ U.length := fun z => hd (hiff.mpr z)
      omega
    (repeat fail)
    refine w_is (a := D.bl true) (μ := μ1 ++ xs) rfl ?_
    (repeat fail)
    refine w_is e2 ?_
    (repeat fail)
    rw [decide_eq_true (by omega)]
    refine w_neBB ?_
    (repeat fail)
    refine w_ifF (by simp) ?_
    unfold tl30
    (repeat fail)
    refine w_is (law_one_ok (by omega)) ?_
    unfold tl31
    (repeat fail)
    refine w_is (a := D.bl true) (μ := μ1 ++ xs ++ ys) rfl ?_
    (repeat fail)
    exact w_ifT rfl rfl
theorem st24 (h : Dr p r n T) (hr0 : 0 < r) (s : Sr 100 1 0 μ) : fin (tl24 (S0 x0 p r n T o6 o7 o8 o9 o10 o11 o12 o13 o14 o15 o16 o17 o18 o19 o20 o21 o22) μ) := by
  have hp1 := h.hP.1
  have hp2 := h.hp2
  have hn6 := h.hn6
  have hn1 := h.hn1
  have hr := h.hr
  have hTr := h.hTr
  have hTn := h.hTn
  have hTs := h.sm
  unfold tl24
  (repeat fail)
  refine w_pick s (by omega) (by decide) fun k μ1 s1 _ hk => ?_
  (repeat fail)
  obtain ⟨m, em⟩ : ∃ m : Nat, m = 1 + k := ⟨_, rfl⟩
  rw [show (1 : Int) + ((k : Nat) : Int) = ((m : Nat) : Int) by omega]
  have hm3 : m ≤ 3 := by omega
  have hnm : n * m ≤ 18 := Nat.le_trans (Nat.mul_le_mul hn6 hm3) (by decide)
  refine w_drawn (vs := [0, 1, 2, -3, p - 1]) s1 (by omega) (by simp) (by simp) (by omega) (by omega) fun U μ2 hU1 hU2 s2 _ => ?_
  have hUn : ∀ q ∈ U, q.length = m := fun q hq => (hU2 q hq).1
  have hUs : ∀ q ∈ U, Small q := fun q hq a ha => by
    have := (hU2 q hq).2 a ha
    simp only [List.mem_cons, List.not_mem_nil, or_false] at this
    omega
  have hU0 : U ≠ [] := fun z => by rw [z] at hU1; simp at hU1; omega
  have s2 := s2.mono (B' := 119) (by omega)
  clear hU2 hk em hnm s1 s
  unfold tl25
  obtain ⟨xs, e1⟩ := law_product_ok (μ := μ2) (t := T) (u := U) (m := m) (fun q hq => by rw [hTn q hq, hU1]) hUn hTs hUs hU0 (by omega) (by omega) (by omega)
  (repeat fail)
  refine w_is e1 ?_
  (repeat fail)
  have hcl : (colsOf U m).length = m := by simp [colsOf]
  refine w_mapT (T.map fun q => (colsOf U m).map fun c => dotz q c) vecD (fun q => vecD (q.map (· % p))) rfl (fun q hq => ⟨_, rfl, wQ_is ?_⟩) (by rw [List.length_map]; omega) ?_
  · obtain ⟨q', _, rfl⟩ := List.mem_map.mp hq
    (repeat fail)
    refine w_mapT ((colsOf U m).map fun c => dotz q' c) D.int (fun a => D.int (a % p)) rfl (fun a ha => ⟨_, rfl, wQ_is ?_⟩) (by rw [List.length_map]; omega) ?_
    · (repeat fail)
      refine w_mod (by omega) ?_
      rw [fmod_pos _ (by omega)]; exact ⟨rfl, rfl⟩
    · (repeat fail)
      refine w_tuple rfl ⟨?_, rfl⟩
      simp only [vecD, List.map_map]; rfl
  (repeat fail)
  refine w_tuple rfl ?_
  have e2 : D.tup ((T.map fun q => (colsOf U m).map fun c => dotz q c).map fun q => vecD (q.map (· % p))) = tabD (T.map fun q => (colsOf U m).map fun c => dotz q c % p) := by
    simp only [tabD, List.map_map]
    congr 1
    refine List.map_congr_left fun q _ => ?_
    simp only [Function.comp, List.map_map]; rfl
  rw [e2]
  unfold tl26
  have e3 := product_at_ok (p := p) (μ := μ2 ++ xs) (d := tabD T) (d2 := tabD U) (t := T) (u := U) (m := m) rfl rfl rfl rfl (fun q hq => by rw [hTn q hq, hU1]) hUn hTs hUs (by omega) hU0 (by omega) (by omega) (by omega)
  have sz : Sz (tabD (T.map fun q => (colsOf U m).map fun c => dotz q c % p)) _ _ := sz_tab (n := 3) fun q hq => by
    obtain ⟨q', _, rfl⟩ := List.mem_map.mp hq
    refine ⟨by rw [List.length_map]; omega, fun a ha => ?_⟩
    obtain ⟨c, _, rfl⟩ := List.mem_map.mp ha
    have := Int.emod_nonneg (dotz q' c) (b := p) (by omega)
    have := Int.emod_lt_of_pos (dotz q' c) (b := p) (by omega)
    show (dotz q' c % p).natAbs < _
    omega
  (repeat fail)
  refine w_is e3 ?_
  (repeat fail)
  refine w_repr sz (by rw [List.length_map]; omega) ?_
  (repeat fail)
  refine w_repr sz (by rw [List.length_map]; omega) ?_
  (repeat fail)
  refine w_ifF (by simp) ?_
  (repeat fail)
  exact st25 h ((s2.app xs).mono (by omega))
theorem st21 (h : Dr p r n T) (hr0 : 0 < r) (s : Sr 80 1 0 μ) (h9 : o9 = some (.int ((Gf.steps p (invP p) n T).places.length : Nat))) {y : List Int} (hyl : y.length = r) (hyB : ∀ a ∈ y, a.natAbs < 10) (h16 : o16 = some (vecD y)) (h17 : o17 = some (tabD (wideT T y))) : fin (tl21 (S0 x0 p r n T o6 o7 o8 o9 o10 o11 o12 o13 o14 o15 o16 o17 o18 o19 o20 o21 o22) μ) := by
  have hP := h.hP
  have hp1 := h.hP.1
  have hp2 := h.hp2
  have hn6 := h.hn6
  have hn1 := h.hn1
  have hr := h.hr
  have hTr := h.hTr
  have hTn := h.hTn
  have hTs := h.sm
  have hyT : y.length = T.length := by omega
  subst h9; subst h16; subst h17
  obtain ⟨ys2, k2⟩ := led_to_ok (μ := μ) (d := tabD T) (d2 := vecD y) (t := T) (n := n) (g := y) rfl rfl rfl rfl hTn hyT hP hp2 (by omega) (by omega)
  have hwl : (wideT T y).length ≤ 5 := by simp only [wideT, List.length_map, List.length_zip]; omega
  have hw0 : wideT T y ≠ [] := fun z => by
    have : (wideT T y).length = 0 := by rw [z]; rfl
    simp only [wideT, List.length_map, List.length_zip] at this; omega
  obtain ⟨ys3, k3⟩ := law_rank_ok (μ := μ ++ ys2) (wide_len (g := y) hTn) hP hp2 (by omega) (by omega) hw0
  have lr := led_rank hP hTn hyT
  have kf2 := led_facts (g := y) hP hTn hyT
  have kr2 := led_rest (g := y) hP hTn
  have vl2 : (Gf.ledV n (Gf.steps p (invP p) (n + 1) (wideT T y)).found (Gf.steps p (invP p) (n + 1) (wideT T y)).places).length = n := Gf.putP_len
  generalize Gf.ledV n (Gf.steps p (invP p) (n + 1) (wideT T y)).found (Gf.steps p (invP p) (n + 1) (wideT T y)).places = v2 at k2 kf2 kr2 vl2
  generalize (Gf.steps p (invP p) (n + 1) (wideT T y)).places = P2 at k2 k3 lr kf2
  have hv2s : Small v2 := fun a ha => by have := kr2 a ha; omega
  have sE := ((s.app ys2).app ys3).mono (B' := 100) (by omega)
  unfold tl21
  (repeat fail)
  refine w_is k2 ?_
  unfold tl22
  by_cases hd : n ∈ P2
  · rw [if_pos hd]
    rw [if_pos hd] at lr
    (repeat fail)
    refine w_is (a := D.bl true) (μ := μ ++ ys2) rfl ?_
    (repeat fail)
    refine w_is k3 ?_
    (repeat fail)
    rw [decide_eq_true (by omega)]
    refine w_neBB ?_
    (repeat fail)
    refine w_ifF (by simp) ?_
    unfold tl23
    (repeat fail)
    refine w_is (a := D.bl false) (μ := μ ++ ys2 ++ ys3) rfl ?_
    (repeat fail)
    refine w_ifF Bool.false_ne_true ?_
    refine w_ifF Bool.false_ne_true ?_
    (repeat fail)
    exact st24 h hr0 sE
  · rw [if_neg hd]
    rw [if_neg hd] at lr
    have kf := kf2 hd
    (repeat fail)
    refine w_is (a := D.bl false) (μ := μ ++ ys2) rfl ?_
    (repeat fail)
    refine w_is k3 ?_
    (repeat fail)
    rw [decide_eq_false (by omega)]
    refine w_neBB ?_
    (repeat fail)
    refine w_ifF (by simp) ?_
    unfold tl23
    (repeat fail)
    refine w_is (a := D.bl true) (μ := μ ++ ys2 ++ ys3) rfl ?_
    (repeat fail)
    refine w_ifT rfl ?_
    have el := law_led_ok (p := p) (μ := μ ++ ys2 ++ ys3) (x := v2) (by omega) hTn hTs hv2s (by omega) (by omega)
    rw [kf] at el
    (repeat fail)
    refine w_is el ?_
    (repeat fail)
    refine w_mapT y D.int (fun a => D.int (a % p)) rfl (fun a ha => ⟨_, rfl, wQ_is ?_⟩) (by omega) ?_
    · (repeat fail)
      refine w_mod (by omega) ?_
      rw [fmod_pos _ (by omega)]; exact ⟨rfl, rfl⟩
    (repeat fail)
    refine w_tuple rfl ?_
    have e5 : D.tup (y.map fun a => D.int (a % p)) = vecD (y.map (· % p)) := by
      unfold vecD; rw [List.map_map]; rfl
    rw [e5]
    refine w_neSelf (pn_vec _).pl ?_
    (repeat fail)
    refine w_ifF Bool.false_ne_true ?_
    (repeat fail)
    exact st24 h hr0 sE
theorem st19 (h : Dr p r n T) (hr0 : 0 < r) (s : Sr 70 1 0 μ) (h9 : o9 = some (.int ((Gf.steps p (invP p) n T).places.length : Nat))) : fin (tl19 (S0 x0 p r n T o6 o7 o8 o9 o10 o11 o12 o13 o14 o15 o16 o17 o18 o19 o20 o21 o22) μ) := by
  have hn6 := h.hn6
  have hr := h.hr
  have hTr := h.hTr
  have hTn := h.hTn
  unfold tl19
  (repeat fail)
  have hTl : (Src.st (T.map vecD)).ds.length = r := by show (T.map vecD).length = r; rw [List.length_map]; exact hTr
  refine w_mapI (fun i acc μ' => ∃ v : List Int, acc = v.map D.int ∧ v.length = i ∧ (∀ a ∈ v, a.natAbs < 10) ∧ (i ≤ r → Sr (70 + i) 1 0 μ')) ⟨[], rfl, rfl, by simp, fun _ => s⟩ (fun i d acc μ2 hi ⟨v, f1, f2, f3, f4⟩ => ?_) (fun j acc μ' ⟨T, e1, e2, _⟩ => by rw [e1, List.length_map, e2]) (by rw [hTl]; omega) fun acc μ12 ⟨y, g1, hyl, g3, g4⟩ => ?_
  · have hir : i < r := by
      have := (List.getElem?_eq_some_iff.mp hi).1
      omega
    refine ⟨_, rfl, ?_⟩
    (repeat fail)
    refine w_pick (f4 (by omega)) (by omega) (by decide) fun a μ3 hs3 hf ha => ?_
    refine ⟨v ++ [((a : Nat) : Int)], by rw [f1, List.map_append]; rfl, by simp [f2], fun b hb => ?_, fun _ => hs3⟩
    rcases List.mem_append.mp hb with hb | hb
    · exact f3 b hb
    · rw [List.mem_singleton.mp hb]; omega
  rw [hTl] at hyl g4
  have s13 := (g4 (Nat.le_refl _)).mono (B' := 80) (by omega)
  clear g4 s
  (repeat fail)
  refine w_tuple rfl ?_
  rw [g1]
  unfold tl20
  (repeat fail)
  refine ⟨_, _, _, _, rfl, rfl, rfl, ⟨rfl, rfl⟩, ⟨fun h => Bool.noConfusion h, ?_⟩⟩
  refine w_mapT (T.zip y) (fun q => .tup [vecD q.1, .int q.2]) (fun q => vecD (q.1 ++ [q.2])) (zipD_map vecD D.int T y) (fun q hq => ⟨_, rfl, wQ_is ?_⟩) (by rw [List.length_zip]; omega) ?_
  · (repeat fail)
    have := hTn q.1 (List.of_mem_zip hq).1
    refine w_addT (by rw [List.length_map, sizeLine_eq]; simp only [List.length_cons, List.length_nil]; omega) ⟨?_, rfl⟩
    simp only [vecD, List.map_append]; rfl
  (repeat fail)
  refine w_tuple rfl ?_
  have ew : D.tup ((T.zip y).map fun q => vecD (q.1 ++ [q.2])) = tabD (wideT T y) := by
    simp only [tabD, wideT, List.map_map]; rfl
  rw [ew]
  exact st21 h hr0 s13 h9 hyl g3 rfl rfl
theorem st13 (h : Dr p r n T) (hr0 : 0 < r) (s : Sr 50 1 0 μ) (h9 : o9 = some (.int ((Gf.steps p (invP p) n T).places.length : Nat))) (h11 : o11 = some (natsD (Gf.steps p (invP p) n T).places)) : fin (tl13 (S0 x0 p r n T o6 o7 o8 o9 o10 o11 o12 o13 o14 o15 o16 o17 o18 o19 o20 o21 o22) μ) := by
  have hP := h.hP
  have hp1 := h.hP.1
  have hp0 : 0 < p := by omega
  have hp2 := h.hp2
  have hn6 := h.hn6
  have hr := h.hr
  have hTr := h.hTr
  have hTn := h.hTn
  have hTs := h.sm
  unfold tl13
  (repeat fail)
  refine ⟨by omega, ?_⟩
  have hnl : (Src.st (rngD 0 ((n : Nat) : Int).toNat)).ds.length = n := rngD_len n
  refine w_mapI (fun i acc μ' => ∃ v : List Int, acc = v.map D.int ∧ v.length = i ∧ (∀ a ∈ v, a.natAbs < 10) ∧ (i ≤ n → Sr (50 + i) 1 0 μ')) ⟨[], rfl, rfl, by simp, fun _ => s⟩ (fun i d acc μ2 hi ⟨v, f1, f2, f3, f4⟩ => ⟨_, rfl, ?_⟩) (fun j acc μ' ⟨T, e1, e2, _⟩ => by rw [e1, List.length_map, e2]) (by rw [hnl]; omega) fun acc μ11 ⟨x, f1, hxl, f3, f4⟩ => ?_
  · obtain ⟨hin, rfl⟩ := rngD_at hi
    have hin : i < n := hin
    (repeat fail)
    refine w_pick (f4 (by omega)) (by omega) (by decide) fun a μ3 hs3 hf ha => ?_
    (repeat fail)
    refine ⟨v ++ [((a : Nat) : Int) - 4], by rw [f1, List.map_append]; rfl, by simp [f2], fun b hb => ?_, fun _ => hs3⟩
    rcases List.mem_append.mp hb with hb | hb
    · exact f3 b hb
    · rw [List.mem_singleton.mp hb]; omega
  rw [hnl] at hxl f4
  have s11 := (f4 (Nat.le_refl _)).mono (B' := 60) (by omega)
  have hxs : Small x := fun a ha => by have := f3 a ha; omega
  clear f4 s
  (repeat fail)
  refine w_tuple rfl ?_
  rw [f1]
  unfold tl14
  (repeat fail)
  obtain ⟨g, eg⟩ : ∃ g, (T.map fun q => dotz q x % p) = g := ⟨_, rfl⟩
  have hgl : g.length = T.length := by rw [← eg, List.length_map]
  have hgr : ∀ a ∈ g, 0 ≤ a ∧ a < p := fun a ha => by
    rw [← eg] at ha
    obtain ⟨q, _, rfl⟩ := List.mem_map.mp ha
    exact ⟨Int.emod_nonneg _ (by omega), Int.emod_lt_of_pos _ hp0⟩
  have hgm : g.map (· % p) = g := by
    refine List.ext_getElem (by simp) fun i h1 h2 => ?_
    rw [List.getElem_map]
    exact Int.emod_eq_of_lt (hgr _ (List.getElem_mem h2)).1 (hgr _ (List.getElem_mem h2)).2
  have et := thing_led_ok (μ := μ11) (d := tabD T) (d2 := vecD x) rfl rfl rfl rfl hTn hxl hTs hxs hp0 (by omega) (by omega)
  rw [eg] at et
  refine w_is et ?_
  unfold tl15
  (repeat fail)
  have szg : Sz (vecD g) _ _ := sz_vec fun a ha => by have := hgr a ha; omega
  refine w_repr szg (by omega) ?_
  have el := law_led_ok (μ := μ11) hp0 hTn hTs hxs (by omega) (by omega)
  rw [eg] at el
  (repeat fail)
  refine w_is el ?_
  (repeat fail)
  refine w_repr szg (by omega) ?_
  (repeat fail)
  refine w_ifF (by simp) ?_
  obtain ⟨ys1, k1⟩ := led_to_ok (μ := μ11) (d := tabD T) (d2 := vecD g) (t := T) (n := n) (g := g) rfl rfl rfl rfl hTn hgl hP hp2 (by omega) (by omega)
  have hno := led_some hP hTn hxl
  rw [eg] at hno
  rw [if_neg hno] at k1
  have kf := led_facts hP hTn hgl hno
  rw [hgm] at kf
  have kr := led_rest (g := g) hP hTn
  have kz : ∀ k, k < n → k ∉ (Gf.steps p (invP p) n T).places → Gf.at' (Gf.ledV n (Gf.steps p (invP p) (n + 1) (wideT T g)).found (Gf.steps p (invP p) (n + 1) (wideT T g)).places) k = 0 := fun k hk hkP => led_zero hP hTn hgl hk hkP
  have vl : (Gf.ledV n (Gf.steps p (invP p) (n + 1) (wideT T g)).found (Gf.steps p (invP p) (n + 1) (wideT T g)).places).length = n := Gf.putP_len
  generalize Gf.ledV n (Gf.steps p (invP p) (n + 1) (wideT T g)).found (Gf.steps p (invP p) (n + 1) (wideT T g)).places = v at k1 kf kr kz vl
  have hvs : Small v := fun a ha => by have := kr a ha; omega
  unfold tl16
  (repeat fail)
  refine w_is k1 ?_
  unfold tl17
  (repeat fail)
  refine w_is (a := D.bl false) (μ := μ11 ++ ys1) rfl ?_
  (repeat fail)
  refine w_ifF Bool.false_ne_true ?_
  have el2 := law_led_ok (μ := μ11 ++ ys1) hp0 hTn hTs hvs (by omega) (by omega)
  rw [kf] at el2
  (repeat fail)
  refine w_is el2 ?_
  (repeat fail)
  refine w_neSelf (pn_vec g).pl ?_
  (repeat fail)
  refine w_ifF Bool.false_ne_true ?_
  unfold tl18
  subst h11
  (repeat fail)
  refine ⟨by omega, ?_⟩
  refine w_noneT (List.range n) (fun k => D.int (k : Nat)) (by rw [Int.toNat_natCast]; exact rngD_map n) (fun k hk => ⟨_, rfl, wQ_is ?_⟩) ?_
  · have hk := List.mem_range.mp hk
    (repeat fail)
    refine w_inInts (ns := (Gf.steps p (invP p) n T).places.map fun k => ((k : Nat) : Int)) (by show some _ = _; rw [nats_eq]) (fun z => by intro h; cases h) ?_
    rw [if_pos rfl]
    (repeat fail)
    refine w_ifBl (fun h => ?_) (fun h => ⟨rfl, rfl⟩)
    have hkP : k ∉ (Gf.steps p (invP p) n T).places := by
      intro hm
      rw [decide_eq_true (mem_nats.mpr hm)] at h
      exact Bool.noConfusion h
    (repeat fail)
    refine w_ix rfl (at_get (r := v) (j := k) (by omega)) ?_
    rw [kz k hk hkP]
    (repeat fail)
    exact ⟨rfl, rfl⟩
  (repeat fail)
  refine w_neNilN ?_
  (repeat fail)
  refine w_ifF Bool.false_ne_true ?_
  (repeat fail)
  exact st19 h hr0 ((s11.app ys1).mono (by omega)) h9
theorem st12 (h : Dr p r n T) (s : Sr 50 1 0 μ) (h9 : o9 = some (.int ((Gf.steps p (invP p) n T).places.length : Nat))) (h11 : o11 = some (natsD (Gf.steps p (invP p) n T).places)) : fin (tl12 (S0 x0 p r n T o6 o7 o8 o9 o10 o11 o12 o13 o14 o15 o16 o17 o18 o19 o20 o21 o22) μ) := by
  have hP := h.hP
  have hp2 := h.hp2
  have hn6 := h.hn6
  unfold tl12
  (repeat fail)
  refine w_ifBl (fun h1 => ?_) (fun h1 => ?_)
  · obtain ⟨ys, f1⟩ := led_to_ok (μ := μ) (d := .tup []) (d2 := .tup []) (t := []) (n := n) (g := []) rfl rfl rfl rfl (by simp) rfl hP hp2 (by omega) (by decide)
    have ew : wideT [] [] = [] := rfl
    rw [ew, steps_nil] at f1
    have f1 : Pd.f_led_to [.tup [], .tup [], .int p, .int (n : Nat)] μ = ok (vecD (Gf.ledV n [] [])) (μ ++ ys) := f1
    obtain ⟨zs, f2⟩ := steps_at_ok (μ := μ ++ ys) (d := .tup []) (t := []) (n := n) rfl rfl (by simp) hP hp2 (by omega) (by decide)
    rw [steps_nil] at f2
    have hz0 : Gf.ledV n [] [] = List.replicate n 0 := by
      unfold Gf.ledV Gf.putP
      rw [List.eq_replicate_iff]
      refine ⟨by simp, fun b hb => ?_⟩
      obtain ⟨k, _, rfl⟩ := List.mem_map.mp hb
      rfl
    have hm : mulX (.tup [.int 0]) (.int (n : Nat)) (μ ++ ys) = ok (vecD (List.replicate n 0)) (μ ++ ys) := by
      show mulT (.tup [.int 0]) (.int (n : Nat)) (μ ++ ys) = _
      unfold mulT
      simp only []
      rw [if_pos ⟨by omega, by omega, by decide⟩, Int.toNat_natCast]
      have : ∀ m : Nat, (List.replicate m [D.int 0]).flatten = (List.replicate m (0 : Int)).map D.int := by
        intro m
        induction m with
        | zero => rfl
        | succ m ih => rw [List.replicate_succ, List.flatten_cons, ih, List.replicate_succ]; rfl
      rw [this]; rfl
    have sz0 : Sz (vecD (List.replicate n 0)) _ _ := sz_vec fun a ha => by rw [(List.mem_replicate.mp ha).2]; decide
    (repeat fail)
    refine w_is f1 ?_
    rw [hz0]
    (repeat fail)
    refine w_repr sz0 (by rw [List.length_replicate]; omega) ?_
    (repeat fail)
    refine w_is hm ?_
    (repeat fail)
    refine w_repr sz0 (by rw [List.length_replicate]; omega) ?_
    (repeat fail)
    refine w_ifT (by simp) ?_
    (repeat fail)
    refine w_is f2 ?_
    (repeat fail)
    have pl2 : Pl (.tup [tabD [], natsD []]) (.tuple [.tuple [], .tuple []]) := ⟨rfl, rfl, by simp [PyData.depth, PyData.depthAll]⟩
    exact w_eqSelf pl2 rfl
  · have h1 : ¬ ((r : Nat) : Int) = 0 := of_decide_eq_false h1
    (repeat fail)
    exact st13 h (by omega) s h9 h11
theorem st10 (h : Dr p r n T) (s : Sr 50 1 0 μ) (h9 : o9 = some (.int ((Gf.steps p (invP p) n T).places.length : Nat))) (h10 : o10 = some (tabD (Gf.steps p (invP p) n T).found)) (h11 : o11 = some (natsD (Gf.steps p (invP p) n T).places)) : fin (tl10 (S0 x0 p r n T o6 o7 o8 o9 o10 o11 o12 o13 o14 o15 o16 o17 o18 o19 o20 o21 o22) μ) := by
  have hP := h.hP
  have hp2 := h.hp2
  have hn6 := h.hn6
  have hr := h.hr
  have hTr := h.hTr
  have hTn := h.hTn
  have G := h.good
  obtain ⟨sq, sFP⟩ := szFP h
  have hfl := h.fl
  have h9' := h9
  have h11' := h11
  subst h9; subst h10; subst h11
  have hKrev : ∀ x, Gf.Ker p n T.reverse x ↔ Gf.Ker p n T x := fun x => by
    unfold Gf.Ker; simp
  obtain ⟨q1, q2⟩ := same_steps hP hTn (fun q hq => hTn q (List.mem_reverse.mp hq)) hKrev
  obtain ⟨xs3, e3⟩ := steps_at_ok (μ := μ) (d := .tup (T.map vecD).reverse) (t := T.reverse) (n := n) rfl (by show some _ = _; rw [List.map_reverse]) (fun q hq => hTn q (List.mem_reverse.mp hq)) hP hp2 (by omega) (by rw [List.length_reverse]; omega)
  rw [q1, q2] at e3
  unfold tl10
  (repeat fail)
  refine w_is e3 ?_
  (repeat fail)
  refine w_repr sFP (by omega) ?_
  (repeat fail)
  refine w_repr sFP (by omega) ?_
  (repeat fail)
  refine w_ifF (by simp) ?_
  unfold tl11
  (repeat fail)
  refine w_ifBl (fun h1 => ?_) (fun h1 => ?_)
  · have h1 : (0 : Int) < ((r : Nat) : Int) := of_decide_eq_true h1
    have hTF : ∀ q ∈ T ++ (Gf.steps p (invP p) n T).found, q.length = n := fun q hq => by
      rcases List.mem_append.mp hq with hq | hq
      · exact hTn q hq
      · exact (G.ech.rest q hq).1
    have hK : ∀ x, Gf.Ker p n (T ++ (Gf.steps p (invP p) n T).found) x ↔ Gf.Ker p n T x := fun x => by
      constructor
      · exact fun h q hq => h q (List.mem_append_left _ hq)
      · intro h q hq
        rcases List.mem_append.mp hq with hq | hq
        · exact h q hq
        · exact (G.ker x).mpr h q hq
    obtain ⟨_, q4⟩ := same_steps hP hTn hTF hK
    obtain ⟨xs, e4⟩ := law_rank_ok (μ := μ ++ xs3) hTF hP hp2 (by omega) (by rw [List.length_append]; omega) (fun z => by
      have : (T ++ (Gf.steps p (invP p) n T).found).length = 0 := by rw [z]; rfl
      rw [List.length_append] at this; omega)
    rw [q4] at e4
    (repeat fail)
    refine w_tuple rfl ?_
    (repeat fail)
    refine w_addT (by rw [List.length_map, List.length_map, sizeLine_eq]; omega) ?_
    have et : D.tup (T.map vecD ++ (Gf.steps p (invP p) n T).found.map vecD) = tabD (T ++ (Gf.steps p (invP p) n T).found) := by simp only [tabD, List.map_append]
    rw [et]
    (repeat fail)
    refine w_is e4 ?_
    (repeat fail)
    refine w_ifF (by simp) ?_
    (repeat fail)
    exact st12 h ((s.app xs3).app xs) h9' h11'
  · refine w_ifF Bool.false_ne_true ?_
    (repeat fail)
    exact st12 h (s.app xs3) h9' h11'
theorem st5 (h : Dr p r n T) (s : Sr 40 1 0 μ) : fin (tl5 (S0 x0 p r n T o6 o7 o8 o9 o10 o11 o12 o13 o14 o15 o16 o17 o18 o19 o20 o21 o22) μ) := by
  have hP := h.hP
  have hp1 := h.hP.1
  have hp0 : 0 < p := by omega
  have hp2 := h.hp2
  have hn6 := h.hn6
  have hr := h.hr
  have hTr := h.hTr
  have hTn := h.hTn
  have hTs := h.sm
  have hfl := h.fl
  have G := h.good
  unfold tl5
  (repeat fail)
  refine w_mapT T vecD (fun q => vecD (q.map (· % p))) rfl (fun q hq => ⟨_, rfl, wQ_is ?_⟩) (by omega) ?_
  · (repeat fail)
    refine w_mapT q D.int (fun a => D.int (a % p)) rfl (fun a ha => ⟨_, rfl, wQ_is ?_⟩) (by rw [hTn q hq]; omega) ?_
    · (repeat fail)
      refine w_mod (by omega) ?_
      rw [fmod_pos _ hp0]; exact ⟨rfl, rfl⟩
    · (repeat fail)
      refine w_tuple rfl ⟨?_, rfl⟩
      simp only [vecD, List.map_map]; rfl
  (repeat fail)
  refine w_tuple rfl ?_
  have er : D.tup (T.map fun q => vecD (q.map (· % p))) = tabD (Gf.rests p T) := by
    simp only [tabD, Gf.rests, List.map_map]; rfl
  rw [er]
  have hrest : ∀ q ∈ Gf.rests p T, q.length ≤ 6 ∧ B64 q := fun q hq => by
    obtain ⟨q', hq', rfl⟩ := List.mem_map.mp hq
    refine ⟨by rw [List.length_map, hTn q' hq']; omega, fun a ha => ?_⟩
    obtain ⟨b, hb, rfl⟩ := List.mem_map.mp ha
    have := Int.emod_nonneg b (b := p) (by omega)
    have := Int.emod_lt_of_pos b hp0
    show (b % p).natAbs < _
    omega
  have hrestl : (Gf.rests p T).length ≤ 5 := by simp [Gf.rests]; omega
  have go : ∀ μ (o6 o8 o12 o13 o14 o15 o16 o17 o18 o19 o20 o21 o22 : Option D) , Sr 40 1 0 μ → fin (tl7 (S0 x0 p r n T o6 (some (tabD (Gf.rests p T))) o8 (some (.int ((Gf.steps p (invP p) n T).places.length : Nat))) o10 o11 o12 o13 o14 o15 o16 o17 o18 o19 o20 o21 o22) μ) := by
    intro μ o6 o8 o12 o13 o14 o15 o16 o17 o18 o19 o20 o21 o22 s
    obtain ⟨xs1, e1⟩ := steps_at_ok (μ := μ) (d := tabD T) rfl rfl hTn hP hp2 (by omega) (by omega)
    unfold tl7
    (repeat fail)
    refine w_is e1 ?_
    unfold tl8
    (repeat fail)
    refine w_is (table_rests_ok (d := tabD T) rfl rfl hp0 (by omega) fun q hq => by rw [hTn q hq]; omega) ?_
    (repeat fail)
    have srest := sz_tab hrest
    refine w_repr srest (by omega) ?_
    (repeat fail)
    refine w_repr srest (by omega) ?_
    (repeat fail)
    refine w_ifF (by simp) ?_
    obtain ⟨xs2, e2⟩ := rank_at_ok (μ := μ ++ xs1) (d := tabD T) rfl rfl hTn hP hp2 (by omega) (by omega)
    (repeat fail)
    refine w_is e2 ?_
    (repeat fail)
    refine w_ifF (by simp) ?_
    (repeat fail)
    refine w_len (xs := (Gf.steps p (invP p) n T).found.map vecD) rfl ?_
    (repeat fail)
    refine w_ifF (by simp [hfl.2.2]) ?_
    unfold tl9
    (repeat fail)
    refine w_is (steps_right_ok G.ech (by omega) (by omega) hp0) ?_
    (repeat fail)
    refine w_ifF (by simp) ?_
    (repeat fail)
    have s7 := (s.app xs1).app xs2
    refine made_right_ok s7 (by omega) hTn hTs hP hp2 (by omega) (by omega) fun μ7 s8 => ?_
    have s8 := s8.mono (B' := 50) (by omega)
    (repeat fail)
    refine w_ifF (by simp) ?_
    (repeat fail)
    exact st10 h s8 rfl rfl rfl
  unfold tl6
  (repeat fail)
  refine w_ifBl (fun h1 => ?_) (fun h1 => ?_)
  · have h1 : (0 : Int) < ((r : Nat) : Int) := of_decide_eq_true h1
    obtain ⟨xs, e1⟩ := law_rank_ok (μ := μ) hTn hP hp2 (by omega) (by omega) (fun z => by rw [z] at hTr; simp at hTr; omega)
    (repeat fail)
    refine w_is e1 ?_
    exact go _ _ _ _ _ _ _ _ _ _ _ _ _ _ (s.app xs)
  · (repeat fail)
    have h1 : ¬ (0 : Int) < ((r : Nat) : Int) := of_decide_eq_false h1
    have hT0 : T = [] := List.length_eq_zero_iff.mp (by omega)
    have : (Gf.steps p (invP p) n T).places = [] := by rw [hT0, steps_nil]
    have go := go μ
    rw [this] at go
    exact go _ _ _ _ _ _ _ _ _ _ _ _ _ s
end
end Kn
end
section
open Pd
local macro_rules
  | `(tactic| fail) => `(tactic| with_reducible first
  | refine w_seq ?_ | refine w_asgN ?_ | refine w_var (by with_unfolding_all rfl) ?_ | refine w_c ?_ | refine w_bin ?_ | refine w_call ?_ | refine w_cons ?_ | refine w_nil ?_
  | refine w_callN (by with_unfolding_all rfl) ?_ | refine w_if ?_ | refine w_ret ?_ | refine w_exp ?_ | refine w_nx ?_ | refine w_ct ?_ | refine w_bk ?_ | refine w_retN ?_
  | refine w_tst ?_ | refine w_not ?_ | refine w_and ?_ | refine w_or ?_ | refine w_andD ?_ | refine w_orD ?_ | refine w_notD ?_ | refine w_blD ?_ | refine w_ifD ?_ | refine w_tru ?_ | refine w_ch ?_
  | refine w_stL ?_ | refine w_tup ?_ | refine w_lst ?_ | refine w_newDict ?_ | refine w_boxDict ?_ | refine w_newDisp ?_ | refine w_newEmp ?_ | refine w_boxEmp ?_ | refine w_pairC ?_ | refine w_pair0 ?_ | refine w_newL ?_ | refine w_boxL ?_ | refine w_frz ?_ | refine w_un ?_ | refine w_meth0 ?_ | refine w_methB ?_ | refine w_noO ?_ | refine w_someO ?_ | refine w_slice ?_ | refine w_rev ?_ | refine w_revT ?_
  | refine w_seqSt ?_ | refine w_zipSt ?_ | refine w_enSt ?_ | refine w_tupRg1 ?_ | refine w_lstRg1 ?_ | refine w_lstRg2 ?_ | refine w_rng1 ?_ | refine w_rng2 ?_ | refine w_lcD ?_ | refine w_asg ?_ | refine w_par ?_ | refine w_aug ?_ | refine w_set ?_ | refine w_for ?_
  | refine w_addI ?_ | refine w_subI ?_ | refine w_cmp ?_ | refine w_neg ?_ | refine w_ipAdd ?_ | refine w_eqI ?_ | refine w_neI ?_ | refine w_eqS ?_ | refine w_neS ?_ | refine w_int ?_ | refine w_intB ?_ | refine w_abs ?_ | refine w_max2 ?_ | refine w_min2 ?_ | refine w_gcd ?_
  | refine w_ok ?_ | refine And.intro (Nat.le_of_ble_eq_true (by with_unfolding_all rfl)) ?_ | refine And.intro (sm_le (by with_unfolding_all rfl)) ?_ | refine and_fix (by with_unfolding_all rfl) ?_ | refine Exists.intro _ (And.intro (by with_unfolding_all rfl) ?_))
namespace Kn
open PySem PySem.Spec L2 Pd
theorem law_ok : LawD 63 f_law := by
  intro ns hn hz
  have hzl := sizeLine_eq
  suffices h : wQ nE (fun d _ => d = .bl true) (f_law [.lst (ns.map D.int)] []) by
    obtain ⟨d, μ', e, rfl⟩ := wQ_ex h
    exact ⟨μ', e⟩
  obtain ⟨μ, e, s0⟩ := Sr.start ns (by omega) hz
  refine w_body ?_
  show wS _ _ _ _ _ (b_law [some (.lst (ns.map D.int)), none, none, none, none, none, none, none, none, none, none, none, none, none, none, none, none, none, none, none, none, none, none] [])
  rw [tleq]
  unfold tl0
  (repeat fail)
  refine w_is e ?_
  unfold tl1
  (repeat fail)
  refine w_of s0 (by omega) (by simp) (by decide) fun x μ1 hx s1 _ => ?_
  obtain ⟨p, hp, rfl⟩ : ∃ p ∈ ([2, 2, 3, 3, 5, 7, 13, 101, 9973, 999999937] : List Int), D.int p = x := List.mem_map.mp hx
  obtain ⟨hP, hp2⟩ := primes15 p hp
  have hp1 := hP.1
  unfold tl2
  (repeat fail)
  refine w_pick s1 (by omega) (by decide) fun r μ2 s2 _ hr => ?_
  (repeat fail)
  refine w_pick s2 (by omega) (by decide) fun n0 μ3 s3 _ hn0 => ?_
  have hr : r ≤ 5 := by omega
  have hn0 : n0 ≤ 5 := by omega
  (repeat fail)
  obtain ⟨n, en⟩ : ∃ n : Nat, n = 1 + n0 := ⟨_, rfl⟩
  rw [show (1 : Int) + ((n0 : Nat) : Int) = ((n : Nat) : Int) by omega]
  have hn6 : n ≤ 6 := by omega
  have hrn : r * n ≤ 30 := Nat.le_trans (Nat.mul_le_mul hr hn6) (by decide)
  unfold tl3
  (repeat fail)
  refine w_drawn (vs := [0, 0, 1, -1, 2, 3, p, 5, -p, 6, p + 1]) s3 (by omega) (by simp) (by simp) (by omega) (by omega) fun T μ4 hT1 hT2 s4 _ => ?_
  have hTs : ∀ q ∈ T, ∀ a ∈ q, a.natAbs < 2 ^ 34 := fun q hq a ha => by
    have := (hT2 q hq).2 a ha
    simp only [List.mem_cons, List.not_mem_nil, or_false] at this
    omega
  unfold tl4
  (repeat fail)
  refine w_ifBl (fun h1 => ?_) (fun h1 => ?_)
  · (repeat fail)
    refine w_pick s4 (by omega) (by decide) fun k μ5 s5 _ hk => ?_
    (repeat fail)
    have h1 : (1 : Int) < ((r : Nat) : Int) := of_decide_eq_true h1
    refine w_ifBl (fun h2 => ?_) (fun h2 => ?_)
    · (repeat fail)
      have hcut : slD (tabD T) none (some (-1)) μ5 = ok (tabD T.dropLast) μ5 := by
        show ok (D.tup (cutD (T.map vecD) none (some (-1)))) μ5 = _
        have : cutD (T.map vecD) none (some (-1)) = (T.map vecD).dropLast := by
          unfold cutD
          rw [HT.sIx_none, List.drop_zero, Nat.sub_zero, List.dropLast_eq_take]
          congr 1
          have : ∀ m : Nat, HT.sIx m m (some (-1)) = m - 1 := fun m => by
            unfold HT.sIx
            simp only []
            rw [if_pos (by decide)]
            omega
          exact this _
        rw [this, tabD, List.map_dropLast]
      refine w_is hcut ?_
      (repeat fail)
      obtain ⟨t0, ht0⟩ : ∃ t0, T[0]? = some t0 := ⟨T[0], List.getElem?_eq_getElem (by omega)⟩
      have ht0m := List.mem_of_getElem? ht0
      refine w_ixL (k := 0) (xs := T.map vecD) (x := vecD t0) rfl (by show atI _ ((0 : Nat) : Int) = _; exact atI_nat (by rw [List.getElem?_map, ht0]; rfl)) ?_
      (repeat fail)
      refine w_mapT t0 D.int (fun a => D.int (2 * a)) rfl (fun a ha => ⟨_, rfl, wQ_is ?_⟩) (by rw [(hT2 t0 ht0m).1]; omega) ?_
      · have := hTs t0 ht0m a ha
        (repeat fail)
        refine w_mulX (mulOk32 (by decide) (by omega)) ?_
        exact ⟨rfl, rfl⟩
      (repeat fail)
      refine w_tuple rfl ?_
      (repeat fail)
      refine w_addT (by simp only [List.length_map, List.length_dropLast, List.length_cons, List.length_nil]; omega) ?_
      have et : D.tup (T.dropLast.map vecD ++ [D.tup (t0.map fun a => D.int (2 * a))]) = tabD (T.dropLast ++ [t0.map (2 * ·)]) := by
        simp only [tabD, List.map_append, List.map_cons, List.map_nil, vecD, List.map_map]; rfl
      rw [et]
      refine st5 ⟨hP, hp2, hr, by omega, hn6, ?_, fun q hq => ?_, fun q hq a ha => ?_⟩ (s5.mono (by omega))
      · simp only [List.length_append, List.length_dropLast, List.length_cons, List.length_nil]; omega
      · rcases List.mem_append.mp hq with hq | hq
        · exact (hT2 q (List.dropLast_subset _ hq)).1
        · rw [List.mem_singleton.mp hq, List.length_map, (hT2 t0 ht0m).1]
      · rcases List.mem_append.mp hq with hq | hq
        · have := hTs q (List.dropLast_subset _ hq) a ha; omega
        · rw [List.mem_singleton.mp hq] at ha
          obtain ⟨b, hb, rfl⟩ := List.mem_map.mp ha
          have := hTs t0 ht0m b hb
          show (2 * b).natAbs < _
          omega
    · (repeat fail)
      exact st5 ⟨hP, hp2, hr, by omega, hn6, hT1, fun q hq => (hT2 q hq).1, fun q hq a ha => by have := hTs q hq a ha; omega⟩ (s5.mono (by omega))
  · refine w_ifF Bool.false_ne_true ?_
    (repeat fail)
    exact st5 ⟨hP, hp2, hr, by omega, hn6, hT1, fun q hq => (hT2 q hq).1, fun q hq a ha => by have := hTs q hq a ha; omega⟩ (s4.mono (by omega))
end Kn
end
set_option maxHeartbeats 0 in
theorem PySem.Challenge.cw_forthandback_k15_what_is_made_nothing_holds : PySem.Challenge.rw_forthandback_k15_what_is_made_nothing.Holds := by
  exact Kn.law_holds Kn.law_ok
