import PyProof.Rows.All
import Wide.All
import OpenK.AllK
import Wide.FinOn
import HandS.ForMost
import HandS.Exc
import HandS.ExcOwn
import HandS.TryOnly
import HandS.CallSlots
import HandS.Style
import HandS.Wide
import HandS.Deep
import HandS.HeadHook4
import HandS.TupAny
import HandS.TupLe
import HandS.WideBits
import HandS.Gcd
import HandS.SetFor
import HandS.NoneIn
import KE.GoesEnum
import HandS.SortKw
import HandS.Comp
import HandS.Small
import HandS.TupMul
import HandS.Defaults
import HandS.HeadEnd
import HandS.EndBits
import HandS.WordsExc
import HandS.Star
import PyProof.Rows.ListMulArg
import PyProof.ReprRoads
import PyProof.CallFns
import HandS.SortInts
import HandS.ExcInit
import KE.KExcSuper
import HandS.ExcField
import HandS.IsInst
import PyProof.StrOps2
import PyProof.StrLawsRepr
import PyProof.FitsInt
import HandS.Head0
import HandS.Head1
import HandS.Head2
import KE.KStateDown
import PySem.Challenge.RW_forthandback_k01_lexemes
set_option Elab.async false
set_option linter.all false
set_option maxRecDepth 100000
set_option maxHeartbeats 0
section
namespace Pd
open PySem PySem.Spec L2

/-- plain data; ref l: the changeable thing number l of the store -/
inductive D where
  | non | bl (b : Bool) | int (i : Int) | str (x : Str)
  | tup (xs : List D) | lst (xs : List D) | dic (ks : List Key) (xs : List D) | dit (ks : List (List Key)) (xs : List D)
  | cst (v : V) | ref (l : Nat) | exn (a d : Addr) (fs : List Str) (xs : List D)

/-- a changeable thing -/
inductive Cell where
  | lst (xs : List D) | dic (ks : List Key) (xs : List D) | dit (ks : List (List Key)) (xs : List D) | ins (C : Addr) (fs : List Str) (xs : List D)
abbrev Mu := List (Option Cell)
abbrev Sl := List (Option D)

mutual
def RepV (K : PySem.W.Frag) (G : Hp) (m : List Addr) : D → V → Prop
  | .non, v => v = .non
  | .bl b, v => v = .bl b
  | .int i, v => v = .int i
  | .str x, v => v = .str x
  | .tup ds, v => ∃ a vs, v = .ref a ∧ SqT K G a vs ∧ RepL K G m ds vs
  | .lst ds, v => ∃ a vs, v = .ref a ∧ SqL K G a vs ∧ RepL K G m ds vs
  | .dic ks ds, v => ∃ a vs, v = .ref a ∧ Rd G a (.dK (ks.zip vs)) ∧ ks.length = ds.length ∧ RepL K G m ds vs
  | .dit ks ds, v => ∃ a vs, v = .ref a ∧ Rd G a (.dT (ks.zip vs)) ∧ ks.length = ds.length ∧ RepL K G m ds vs
  | .cst w, v => v = w
  | .ref l, v => ∃ a, v = .ref a ∧ m[l]? = some a
  | .exn a d fs ds, v => v = .ref a ∧ ∃ vs, G d = some (.xd (fs.zip vs)) ∧ fs.length = ds.length ∧ RepL K G m ds vs
def RepL (K : PySem.W.Frag) (G : Hp) (m : List Addr) : List D → List V → Prop
  | [], vs => vs = []
  | d :: ds, vs => ∃ v r, vs = v :: r ∧ RepV K G m d v ∧ RepL K G m ds r
end

def Le (G G' : Hp) : Prop := ∀ a o, G a = some o → G' a = some o
theorem Le.refl (G : Hp) : Le G G := fun _ _ h => h
theorem Le.trans {G G1 G2 : Hp} (a : Le G G1) (b : Le G1 G2) : Le G G2 := fun c o h => b c o (a c o h)
theorem Le.rd {G G' : Hp} {a : Addr} {u : HO} (h : Le G G') (r : Rd G a u) : Rd G' a u := by
  rcases r with r | ⟨o, r⟩
  · exact .inl (h _ _ r)
  · exact .inr ⟨o, h _ _ r⟩
theorem Le.sqL {K : PySem.W.Frag} {G G' : Hp} {a : Addr} {xs : List V} (h : Le G G') (r : SqL K G a xs) : SqL K G' a xs := r.imp (fun q => h.rd q) fun q => q
theorem Le.sqT {K : PySem.W.Frag} {G G' : Hp} {a : Addr} {xs : List V} (h : Le G G') (r : SqT K G a xs) : SqT K G' a xs := r.imp (fun q => h.rd q) fun q => q

theorem getE_app {α : Type} {l r : List α} {i : Nat} {x : α} (h : l[i]? = some x) : (l ++ r)[i]? = some x := by
  have hi := (List.getElem?_eq_some_iff.mp h).1
  rw [List.getElem?_append_left hi]; exact h

section
variable {K : PySem.W.Frag} {G G' : Hp} {m r : List Addr}
mutual
theorem RepV.mono (h : Le G G') : ∀ {d : D} {v : V}, RepV K G m d v → RepV K G' (m ++ r) d v
  | .non, _, x => x
  | .bl _, _, x => x
  | .int _, _, x => x
  | .str _, _, x => x
  | .tup ds, _, x => by
    obtain ⟨a, vs, e, s, l⟩ := x
    exact ⟨a, vs, e, h.sqT s, RepL.mono h l⟩
  | .lst ds, _, x => by
    obtain ⟨a, vs, e, s, l⟩ := x
    exact ⟨a, vs, e, h.sqL s, RepL.mono h l⟩
  | .dic ks ds, _, x => by
    obtain ⟨a, vs, e, s, z, l⟩ := x
    exact ⟨a, vs, e, h.rd s, z, RepL.mono h l⟩
  | .dit ks ds, _, x => by
    obtain ⟨a, vs, e, s, z, l⟩ := x
    exact ⟨a, vs, e, h.rd s, z, RepL.mono h l⟩
  | .cst _, _, x => x
  | .ref l, _, x => by
    obtain ⟨a, e, q⟩ := x
    exact ⟨a, e, getE_app q⟩
  | .exn _ _ _ ds, _, x => by
    obtain ⟨e, vs, g, z, l⟩ := x
    exact ⟨e, vs, h _ _ g, z, RepL.mono h l⟩
theorem RepL.mono (h : Le G G') : ∀ {ds : List D} {vs : List V}, RepL K G m ds vs → RepL K G' (m ++ r) ds vs
  | [], _, x => x
  | d :: ds, _, x => by
    obtain ⟨v, w, e, x1, x2⟩ := x
    exact ⟨v, w, e, RepV.mono h x1, RepL.mono h x2⟩
end
theorem RepL.length : ∀ {ds : List D} {vs : List V}, RepL K G m ds vs → vs.length = ds.length
  | [], _, x => by cases x; rfl
  | d :: ds, _, x => by
    obtain ⟨v, w, rfl, x1, x2⟩ := x
    simp [RepL.length x2]
theorem RepL.get : ∀ {ds : List D} {vs : List V} {i : Nat} {d : D}, RepL K G m ds vs → ds[i]? = some d → ∃ v, vs[i]? = some v ∧ RepV K G m d v
  | [], _, i, d, _, h => by simp at h
  | d :: ds, _, 0, d', x, h => by
    obtain ⟨v, w, rfl, x1, x2⟩ := x
    simp at h; subst h
    exact ⟨v, rfl, x1⟩
  | d :: ds, _, i + 1, d', x, h => by
    obtain ⟨v, w, rfl, x1, x2⟩ := x
    obtain ⟨u, h1, h2⟩ := RepL.get (i := i) (d := d') x2 (by simpa using h)
    exact ⟨u, by simpa using h1, h2⟩
theorem RepL.app : ∀ {ds es : List D} {vs ws : List V}, RepL K G m ds vs → RepL K G m es ws → RepL K G m (ds ++ es) (vs ++ ws)
  | [], es, _, ws, x, y => by cases x; exact y
  | d :: ds, es, _, ws, x, y => by
    obtain ⟨v, w, rfl, x1, x2⟩ := x
    exact ⟨v, w ++ ws, rfl, x1, RepL.app x2 y⟩
theorem RepL.set : ∀ {ds : List D} {vs : List V} {i : Nat} {d : D} {v : V}, RepL K G m ds vs → RepV K G m d v → RepL K G m (ds.set i d) (vs.set i v)
  | [], _, i, d, v, x, _ => by cases x; exact rfl
  | d' :: ds, _, 0, d, v, x, y => by
    obtain ⟨v', w, rfl, x1, x2⟩ := x
    exact ⟨v, w, rfl, y, x2⟩
  | d' :: ds, _, i + 1, d, v, x, y => by
    obtain ⟨v', w, rfl, x1, x2⟩ := x
    exact ⟨v', w.set i v, rfl, x1, RepL.set x2 y⟩
theorem RepL.take : ∀ {ds : List D} {vs : List V} (n : Nat), RepL K G m ds vs → RepL K G m (ds.take n) (vs.take n)
  | [], _, n, x => by cases x; cases n <;> exact rfl
  | d :: ds, _, 0, x => by
    obtain ⟨v, w, rfl, x1, x2⟩ := x
    exact rfl
  | d :: ds, _, n + 1, x => by
    obtain ⟨v, w, rfl, x1, x2⟩ := x
    exact ⟨v, w.take n, rfl, x1, RepL.take n x2⟩
theorem RepL.drop : ∀ {ds : List D} {vs : List V} (n : Nat), RepL K G m ds vs → RepL K G m (ds.drop n) (vs.drop n)
  | [], _, n, x => by cases x; cases n <;> exact rfl
  | d :: ds, _, 0, x => x
  | d :: ds, _, n + 1, x => by
    obtain ⟨v, w, rfl, x1, x2⟩ := x
    exact RepL.drop n x2
theorem RepL.rev : ∀ {ds : List D} {vs : List V}, RepL K G m ds vs → RepL K G m ds.reverse vs.reverse
  | [], _, x => by cases x; exact rfl
  | d :: ds, _, x => by
    obtain ⟨v, w, rfl, x1, x2⟩ := x
    rw [List.reverse_cons, List.reverse_cons]
    exact RepL.app (RepL.rev x2) ⟨v, [], rfl, x1, rfl⟩
theorem RepL.rep (n : Nat) : ∀ {ds : List D} {vs : List V}, RepL K G m ds vs → RepL K G m (List.replicate n ds).flatten (List.replicate n vs).flatten := by
  intro ds vs x
  induction n with
  | zero => exact rfl
  | succ n ih =>
    rw [List.replicate_succ, List.replicate_succ, List.flatten_cons, List.flatten_cons]
    exact RepL.app x ih
end

/-! ### the store's things as they stand -/
def CellRep (K : PySem.W.Frag) (G : Hp) (m : List Addr) (H : Hp) (a : Addr) : Cell → Prop
  | .lst ds => ∃ vs, H a = some (.lst vs) ∧ RepL K G m ds vs
  | .dic ks ds => ∃ vs, H a = some (.dK (ks.zip vs)) ∧ ks.length = ds.length ∧ RepL K G m ds vs
  | .dit ks ds => ∃ vs, H a = some (.dT (ks.zip vs)) ∧ ks.length = ds.length ∧ RepL K G m ds vs
  | .ins C fs ds => ∃ dx vs, H a = some (.ins C dx (fs.zip vs)) ∧ fs.length = ds.length ∧ RepL K G m ds vs
def Live (m : List Addr) (μ : Mu) (a : Addr) : Prop := ∃ (l : Nat) (c : Cell), μ[l]? = some (some c) ∧ m[l]? = some a

/-- H: the heap; G: the part of it in which all that is not changeable stands; m: where the store's things stand -/
structure Wf (K : PySem.W.Frag) (H G : Hp) (m : List Addr) (μ : Mu) : Prop where
  sub : Le G H
  len : m.length = μ.length
  cell : ∀ (l : Nat) c a, μ[l]? = some (some c) → m[l]? = some a → G a = none ∧ CellRep K G m H a c
  inj : ∀ (l l' : Nat) a c c', μ[l]? = some (some c) → μ[l']? = some (some c') → m[l]? = some a → m[l']? = some a → l = l'

/-- from one state to a later one: nothing but live things has changed -/
structure Step (H G : Hp) (m : List Addr) (μ : Mu) (H' G' : Hp) (m' : List Addr) (μ' : Mu) : Prop where
  gsub : Le G G'
  frame : ∀ a o, H a = some o → ¬ Live m μ a → H' a = some o
  gnew : ∀ a, G' a ≠ none → G a ≠ none ∨ H a = none ∨ Live m μ a
  lnew : ∀ a, Live m' μ' a → Live m μ a ∨ H a = none
  mext : ∃ r, m' = m ++ r
  kp : ∀ a, H' a = none → H a = none
section
variable {K : PySem.W.Frag} {H G H' G' H1 G1 H2 G2 : Hp} {m m' m1 m2 : List Addr} {μ μ' μ1 μ2 : Mu}
theorem Step.refl : Step H G m μ H G m μ := ⟨Le.refl _, fun _ _ h _ => h, fun _ h => .inl h, fun _ h => .inl h, ⟨[], by simp⟩, fun _ h => h⟩
theorem Step.trans (a : Step H G m μ H1 G1 m1 μ1) (b : Step H1 G1 m1 μ1 H2 G2 m2 μ2) : Step H G m μ H2 G2 m2 μ2 where
  gsub := a.gsub.trans b.gsub
  frame := fun x o e n => b.frame x o (a.frame x o e n) fun l => (a.lnew x l).elim n fun z => by rw [e] at z; cases z
  gnew := fun x h => by
    rcases b.gnew x h with h | h | h
    · exact a.gnew x h
    · by_cases n : Live m μ x
      · exact .inr (.inr n)
      · refine .inr (.inl ?_)
        cases q : H x with
        | none => rfl
        | some o => rw [a.frame x o q n] at h; cases h
    · exact .inr ((a.lnew x h).symm)
  lnew := fun x h => by
    rcases b.lnew x h with h | h
    · exact a.lnew x h
    · by_cases n : Live m μ x
      · exact .inl n
      · refine .inr ?_
        cases q : H x with
        | none => rfl
        | some o => rw [a.frame x o q n] at h; cases h
  mext := by
    obtain ⟨r, e⟩ := a.mext
    obtain ⟨r', e'⟩ := b.mext
    exact ⟨r ++ r', by rw [e', e, List.append_assoc]⟩
  kp := fun x h => a.kp x (b.kp x h)
theorem Step.repV (s : Step H G m μ H' G' m' μ') {d : D} {v : V} (x : RepV K G m d v) : RepV K G' m' d v := by
  obtain ⟨r, e⟩ := s.mext
  rw [e]; exact x.mono s.gsub
theorem Step.repL (s : Step H G m μ H' G' m' μ') {d : List D} {v : List V} (x : RepL K G m d v) : RepL K G' m' d v := by
  obtain ⟨r, e⟩ := s.mext
  rw [e]; exact x.mono s.gsub
end

/-! ### slots -/
structure RepS (K : PySem.W.Frag) (G : Hp) (m : List Addr) (sl : Sl) (σ : L2.St) : Prop where
  len : sl.length = σ.length
  at_ : ∀ (i : Nat) d, sl[i]? = some (some d) → ∃ v, σ[i]? = some (some v) ∧ RepV K G m d v
section
variable {K : PySem.W.Frag} {H G H' G' : Hp} {m m' : List Addr} {μ μ' : Mu} {sl : Sl} {σ : L2.St}
theorem Step.repS (s : Step H G m μ H' G' m' μ') (x : RepS K G m sl σ) : RepS K G' m' sl σ := ⟨x.len, fun i d h => by
  obtain ⟨v, h1, h2⟩ := x.at_ i d h
  exact ⟨v, h1, s.repV h2⟩⟩
theorem RepS.set (x : RepS K G m sl σ) {d : D} {v : V} (r : RepV K G m d v) (i : Nat) : RepS K G m (sl.set i (some d)) (σ.set i (some v)) := ⟨by simp [x.len], fun j d' h => by
  by_cases e : i = j
  · subst e
    have hi : i < sl.length := by
      have := (List.getElem?_eq_some_iff.mp h).1
      simpa using this
    rw [List.getElem?_set_self hi] at h
    cases h
    exact ⟨v, List.getElem?_set_self (by rw [← x.len]; exact hi), r⟩
  · rw [List.getElem?_set_ne e] at h
    obtain ⟨u, h1, h2⟩ := x.at_ j d' h
    exact ⟨u, by rw [List.getElem?_set_ne e]; exact h1, h2⟩⟩
end

/-! ### outcomes -/
structure Exn where
  cls : Str
  fs : List Str
  xs : List D
inductive Out (α : Type) where
  | ok (a : α) (μ : Mu) | exc (x : Exn) (μ : Mu)
abbrev R (α : Type) := Option (Out α)
abbrev DE := Sl → Mu → R D
inductive OutS where
  | nx (sl : Sl) (μ : Mu) | rt (d : D) (μ : Mu) | bk (sl : Sl) (μ : Mu) | ct (sl : Sl) (μ : Mu) | exc (x : Exn) (sl : Sl) (μ : Mu)
abbrev DS := Sl → Mu → Option OutS

/-- an exception as it lies behind: ga K gives the classes' addresses -/
def ExcRep (K : PySem.W.Frag) (H G : Hp) (m : List Addr) (x : Exn) (c : Value) (dd : Option Addr) : Prop :=
  c = .ref (He.ga K x.cls) ∧ x.fs.length = x.xs.length ∧ ∃ vs, RepL K G m x.xs vs ∧ match dd with
    | none => x.fs = []
    | some a => G a = some (.xd (x.fs.zip vs))

end Pd
end
section
namespace Pd
open PySem PySem.Spec L2

/-- a wish about exceptions, at the slots -/
abbrev WX := Value → Option Addr → L2.St → Hp → Prop

section
variable {α β γ δ : Type}
def bindR (r : R α) (f : α → Mu → R β) : R β := match r with
  | some (.ok a μ) => f a μ
  | some (.exc x μ) => some (.exc x μ)
  | none => none

/-- what is wanted of an outcome that began at (H, G, m, μ) -/
def okA (rep : Hp → List Addr → α → β → Prop) (K : PySem.W.Frag) (W : WX) (σ : L2.St) (H G : Hp) (m : List Addr) (μ : Mu) (r : R α) (Q : β → Hp → Prop) : Prop := match r with
  | some (.ok a μ') => ∀ b H' G' m', Wf K H' G' m' μ' → Step H G m μ H' G' m' μ' → rep G' m' a b → Q b H'
  | some (.exc x μ') => ∀ c dd H' G' m', Wf K H' G' m' μ' → Step H G m μ H' G' m' μ' → ExcRep K H' G' m' x c dd → W c dd σ H'
  | none => False

/-- the transformer of a plain function of slots and store, temporaries ds standing as vs -/
def T (rep : Hp → List Addr → α → β → Prop) (K : PySem.W.Frag) (W : WX) (ds : List D) (vs : List V) (f : Sl → Mu → R α) : L2.St → Hp → (β → Hp → Prop) → Prop := fun σ H Q =>
  ∃ G m μ sl, Wf K H G m μ ∧ RepS K G m sl σ ∧ RepL K G m ds vs ∧ okA rep K W σ H G m μ (f sl μ) Q

abbrev repV (K : PySem.W.Frag) : Hp → List Addr → D → V → Prop := fun G m => RepV K G m
abbrev repL (K : PySem.W.Frag) : Hp → List Addr → List D → List V → Prop := fun G m => RepL K G m
abbrev repB : Hp → List Addr → Bool → Bool → Prop := fun _ _ a b => a = b

abbrev TD (K : PySem.W.Frag) (W : WX) (f : DE) : TE := T (repV K) K W [] [] f
abbrev TDs (K : PySem.W.Frag) (W : WX) (f : Sl → Mu → R (List D)) : TA := T (repL K) K W [] [] f
abbrev TB (K : PySem.W.Frag) (W : WX) (f : Sl → Mu → R Bool) : TT := T repB K W [] [] f

variable {rep : Hp → List Addr → α → β → Prop} {rep2 : Hp → List Addr → γ → δ → Prop} {K : PySem.W.Frag} {W : WX} {ds : List D} {vs : List V} {σ : L2.St} {H : Hp}

/-- first r, then what k makes of it -/
theorem okA.bind {G : Hp} {m : List Addr} {μ : Mu} {r : R α} {k : α → Mu → R γ} {Q : δ → Hp → Prop} (h : okA rep2 K W σ H G m μ (bindR r k) Q) :
    okA rep K W σ H G m μ r (fun b H1 => ∃ a G1 m1 μ1, Wf K H1 G1 m1 μ1 ∧ Step H G m μ H1 G1 m1 μ1 ∧ rep G1 m1 a b ∧ okA rep2 K W σ H1 G1 m1 μ1 (k a μ1) Q) := by
  revert h
  cases r with
  | none => exact fun z => z
  | some o =>
    cases o with
    | exc x μ1 => exact fun z => z
    | ok a μ1 =>
      intro ok b H1 G1 m1 wf1 st q
      refine ⟨a, G1, m1, μ1, wf1, st, q, ?_⟩
      have ok : okA rep2 K W σ H G m μ (k a μ1) Q := ok
      revert ok
      cases k a μ1 with
      | none => exact fun z => z
      | some o2 =>
        cases o2 with
        | exc x μ2 => exact fun ok c dd H2 G2 m2 wf2 st2 q => ok c dd H2 G2 m2 wf2 (st.trans st2) q
        | ok a2 μ2 => exact fun ok b2 H2 G2 m2 wf2 st2 q => ok b2 H2 G2 m2 wf2 (st.trans st2) q
/-- weaker wants -/
theorem okA.imp {G : Hp} {m : List Addr} {μ : Mu} {r : R α} {Q Q' : β → Hp → Prop} (h : okA rep K W σ H G m μ r Q) (hq : ∀ b H', Q b H' → Q' b H') : okA rep K W σ H G m μ r Q' := by
  cases r with
  | none => exact h
  | some o =>
    cases o with
    | exc x μ1 => exact h
    | ok a μ1 => exact fun b H' G' m' wf st r => hq _ _ (h b H' G' m' wf st r)
/-- first fa, then what k makes of it; temporaries stay -/
theorem T.bind {fa : Sl → Mu → R α} {k : Sl → α → Mu → R γ} {Q : δ → Hp → Prop} (h : T rep2 K W ds vs (fun sl μ => bindR (fa sl μ) (k sl)) σ H Q) :
    T rep K W [] [] fa σ H (fun b H1 => ∃ a, (∃ G m μ sl, Wf K H1 G m μ ∧ RepS K G m sl σ ∧ RepL K G m ds vs ∧ rep G m a b ∧ okA rep2 K W σ H1 G m μ (k sl a μ) Q)) := by
  obtain ⟨G, m, μ, sl, wf, rs, rl, ok⟩ := h
  exact ⟨G, m, μ, sl, wf, rs, rfl, (okA.bind ok).imp fun b H1 ⟨a, G1, m1, μ1, wf1, st, q, ok1⟩ => ⟨a, G1, m1, μ1, sl, wf1, st.repS rs, st.repL rl, q, ok1⟩⟩

/-- .. where a is a datum: it is one temporary more -/
theorem T.bindD {fa : DE} {k : Sl → D → Mu → R γ} {Q : δ → Hp → Prop} (h : T rep2 K W ds vs (fun sl μ => bindR (fa sl μ) (k sl)) σ H Q) :
    TD K W fa σ H (fun v H1 => ∃ d, T rep2 K W (d :: ds) (v :: vs) (fun sl μ => k sl d μ) σ H1 Q) := by
  obtain ⟨G, m, μ, sl, wf, rs, rl, ok⟩ := h
  exact ⟨G, m, μ, sl, wf, rs, rfl, (okA.bind (rep := repV K) ok).imp fun b H1 ⟨a, G1, m1, μ1, wf1, st, q, ok1⟩ => ⟨a, G1, m1, μ1, sl, wf1, st.repS rs, ⟨b, vs, rfl, q, st.repL rl⟩, ok1⟩⟩
theorem T.imp {f : Sl → Mu → R α} {Q Q' : β → Hp → Prop} (h : T rep K W ds vs f σ H Q) (hq : ∀ b H', Q b H' → Q' b H') : T rep K W ds vs f σ H Q' := by
  obtain ⟨G, m, μ, sl, wf, rs, rl, ok⟩ := h
  exact ⟨G, m, μ, sl, wf, rs, rl, ok.imp hq⟩
/-- an outcome at once, the heap as it is -/
theorem okA.now {G : Hp} {m : List Addr} {μ : Mu} {a : α} {b : β} {Q : β → Hp → Prop} (wf : Wf K H G m μ) (h : okA rep K W σ H G m μ (some (.ok a μ)) Q) (r : rep G m a b) : Q b H := h b H G m wf Step.refl r
end

section
variable {X : Cx} {e : Expr}
theorem PE_imp {t t' : TE} (h : PE X e t') (w : ∀ σ H Q, t σ H Q → t' σ H Q) : PE X e t := ⟨fun pins s σ H Q I q => h.run pins s σ H Q I (w σ H Q q)⟩
theorem PT_imp {t t' : TT} (h : PT X e t') (w : ∀ σ H Q, t σ H Q → t' σ H Q) : PT X e t := ⟨fun pins s σ H Q I q => h.run pins s σ H Q I (w σ H Q q)⟩
theorem PA_imp {es : List Expr} {t t' : TA} (h : PA X es t') (w : ∀ σ H Q, t σ H Q → t' σ H Q) : PA X es t := ⟨fun pos pins s σ H Q I q => h.run pos pins s σ H Q I (w σ H Q q)⟩
theorem PS_imp {st : Stmt} {t t' : TS} (h : PS X st t') (w : ∀ D σ H, t D σ H → t' D σ H) : PS X st t := ⟨fun pins s σ H D I q => h.run pins s σ H D I (w D σ H q)⟩
theorem PSs_imp {st : List Stmt} {t t' : TS} (h : PSs X st t') (w : ∀ D σ H, t D σ H → t' D σ H) : PSs X st t := ⟨fun pins s σ H D I q => h.run pins s σ H D I (w D σ H q)⟩
end

/-! ### a new thing is laid -/
section
variable {K : PySem.W.Frag} {H G H' G' : Hp} {m m' : List Addr} {μ μ' : Mu} {p : Addr} {o : HO}
theorem le_upd (h : H p = none) : Le H (upd H p o) := fun a x e => by
  have : a ≠ p := fun z => by rw [z, h] at e; cases e
  rw [upd_ne this]; exact e
theorem upd_none (a : Addr) (h : upd H p o a = none) : H a = none := by
  by_cases e : a = p
  · subst e; rw [upd_same] at h; cases h
  · rwa [upd_ne e] at h
theorem Wf.gnone (wf : Wf K H G m μ) (h : H p = none) : G p = none := by
  cases q : G p with
  | none => rfl
  | some x => rw [wf.sub _ _ q] at h; cases h
theorem Wf.live_some (wf : Wf K H G m μ) {a : Addr} (l : Live m μ a) : ∃ x, H a = some x := by
  obtain ⟨i, c, h1, h2⟩ := l
  have q := (wf.cell i c a h1 h2).2
  cases c with
  | lst ds => obtain ⟨vs, e, _⟩ := q; exact ⟨_, e⟩
  | dic ks ds => obtain ⟨vs, e, _⟩ := q; exact ⟨_, e⟩
  | dit ks ds => obtain ⟨vs, e, _⟩ := q; exact ⟨_, e⟩
  | ins C fs ds => obtain ⟨dx, vs, e, _⟩ := q; exact ⟨_, e⟩
theorem Wf.dead (wf : Wf K H G m μ) (h : H p = none) : ¬ Live m μ p := fun l => by
  obtain ⟨x, e⟩ := wf.live_some l
  rw [h] at e; cases e
theorem CellRep.mono {a : Addr} {c : Cell} {H' : Hp} {r : List Addr} (x : CellRep K G m H a c) (hg : Le G G') (hh : ∀ o, H a = some o → H' a = some o) : CellRep K G' (m ++ r) H' a c := by
  cases c with
  | lst ds => obtain ⟨vs, e, l⟩ := x; exact ⟨vs, hh _ e, l.mono hg⟩
  | dic ks ds => obtain ⟨vs, e, z, l⟩ := x; exact ⟨vs, hh _ e, z, l.mono hg⟩
  | dit ks ds => obtain ⟨vs, e, z, l⟩ := x; exact ⟨vs, hh _ e, z, l.mono hg⟩
  | ins C fs ds => obtain ⟨dx, vs, e, z, l⟩ := x; exact ⟨dx, vs, hh _ e, z, l.mono hg⟩
/-- a new thing that will not change -/
theorem Wf.laid (wf : Wf K H G m μ) (h : H p = none) : Wf K (upd H p o) (upd G p o) m μ := by
  have hg := wf.gnone h
  refine ⟨fun a x e => ?_, wf.len, fun l c a h1 h2 => ?_, wf.inj⟩
  · by_cases z : a = p
    · subst z; rw [upd_same] at e ⊢; exact e
    · rw [upd_ne z] at e ⊢; exact wf.sub _ _ e
  · obtain ⟨q1, q2⟩ := wf.cell l c a h1 h2
    have ne : a ≠ p := fun z => wf.dead h ⟨l, c, h1, z ▸ h2⟩
    refine ⟨by rw [upd_ne ne]; exact q1, ?_⟩
    have := q2.mono (r := []) (H' := upd H p o) (le_upd (o := o) hg) (fun _ e => le_upd h _ _ e)
    simpa using this
theorem Step.laid (wf : Wf K H G m μ) (h : H p = none) : Step H G m μ (upd H p o) (upd G p o) m μ := by
  refine ⟨le_upd (wf.gnone h), fun a x e _ => le_upd h _ _ e, fun a z => ?_, fun a z => .inl z, ⟨[], by simp⟩, upd_none⟩
  by_cases q : a = p
  · subst q; exact .inr (.inl h)
  · rw [upd_ne q] at z; exact .inl z
/-- something new of which nothing is known to the store (it may be hidden) -/
theorem Wf.hid (wf : Wf K H G m μ) (h : H p = none) : Wf K (upd H p o) G m μ := by
  refine ⟨fun a x e => le_upd h _ _ (wf.sub _ _ e), wf.len, fun l c a h1 h2 => ?_, wf.inj⟩
  obtain ⟨q1, q2⟩ := wf.cell l c a h1 h2
  refine ⟨q1, ?_⟩
  have := q2.mono (r := []) (Le.refl G) (fun _ e => le_upd (o := o) h _ _ e)
  simpa using this
theorem Step.hid (h : H p = none) : Step H G m μ (upd H p o) G m μ :=
  ⟨Le.refl _, fun a x e _ => le_upd h _ _ e, fun a z => .inl z, fun a z => .inl z, ⟨[], by simp⟩, upd_none⟩
theorem getE_app_none {α : Type} {l r : List α} {i : Nat} (h : l.length ≤ i) : (l ++ r)[i]? = r[i - l.length]? := List.getElem?_append_right h
/-- a new thing of the store -/
theorem Wf.boxed {c : Cell} (wf : Wf K H G m μ) (h : H p = none) (r : CellRep K G m (upd H p o) p c) : Wf K (upd H p o) G (m ++ [p]) (μ ++ [some c]) := by
  have dead := wf.dead h
  have cases_ : ∀ (l : Nat) c' a, (μ ++ [some c])[l]? = some (some c') → (m ++ [p])[l]? = some a → (l < μ.length ∧ μ[l]? = some (some c') ∧ m[l]? = some a) ∨ (l = μ.length ∧ c' = c ∧ a = p) := fun l c' a h1 h2 => by
    by_cases hl : l < μ.length
    · rw [List.getElem?_append_left hl] at h1
      rw [List.getElem?_append_left (by rw [wf.len]; exact hl)] at h2
      exact .inl ⟨hl, h1, h2⟩
    · rw [List.getElem?_append_right (by omega)] at h1
      rw [List.getElem?_append_right (by rw [wf.len]; omega)] at h2
      have e0 : l - μ.length = 0 := by
        have := (List.getElem?_eq_some_iff.mp h1).1
        simp at this; omega
      rw [wf.len] at h2
      rw [e0] at h1 h2
      simp at h1 h2
      exact .inr ⟨by omega, h1.symm, h2.symm⟩
  refine ⟨(wf.hid (o := o) h).sub, by simp [wf.len], fun l c' a h1 h2 => ?_, fun l l' a c1 c2 h1 h2 h3 h4 => ?_⟩
  · rcases cases_ l c' a h1 h2 with ⟨_, q1, q2⟩ | ⟨_, rfl, rfl⟩
    · obtain ⟨z1, z2⟩ := wf.cell l c' a q1 q2
      exact ⟨z1, z2.mono (Le.refl G) (fun _ e => le_upd h _ _ e)⟩
    · refine ⟨wf.gnone h, ?_⟩
      exact r.mono (Le.refl G) fun _ e => e
  · rcases cases_ l c1 a h1 h3 with ⟨_, q1, q2⟩ | ⟨e1, _, z1⟩
    · rcases cases_ l' c2 a h2 h4 with ⟨_, q3, q4⟩ | ⟨_, _, z⟩
      · exact wf.inj l l' a c1 c2 q1 q3 q2 q4
      · exact absurd ⟨l, c1, q1, z ▸ q2⟩ dead
    · rcases cases_ l' c2 a h2 h4 with ⟨_, q3, q4⟩ | ⟨e2, _, _⟩
      · exact absurd ⟨l', c2, q3, z1 ▸ q4⟩ dead
      · omega
theorem Step.boxed {c : Cell} (wf : Wf K H G m μ) (h : H p = none) : Step H G m μ (upd H p o) G (m ++ [p]) (μ ++ [some c]) := by
  refine ⟨Le.refl _, fun a x e _ => le_upd h _ _ e, fun a z => .inl z, fun a z => ?_, ⟨[p], rfl⟩, upd_none⟩
  obtain ⟨l, c', h1, h2⟩ := z
  by_cases hl : l < μ.length
  · rw [List.getElem?_append_left hl] at h1
    rw [List.getElem?_append_left (by rw [wf.len]; exact hl)] at h2
    exact .inl ⟨l, c', h1, h2⟩
  · rw [List.getElem?_append_right (by rw [wf.len]; omega)] at h2
    have : l - m.length = 0 := by
      have := (List.getElem?_eq_some_iff.mp h2).1
      simp at this; omega
    rw [this] at h2
    simp at h2
    subst h2
    exact .inr h
/-- a thing of the store is changed -/
theorem Wf.changed {l : Nat} {c c' : Cell} (wf : Wf K H G m μ) (h1 : μ[l]? = some (some c)) (h2 : m[l]? = some p) (r : CellRep K G m (upd H p o) p c') : Wf K (upd H p o) G m (μ.set l (some c')) := by
  have hl : l < μ.length := (List.getElem?_eq_some_iff.mp h1).1
  obtain ⟨g, _⟩ := wf.cell l c p h1 h2
  have at_ : ∀ (i : Nat) x, (μ.set l (some c'))[i]? = some (some x) → (i = l ∧ x = c') ∨ (i ≠ l ∧ μ[i]? = some (some x)) := fun i x e => by
    by_cases z : l = i
    · subst z; rw [List.getElem?_set_self hl] at e; cases e; exact .inl ⟨rfl, rfl⟩
    · rw [List.getElem?_set_ne z] at e; exact .inr ⟨fun q => z q.symm, e⟩
  refine ⟨fun a x e => ?_, by simp [wf.len], fun i x a q1 q2 => ?_, fun i j a x y q1 q2 q3 q4 => ?_⟩
  · have ne : a ≠ p := fun z => by rw [z, g] at e; cases e
    rw [upd_ne ne]; exact wf.sub _ _ e
  · rcases at_ i x q1 with ⟨rfl, rfl⟩ | ⟨ne, q⟩
    · rw [h2] at q2; cases q2; exact ⟨g, r⟩
    · obtain ⟨z1, z2⟩ := wf.cell i x a q q2
      have nap : a ≠ p := fun z => ne (wf.inj i l a x c q h1 q2 (z ▸ h2))
      refine ⟨z1, ?_⟩
      have := z2.mono (r := []) (H' := upd H p o) (Le.refl G) (fun _ e => by rw [upd_ne nap]; exact e)
      simpa using this
  · have lv : ∀ (i : Nat) x, (μ.set l (some c'))[i]? = some (some x) → ∃ x', μ[i]? = some (some x') := fun i x e => by
      rcases at_ i x e with ⟨rfl, _⟩ | ⟨_, q⟩
      · exact ⟨c, h1⟩
      · exact ⟨x, q⟩
    obtain ⟨x', p1⟩ := lv i x q1
    obtain ⟨y', p2⟩ := lv j y q2
    exact wf.inj i j a x' y' p1 p2 q3 q4
theorem Step.changed {l : Nat} {c c' : Cell} (h1 : μ[l]? = some (some c)) (h2 : m[l]? = some p) : Step H G m μ (upd H p o) G m (μ.set l (some c')) := by
  have hl : l < μ.length := (List.getElem?_eq_some_iff.mp h1).1
  refine ⟨Le.refl _, fun a x e n => ?_, fun a z => .inl z, fun a z => ?_, ⟨[], by simp⟩, upd_none⟩
  · have ne : a ≠ p := fun z => n ⟨l, c, h1, z ▸ h2⟩
    rw [upd_ne ne]; exact e
  · obtain ⟨i, x, q1, q2⟩ := z
    by_cases z : l = i
    · subst z; exact .inl ⟨l, c, h1, q2⟩
    · rw [List.getElem?_set_ne z] at q1; exact .inl ⟨i, x, q1, q2⟩
/-- a thing of the store changes no more -/
theorem Wf.frozen {l : Nat} {c : Cell} {x : HO} (wf : Wf K H G m μ) (h1 : μ[l]? = some (some c)) (h2 : m[l]? = some p) (hx : H p = some x) : Wf K H (upd G p x) m (μ.set l none) := by
  have hl : l < μ.length := (List.getElem?_eq_some_iff.mp h1).1
  obtain ⟨g, _⟩ := wf.cell l c p h1 h2
  have at_ : ∀ (i : Nat) y, (μ.set l none)[i]? = some (some y) → i ≠ l ∧ μ[i]? = some (some y) := fun i y e => by
    by_cases z : l = i
    · subst z; rw [List.getElem?_set_self hl] at e; cases e
    · rw [List.getElem?_set_ne z] at e; exact ⟨fun q => z q.symm, e⟩
  refine ⟨fun a y e => ?_, by simp [wf.len], fun i y a q1 q2 => ?_, fun i j a y z q1 q2 q3 q4 => wf.inj i j a y z (at_ i y q1).2 (at_ j z q2).2 q3 q4⟩
  · by_cases z : a = p
    · subst z; rw [upd_same] at e; cases e; exact hx
    · rw [upd_ne z] at e; exact wf.sub _ _ e
  · obtain ⟨ne, q⟩ := at_ i y q1
    obtain ⟨z1, z2⟩ := wf.cell i y a q q2
    have nap : a ≠ p := fun z => ne (wf.inj i l a y c q h1 q2 (z ▸ h2))
    refine ⟨by rw [upd_ne nap]; exact z1, ?_⟩
    have := z2.mono (r := []) (H' := H) (le_upd (o := x) g) (fun _ e => e)
    simpa using this
theorem Step.frozen {l : Nat} {c : Cell} {x : HO} (wf : Wf K H G m μ) (h1 : μ[l]? = some (some c)) (h2 : m[l]? = some p) : Step H G m μ H (upd G p x) m (μ.set l none) := by
  have hl : l < μ.length := (List.getElem?_eq_some_iff.mp h1).1
  obtain ⟨g, _⟩ := wf.cell l c p h1 h2
  refine ⟨le_upd g, fun a y e _ => e, fun a z => ?_, fun a z => ?_, ⟨[], by simp⟩, fun _ z => z⟩
  · by_cases q : a = p
    · exact .inr (.inr ⟨l, c, h1, q ▸ h2⟩)
    · rw [upd_ne q] at z; exact .inl z
  · obtain ⟨i, y, q1, q2⟩ := z
    by_cases z : l = i
    · subst z; rw [List.getElem?_set_self hl] at q1; cases q1
    · rw [List.getElem?_set_ne z] at q1; exact .inl ⟨i, y, q1, q2⟩
end
end Pd
end
section
namespace Pd
open PySem PySem.Spec L2

def ok {α : Type} (a : α) (μ : Mu) : R α := some (.ok a μ)
section
variable {α β γ : Type} {rep : Hp → List Addr → α → β → Prop} {K : PySem.W.Frag} {W : WX} {σ : L2.St} {H G : Hp} {m : List Addr} {μ : Mu} {Q : β → Hp → Prop}
theorem okA.get {a : α} (h : okA rep K W σ H G m μ (ok a μ) Q) (wf : Wf K H G m μ) {b : β} (r : rep G m a b) : Q b H := h b H G m wf Step.refl r
theorem okA.none_ (h : okA rep K W σ H G m μ none Q) : False := h
end

/-! ### what a datum is, seen through the store -/
def lstOf (μ : Mu) : D → Option (List D)
  | .lst ds => some ds
  | .ref l => match μ[l]? with
    | some (some (.lst ds)) => some ds
    | _ => none
  | _ => none
def seqOf (μ : Mu) : D → Option (List D)
  | .tup ds => some ds
  | d => lstOf μ d
section
variable {K : PySem.W.Frag} {H G : Hp} {m : List Addr} {μ : Mu}
theorem Wf.live_get (wf : Wf K H G m μ) {l : Nat} {c : Cell} {v : V} (h : μ[l]? = some (some c)) (r : RepV K G m (.ref l) v) : ∃ a, v = .ref a ∧ m[l]? = some a ∧ G a = none ∧ CellRep K G m H a c := by
  obtain ⟨a, e, q⟩ := r
  obtain ⟨h1, h2⟩ := wf.cell l c a h q
  exact ⟨a, e, q, h1, h2⟩
theorem lstOf_rep (wf : Wf K H G m μ) {d : D} {v : V} {ds : List D} (h : lstOf μ d = some ds) (r : RepV K G m d v) : ∃ a vs, v = .ref a ∧ SqL K H a vs ∧ RepL K G m ds vs := by
  cases d with
  | lst xs =>
    cases h
    obtain ⟨a, vs, e, q, l⟩ := r
    exact ⟨a, vs, e, wf.sub.sqL q, l⟩
  | ref l =>
    unfold lstOf at h
    dsimp only at h
    split at h
    · rename_i xs e
      cases h
      obtain ⟨a, e1, _, _, vs, q, rl⟩ := wf.live_get e r
      exact ⟨a, vs, e1, .inl (.inl q), rl⟩
    · cases h
  | _ => cases h
theorem seqOf_rep (wf : Wf K H G m μ) {d : D} {v : V} {ds : List D} (h : seqOf μ d = some ds) (r : RepV K G m d v) : ∃ a vs, v = .ref a ∧ (SqL K H a vs ∨ SqT K H a vs) ∧ RepL K G m ds vs := by
  cases d with
  | tup xs =>
    cases h
    obtain ⟨a, vs, e, q, l⟩ := r
    exact ⟨a, vs, e, .inr (wf.sub.sqT q), l⟩
  | lst xs =>
    obtain ⟨a, vs, e, q, l⟩ := lstOf_rep wf (d := .lst xs) h r
    exact ⟨a, vs, e, .inl q, l⟩
  | ref l =>
    obtain ⟨a, vs, e, q, l⟩ := lstOf_rep wf (d := .ref l) h r
    exact ⟨a, vs, e, .inl q, l⟩
  | _ => cases h
end

/-! ### names, constants -/
def varD (i : Nat) : DE := fun sl μ => match sl[i]? with
  | some (some d) => ok d μ
  | _ => none
def cD (d : D) : DE := fun _ μ => ok d μ
section
variable {X : Cx} {W : WX} {pos : Pos}
theorem ped_var {i : Nat} {x : Str} (hN : X.N[i]? = some x) (hv : Vis X.env.scope x) (hd : (x == ("__debug__" : Str)) = false := by decide) (hcd : (x == ("__classdict__" : Str)) = false := by decide) : PE X (.Name x pos) (TD X.K W (varD i)) :=
  PE_imp (pe_var hN hv hd hcd) fun σ H Q ⟨G, m, μ, sl, wf, rs, rl, o⟩ => by
    have o : okA (repV X.K) X.K W σ H G m μ (varD i sl μ) Q := o
    unfold varD at o
    split at o
    · rename_i d e
      obtain ⟨v, h1, h2⟩ := rs.at_ i d e
      exact ⟨v, h1, o.get wf h2⟩
    · exact o.elim
theorem ped_c {e : Expr} {d : D} {v : V} (h : PE X e (tC v)) (r : ∀ G m, RepV X.K G m d v) : PE X e (TD X.K W (cD d)) :=
  PE_imp h fun σ H Q ⟨G, m, μ, sl, wf, rs, rl, o⟩ => okA.get (a := d) o wf (r G m)
theorem ped_int {i j} : PE X (.Constant (.int i) j pos) (TD X.K W (cD (.int i))) := ped_c pe_int fun _ _ => rfl
theorem ped_bl {b j} : PE X (.Constant (.bool b) j pos) (TD X.K W (cD (.bl b))) := ped_c pe_bl fun _ _ => rfl
theorem ped_non {j} : PE X (.Constant .none j pos) (TD X.K W (cD .non)) := ped_c pe_non fun _ _ => rfl
theorem ped_str {x j} : PE X (.Constant (.str x) j pos) (TD X.K W (cD (.str x))) := ped_c pe_str fun _ _ => rfl
theorem ped_glob {x : Str} {d : D} {v : V} {u : Value} (hg : Gl X x) (hm : X.mg x = some u) (r : RelV v u) (rd : ∀ G m, RepV X.K G m d v) (hd : (x == ("__debug__" : Str)) = false := by decide) : PE X (.Name x pos) (TD X.K W (cD d)) := ped_c (pe_glob hg hm r hd) rd
end

/-! ### two operands -/
abbrev D2 := D → D → Mu → R D
def binD (g : D2) (fa fb : DE) : DE := fun sl μ => bindR (fa sl μ) fun x μ1 => bindR (fb sl μ1) fun y μ2 => g x y μ2
def notB (f : Sl → Mu → R Bool) : Sl → Mu → R Bool := fun sl μ => bindR (f sl μ) fun b μ1 => ok (!b) μ1
/-- a True, False as a test -/
def tstD (f : DE) : Sl → Mu → R Bool := fun sl μ => bindR (f sl μ) fun d μ1 => match d with
  | .bl b => ok b μ1
  | _ => none
/-- an operator's rule, for plain data -/
def OpD (X : Cx) (W : WX) (f : Value → Value → Sem Value) (g : D2) : Prop := ∃ r : R2, OpR X f r ∧ ∀ dx dy vx vy σ H G m μ Q, Wf X.K H G m μ → RepV X.K G m dx vx → RepV X.K G m dy vy → okA (repV X.K) X.K W σ H G m μ (g dx dy μ) Q → r vx vy H Q
theorem TB_tst {K : PySem.W.Frag} {W : WX} {f : DE} {σ : L2.St} {H : Hp} {Q : Bool → Hp → Prop} (h : TB K W (tstD f) σ H Q) : TD K W f σ H (fun x H' => ∃ k, x = .bl k ∧ Q k H') := by
  obtain ⟨G, m, μ, sl, wf, rs, rl, o⟩ := h
  refine ⟨G, m, μ, sl, wf, rs, rl, ?_⟩
  have o : okA repB K W σ H G m μ (bindR (f sl μ) _) Q := o
  refine (okA.bind (rep := repV K) o).imp fun v H1 ⟨d, G1, m1, μ1, wf1, st, r, o1⟩ => ?_
  cases d with
  | bl b =>
    have r : v = .bl b := r
    exact ⟨b, r, o1.get wf1 rfl⟩
  | _ => exact o1.elim
section
variable {X : Cx} {W : WX} {pos : Pos} {a b c : Expr} {fa fb fc : DE} {g g' : D2}
theorem bin_imp {r : R2} (hr : ∀ dx dy vx vy σ H G m μ Q, Wf X.K H G m μ → RepV X.K G m dx vx → RepV X.K G m dy vy → okA (repV X.K) X.K W σ H G m μ (g dx dy μ) Q → r vx vy H Q) (σ : L2.St) (H : Hp) (Q : VK) (h : TD X.K W (binD g fa fb) σ H Q) :
    tOp r (TD X.K W fa) (TD X.K W fb) σ H Q := by
  refine (T.bindD h).imp fun v H1 ⟨d, h1⟩ => ?_
  refine (T.bindD h1).imp fun v2 H2 ⟨d2, h2⟩ => ?_
  obtain ⟨G, m, μ, sl, wf, rs, ⟨w1, l1, e1, r2, w2, l2, e2, r1, e3⟩, o⟩ := h2
  cases e1; cases e2
  exact hr d d2 v v2 σ H2 G m μ Q wf r1 r2 o
theorem ped_bin {op : Operator} (ho : OpD X W (binaryOp op) g) (ha : PE X a (TD X.K W fa)) (hb : PE X b (TD X.K W fb)) : PE X (.BinOp a op b pos) (TD X.K W (binD g fa fb)) :=
  let ⟨_, h1, h2⟩ := ho
  PE_imp (pe_op h1 ha hb) (bin_imp h2)
theorem ped_cmp {op : CmpOp} (ho : OpD X W (compareOp op) g) (ha : PE X a (TD X.K W fa)) (hb : PE X b (TD X.K W fb)) (hm : behindInMarks op b = false) : PE X (.Compare a [op] [b] pos) (TD X.K W (binD g fa fb)) :=
  let ⟨_, h1, h2⟩ := ho
  PE_imp (pe_cmpR h1 ha hb hm) (bin_imp h2)
theorem ptd_cmp {op : CmpOp} (ho : OpD X W (compareOp op) g) (ha : PE X a (TD X.K W fa)) (hb : PE X b (TD X.K W fb)) (hm : behindInMarks op b = false) : PT X (.Compare a [op] [b] pos) (TB X.K W (tstD (binD g fa fb))) :=
  let ⟨_, h1, h2⟩ := ho
  PT_imp (pt_cmpR h1 ha hb hm) fun σ H Q h => bin_imp h2 σ H _ (TB_tst h)
/-- a < b < c -/
def chD (g g' : D2) (fa fb fc : DE) : DE := fun sl μ => bindR (fa sl μ) fun x μ1 => bindR (fb sl μ1) fun y μ2 => bindR (g x y μ2) fun z μ3 => match z with
  | .bl true => bindR (fc sl μ3) fun w μ4 => g' y w μ4
  | .bl false => ok (.bl false) μ3
  | _ => none
theorem ch_imp {r r' : R2} (hr : ∀ dx dy vx vy σ H G m μ Q, Wf X.K H G m μ → RepV X.K G m dx vx → RepV X.K G m dy vy → okA (repV X.K) X.K W σ H G m μ (g dx dy μ) Q → r vx vy H Q)
    (hr' : ∀ dx dy vx vy σ H G m μ Q, Wf X.K H G m μ → RepV X.K G m dx vx → RepV X.K G m dy vy → okA (repV X.K) X.K W σ H G m μ (g' dx dy μ) Q → r' vx vy H Q) (σ : L2.St) (H : Hp) (Q : VK) (h : TD X.K W (chD g g' fa fb fc) σ H Q) :
    tChain r r' (TD X.K W fa) (TD X.K W fb) (TD X.K W fc) σ H Q := by
  refine (T.bindD h).imp fun v H1 ⟨d, h1⟩ => ?_
  refine (T.bindD h1).imp fun v2 H2 ⟨d2, h2⟩ => ?_
  obtain ⟨G, m, μ, sl, wf, rs, ⟨w1, l1, e1, r2, w2, l2, e2, r1, e3⟩, o⟩ := h2
  cases e1; cases e2
  refine hr d d2 v v2 σ H2 G m μ _ wf r1 r2 ((okA.bind (rep := repV X.K) o).imp fun z H3 ⟨dz, G3, m3, μ3, wf3, st3, rz, o3⟩ => ?_)
  cases dz with
  | bl k =>
    have rz : z = .bl k := rz
    refine ⟨k, rz, ?_⟩
    cases k with
    | true =>
      refine iteT ?_
      have h3 : T (repV X.K) X.K W [d2] [v2] (fun sl μ => bindR (fc sl μ) fun w μ4 => g' d2 w μ4) σ H3 Q := ⟨G3, m3, μ3, sl, wf3, st3.repS rs, ⟨v2, [], rfl, st3.repV r2, rfl⟩, o3⟩
      refine (T.bindD h3).imp fun v3 H4 ⟨d3, h4⟩ => ?_
      obtain ⟨G, m, μ, sl, wf, rs, ⟨w1, l1, e1, r3, w2, l2, e2, r2, e3⟩, o⟩ := h4
      cases e1; cases e2
      exact hr' d2 d3 v2 v3 σ H4 G m μ Q wf r2 r3 o
    | false => exact iteF (okA.get (a := D.bl false) o3 wf3 rfl)
  | _ => exact o3.elim
theorem ped_chain {op op' : CmpOp} (ho : OpD X W (compareOp op) g) (ho' : OpD X W (compareOp op') g') (ha : PE X a (TD X.K W fa)) (hb : PE X b (TD X.K W fb)) (hc : PE X c (TD X.K W fc)) (hm : lastMarks [op, op'] [b, c] = false := by with_unfolding_all rfl) :
    PE X (.Compare a [op, op'] [b, c] pos) (TD X.K W (chD g g' fa fb fc)) :=
  let ⟨_, h1, h2⟩ := ho
  let ⟨_, h3, h4⟩ := ho'
  PE_imp (pe_chain h1 h3 ha hb hc hm) (ch_imp h2 h4)
theorem ptd_chain {op op' : CmpOp} (ho : OpD X W (compareOp op) g) (ho' : OpD X W (compareOp op') g') (ha : PE X a (TD X.K W fa)) (hb : PE X b (TD X.K W fb)) (hc : PE X c (TD X.K W fc)) (hm : lastMarks [op, op'] [b, c] = false := by with_unfolding_all rfl) :
    PT X (.Compare a [op, op'] [b, c] pos) (TB X.K W (tstD (chD g g' fa fb fc))) :=
  let ⟨_, h1, h2⟩ := ho
  let ⟨_, h3, h4⟩ := ho'
  PT_imp (pt_chain h1 h3 ha hb hc hm) fun σ H Q h => (ch_imp h2 h4 σ H _ (TB_tst h) : tChain _ _ _ _ _ σ H _)
end

/-! ### and, or, not, if else -/
def andB (f g : Sl → Mu → R Bool) : Sl → Mu → R Bool := fun sl μ => bindR (f sl μ) fun b μ1 => if b then g sl μ1 else ok false μ1
def orB (f g : Sl → Mu → R Bool) : Sl → Mu → R Bool := fun sl μ => bindR (f sl μ) fun b μ1 => if b then ok true μ1 else g sl μ1
def blD (f : Sl → Mu → R Bool) : DE := fun sl μ => bindR (f sl μ) fun b μ1 => ok (.bl b) μ1
def andD (f g : DE) : DE := fun sl μ => bindR (f sl μ) fun d μ1 => match d with
  | .bl true => g sl μ1
  | .bl false => ok (.bl false) μ1
  | _ => none
def orD (f g : DE) : DE := fun sl μ => bindR (f sl μ) fun d μ1 => match d with
  | .bl true => ok (.bl true) μ1
  | .bl false => g sl μ1
  | _ => none
def notD (f : DE) : DE := fun sl μ => bindR (f sl μ) fun d μ1 => match d with
  | .bl b => ok (.bl (!b)) μ1
  | _ => none
def ifD (c : Sl → Mu → R Bool) (f g : DE) : DE := fun sl μ => bindR (c sl μ) fun b μ1 => if b then f sl μ1 else g sl μ1
section
variable {K : PySem.W.Frag} {W : WX} {α β : Type} {rep : Hp → List Addr → α → β → Prop}
/-- a test first, then what k makes of it -/
theorem T.bindB {fa : Sl → Mu → R Bool} {k : Sl → Bool → Mu → R α} {σ : L2.St} {H : Hp} {Q : β → Hp → Prop} (h : T rep K W [] [] (fun sl μ => bindR (fa sl μ) (k sl)) σ H Q) :
    TB K W fa σ H (fun b H1 => T rep K W [] [] (fun sl μ => k sl b μ) σ H1 Q) :=
  (T.bind (rep := repB) h).imp fun b H1 ⟨a, G, m, μ, sl, wf, rs, rl, e, o⟩ => by
    have e : a = b := e
    subst e
    exact ⟨G, m, μ, sl, wf, rs, rl, o⟩
theorem T.bindV {fa : DE} {k : Sl → D → Mu → R α} {σ : L2.St} {H : Hp} {Q : β → Hp → Prop} (h : T rep K W [] [] (fun sl μ => bindR (fa sl μ) (k sl)) σ H Q) :
    TD K W fa σ H (fun v H1 => ∃ d, (∃ G m μ sl, Wf K H1 G m μ ∧ RepS K G m sl σ ∧ RepV K G m d v ∧ okA rep K W σ H1 G m μ (k sl d μ) Q)) :=
  (T.bind (rep := repV K) h).imp fun b H1 ⟨a, G, m, μ, sl, wf, rs, rl, e, o⟩ => ⟨a, G, m, μ, sl, wf, rs, e, o⟩
theorem TB_if {c : Sl → Mu → R Bool} {f g : Sl → Mu → R α} {σ : L2.St} {H : Hp} {Q : β → Hp → Prop} (h : T rep K W [] [] (fun sl μ => bindR (c sl μ) fun b μ1 => if b then f sl μ1 else g sl μ1) σ H Q) :
    TB K W c σ H (fun b H1 => if b = true then T rep K W [] [] f σ H1 Q else T rep K W [] [] g σ H1 Q) :=
  (T.bindB h).imp fun b H1 h1 => by cases b <;> exact h1
end
section
variable {X : Cx} {W : WX} {pos : Pos} {a b c : Expr} {rest : List Expr} {fa fb : DE} {ba bb : Sl → Mu → R Bool}
theorem ptd_and1 (ha : PT X a (TB X.K W ba)) : PW X (.BoolOp .And [a] pos) (TB X.K W ba) := pw_and1 ha
theorem ptd_or1 (ha : PT X a (TB X.K W ba)) : PW X (.BoolOp .Or [a] pos) (TB X.K W ba) := pw_or1 ha
theorem PW_imp {e : Expr} {t t' : TT} (h : PW X e t') (w : ∀ σ H Q, t σ H Q → t' σ H Q) : PW X e t := ⟨fun wh pins s σ H Q I q => h.run wh pins s σ H Q I (w σ H Q q)⟩
theorem ptd_and (ha : PT X a (TB X.K W ba)) (hb : PW X (.BoolOp .And (b :: rest) pos) (TB X.K W bb)) : PW X (.BoolOp .And (a :: b :: rest) pos) (TB X.K W (andB ba bb)) :=
  PW_imp (pw_and ha hb) fun σ H Q h => (TB_if (f := bb) (g := fun _ μ => ok false μ) h).imp fun c H1 h1 => by
    cases c with
    | true => exact h1
    | false =>
      obtain ⟨G, m, μ, sl, wf, rs, rl, o⟩ := h1
      exact okA.get (a := false) o wf rfl
theorem ptd_or (ha : PT X a (TB X.K W ba)) (hb : PW X (.BoolOp .Or (b :: rest) pos) (TB X.K W bb)) : PW X (.BoolOp .Or (a :: b :: rest) pos) (TB X.K W (orB ba bb)) :=
  PW_imp (pw_or ha hb) fun σ H Q h => (TB_if (f := fun _ μ => ok true μ) (g := bb) h).imp fun c H1 h1 => by
    cases c with
    | false => exact h1
    | true =>
      obtain ⟨G, m, μ, sl, wf, rs, rl, o⟩ := h1
      exact okA.get (a := true) o wf rfl
theorem ptd_not (ha : PT X a (TB X.K W ba)) : PT X (.UnaryOp .Not a pos) (TB X.K W (notB ba)) :=
  PT_imp (pt_not ha) fun σ H Q h => (T.bindB h).imp fun c H1 h1 => by
    obtain ⟨G, m, μ, sl, wf, rs, rl, o⟩ := h1
    exact okA.get (a := !c) o wf rfl
theorem ped_one {op} (h : PE X a (TD X.K W fa)) : PE X (.BoolOp op [a] pos) (TD X.K W fa) := pe_one h
theorem ped_and (ha : PE X a (TD X.K W fa)) (hb : PE X (.BoolOp .And (b :: rest) pos) (TD X.K W fb)) : PE X (.BoolOp .And (a :: b :: rest) pos) (TD X.K W (andD fa fb)) :=
  PE_imp (pe_and ha hb) fun σ H Q h => (T.bindV h).imp fun v H1 ⟨d, G, m, μ, sl, wf, rs, r, o⟩ => by
    cases d with
    | bl k =>
      have r : v = .bl k := r
      refine ⟨k, r, ?_⟩
      cases k with
      | true => exact iteT ⟨G, m, μ, sl, wf, rs, rfl, o⟩
      | false => exact iteF (okA.get (a := D.bl false) o wf rfl)
    | _ => exact o.elim
theorem ped_or (ha : PE X a (TD X.K W fa)) (hb : PE X (.BoolOp .Or (b :: rest) pos) (TD X.K W fb)) : PE X (.BoolOp .Or (a :: b :: rest) pos) (TD X.K W (orD fa fb)) :=
  PE_imp (pe_or ha hb) fun σ H Q h => (T.bindV h).imp fun v H1 ⟨d, G, m, μ, sl, wf, rs, r, o⟩ => by
    cases d with
    | bl k =>
      have r : v = .bl k := r
      refine ⟨k, r, ?_⟩
      cases k with
      | false => exact iteF ⟨G, m, μ, sl, wf, rs, rfl, o⟩
      | true => exact iteT (okA.get (a := D.bl true) o wf rfl)
    | _ => exact o.elim
theorem ped_not (ha : PE X a (TD X.K W fa)) : PE X (.UnaryOp .Not a pos) (TD X.K W (notD fa)) :=
  PE_imp (pe_not ha) fun σ H Q h => (T.bindV h).imp fun v H1 ⟨d, G, m, μ, sl, wf, rs, r, o⟩ => by
    cases d with
    | bl k =>
      have r : v = .bl k := r
      exact ⟨k, r, okA.get (a := D.bl !k) o wf rfl⟩
    | _ => exact o.elim
theorem ped_if (hc : PT X c (TB X.K W ba)) (ha : PE X a (TD X.K W fa)) (hb : PE X b (TD X.K W fb)) : PE X (.IfExp c a b pos) (TD X.K W (ifD ba fa fb)) :=
  PE_imp (pe_ifExp hc ha hb) fun σ H Q h => TB_if h
/-- an expression of the plain kind as a test -/
def truD (μ : Mu) : D → Option Bool
  | .non => some false
  | .bl b => some b
  | .int i => some (i != 0)
  | .str x => if x.length ≤ sizeLine then some ((x.length : Int) != 0) else none
  | d => (seqOf μ d).map fun ds => !ds.isEmpty
def truB (f : DE) : Sl → Mu → R Bool := fun sl μ => bindR (f sl μ) fun d μ1 => match truD μ1 d with
  | some b => ok b μ1
  | none => none
theorem tru_rep {K : PySem.W.Frag} {H G : Hp} {m : List Addr} {μ : Mu} {d : D} {v : V} {k : Bool} (wf : Wf K H G m μ) (h : truD μ d = some k) (r : RepV K G m d v) : TruV K v H k := by
  have viaSeq : (seqOf μ d).map (fun ds => !ds.isEmpty) = some k → TruV K v H k := fun h => by
    cases e : seqOf μ d with
    | none => rw [e] at h; cases h
    | some ds =>
      rw [e] at h
      have h : (!ds.isEmpty) = k := Option.some.inj h
      obtain ⟨a, vs, rfl, q, l⟩ := seqOf_rep wf e r
      have hl := l.length
      have hk : k = !vs.isEmpty := by
        rw [← h]
        cases ds <;> cases vs <;> first | rfl | (simp at hl)
      rcases q with q | q
      · exact .inl ⟨vs, q, hk⟩
      · exact .inr (.inl ⟨vs, q, hk⟩)
  cases d with
  | non => cases r; cases h; exact rfl
  | bl b => cases r; cases h; exact rfl
  | int i => cases r; cases h; exact rfl
  | str x =>
    cases r
    unfold truD at h
    dsimp only at h
    split at h
    · rename_i hx
      cases h
      exact ⟨hx, rfl⟩
    · cases h
  | _ => exact viaSeq h
theorem ptd_tru (ha : PE X a (TD X.K W fa)) (he : ∀ whole, isTrue a X.env whole = (do let v ← whole; standAt a.pos; holding [v] (truthy v)) := by intro _; rfl) : PT X a (TB X.K W (truB fa)) :=
  PT_imp (pt_truth ha he) fun σ H Q h => (T.bindV h).imp fun v H1 ⟨d, G, m, μ, sl, wf, rs, r, o⟩ => by
    split at o
    · rename_i k e
      exact ⟨k, tru_rep wf e r, okA.get (a := k) o wf rfl⟩
    · exact o.elim
end

/-! ### argument lists; tuples, lists written -/
abbrev DL := Sl → Mu → R (List D)
def oneL (f : DE) : DL := fun sl μ => bindR (f sl μ) fun d μ1 => ok [d] μ1
def starL (f : DE) : DL := fun sl μ => bindR (f sl μ) fun d μ1 => match seqOf μ1 d with
  | some ds => ok ds μ1
  | none => none
def nilL : DL := fun _ μ => ok [] μ
def appL (f g : DL) : DL := fun sl μ => bindR (f sl μ) fun ds μ1 => bindR (g sl μ1) fun es μ2 => ok (ds ++ es) μ2
abbrev consL (f : DE) (g : DL) : DL := fun sl μ => bindR (f sl μ) fun d μ1 => bindR (g sl μ1) fun es μ2 => ok (d :: es) μ2
section
variable {K : PySem.W.Frag} {W : WX} {α β : Type} {rep : Hp → List Addr → α → β → Prop}
theorem T.bindL {ds : List D} {vs : List V} {fa : DL} {k : Sl → List D → Mu → R α} {σ : L2.St} {H : Hp} {Q : β → Hp → Prop} (h : T rep K W ds vs (fun sl μ => bindR (fa sl μ) (k sl)) σ H Q) :
    TDs K W fa σ H (fun ws H1 => ∃ es, (∃ G m μ sl, Wf K H1 G m μ ∧ RepS K G m sl σ ∧ RepL K G m ds vs ∧ RepL K G m es ws ∧ okA rep K W σ H1 G m μ (k sl es μ) Q)) := T.bind (rep := repL K) h
end
section
variable {X : Cx} {W : WX} {pos : Pos} {e : Expr} {es : List Expr} {fa : DE} {fl : DL}
theorem pad_nil : PA X [] (TDs X.K W nilL) := PA_imp pa_nil fun σ H Q ⟨G, m, μ, sl, wf, rs, rl, o⟩ => okA.get (a := ([] : List D)) o wf rfl
theorem pad_cons (ha : PE X e (TD X.K W fa)) (hr : PA X es (TDs X.K W fl)) (hs : starEach (e :: es) X.env = (false, eval e X.env) :: starEach es X.env := by rfl) : PA X (e :: es) (TDs X.K W (consL fa fl)) :=
  PA_imp (pa_cons ha hr hs) fun σ H Q h => (T.bindD h).imp fun v H1 ⟨d, h1⟩ => (T.bindL h1).imp fun ws H2 ⟨es, G, m, μ, sl, wf, rs, ⟨w1, l1, e1, r1, e2⟩, rl, o⟩ => by
    cases e1; cases e2
    exact okA.get (a := d :: es) o wf ⟨v, ws, rfl, r1, rl⟩
def tupD (f : DL) : DE := fun sl μ => bindR (f sl μ) fun ds μ1 => if ds.length ≤ sizeLine then ok (.tup ds) μ1 else none
theorem ped_tup {x1} (h : PA X es (TDs X.K W fl)) : PE X (.Tuple es x1 pos) (TD X.K W (tupD fl)) :=
  PE_imp (pe_tup h) fun σ H Q h => (T.bindL h).imp fun ws H1 ⟨ds, G, m, μ, sl, wf, rs, _, rl, o⟩ => by
    split at o
    · rename_i hz
      refine ⟨by rw [rl.length]; exact hz, fun p hp => ?_⟩
      refine o (.ref p) _ (upd G p (.tup ws)) m (wf.laid hp) (Step.laid wf hp) ⟨p, ws, rfl, .inl (.inl upd_same), ?_⟩
      have := rl.mono (r := []) (le_upd (o := .tup ws) (wf.gnone hp))
      simpa using this
    · exact o.elim
end

/-! ### new lists and dicts: as data, or as things of the store -/
/-- what is wanted of an outcome that is a new object -/
def okF (K : PySem.W.Frag) (W : WX) (σ : L2.St) (H G : Hp) (m : List Addr) (μ : Mu) (r : R D) (Q : VK) : Prop := match r with
  | some (.ok (.lst ds) μ') => ∀ p vs H' G' m', Wf K H' G' m' μ' → Step H G m μ H' G' m' μ' → H' p = none → RepL K G' m' ds vs → Q (.ref p) (upd H' p (.lst vs))
  | some (.ok (.dic ks ds) μ') => ∀ p vs H' G' m', Wf K H' G' m' μ' → Step H G m μ H' G' m' μ' → H' p = none → ks.length = ds.length → RepL K G' m' ds vs → Q (.ref p) (upd H' p (.dK (ks.zip vs)))
  | some (.ok (.dit ks ds) μ') => ∀ p vs H' G' m', Wf K H' G' m' μ' → Step H G m μ H' G' m' μ' → H' p = none → ks.length = ds.length → RepL K G' m' ds vs → Q (.ref p) (upd H' p (.dT (ks.zip vs)))
  | some (.ok _ _) => False
  | some (.exc x μ') => ∀ c dd H' G' m', Wf K H' G' m' μ' → Step H G m μ H' G' m' μ' → ExcRep K H' G' m' x c dd → W c dd σ H'
  | none => False
def TF (K : PySem.W.Frag) (W : WX) (f : DE) : TE := fun σ H Q => ∃ G m μ sl, Wf K H G m μ ∧ RepS K G m sl σ ∧ okF K W σ H G m μ (f sl μ) Q
/-- a new object is put into the store -/
def boxD (f : DE) : DE := fun sl μ => bindR (f sl μ) fun d μ1 => match d with
  | .lst ds => ok (.ref μ1.length) (μ1 ++ [some (.lst ds)])
  | .dic ks ds => ok (.ref μ1.length) (μ1 ++ [some (.dic ks ds)])
  | .dit ks ds => ok (.ref μ1.length) (μ1 ++ [some (.dit ks ds)])
  | _ => none
/-- a new object is plain data (guard: that it is one) -/
def newD (f : DE) : DE := fun sl μ => bindR (f sl μ) fun d μ1 => match d with
  | .lst ds => ok (.lst ds) μ1
  | .dic ks ds => ok (.dic ks ds) μ1
  | .dit ks ds => ok (.dit ks ds) μ1
  | _ => none
section
variable {K : PySem.W.Frag} {W : WX} {f : DE} {σ : L2.St} {H : Hp} {Q : VK}
theorem getE_len {α : Type} {l : List α} {x : α} : (l ++ [x])[l.length]? = some x := by simp
theorem TF.box (h : TD K W (boxD f) σ H Q) : TF K W f σ H Q := by
  obtain ⟨G, m, μ, sl, wf, rs, rl, o⟩ := h
  refine ⟨G, m, μ, sl, wf, rs, ?_⟩
  have o : okA (repV K) K W σ H G m μ (bindR (f sl μ) _) Q := o
  revert o
  cases f sl μ with
  | none => exact fun z => z
  | some q =>
    cases q with
    | exc x μ1 => exact fun z => z
    | ok d μ1 =>
      cases d with
      | lst ds =>
        intro o p vs H' G' m' wf' st hp l
        have cr : CellRep K G' m' (upd H' p (.lst vs)) p (.lst ds) := ⟨vs, upd_same, l⟩
        have wf2 := wf'.boxed hp cr
        exact o (.ref p) _ G' (m' ++ [p]) wf2 (st.trans (Step.boxed wf' hp)) ⟨p, rfl, by rw [← wf'.len]; exact getE_len⟩
      | dic ks ds =>
        intro o p vs H' G' m' wf' st hp hk l
        have cr : CellRep K G' m' (upd H' p (.dK (ks.zip vs))) p (.dic ks ds) := ⟨vs, upd_same, hk, l⟩
        have wf2 := wf'.boxed hp cr
        exact o (.ref p) _ G' (m' ++ [p]) wf2 (st.trans (Step.boxed wf' hp)) ⟨p, rfl, by rw [← wf'.len]; exact getE_len⟩
      | dit ks ds =>
        intro o p vs H' G' m' wf' st hp hk l
        have cr : CellRep K G' m' (upd H' p (.dT (ks.zip vs))) p (.dit ks ds) := ⟨vs, upd_same, hk, l⟩
        have wf2 := wf'.boxed hp cr
        exact o (.ref p) _ G' (m' ++ [p]) wf2 (st.trans (Step.boxed wf' hp)) ⟨p, rfl, by rw [← wf'.len]; exact getE_len⟩
      | _ => exact fun z => z
theorem RepL.laid {G : Hp} {m : List Addr} {ds : List D} {vs : List V} {p : Addr} {o : HO} (l : RepL K G m ds vs) (h : G p = none) : RepL K (upd G p o) m ds vs := by
  have := l.mono (r := []) (le_upd (o := o) h)
  simpa using this
theorem TF.new (h : TD K W (newD f) σ H Q) : TF K W f σ H Q := by
  obtain ⟨G, m, μ, sl, wf, rs, rl, o⟩ := h
  refine ⟨G, m, μ, sl, wf, rs, ?_⟩
  have o : okA (repV K) K W σ H G m μ (bindR (f sl μ) _) Q := o
  revert o
  cases f sl μ with
  | none => exact fun z => z
  | some q =>
    cases q with
    | exc x μ1 => exact fun z => z
    | ok d μ1 =>
      cases d with
      | lst ds =>
        intro o p vs H' G' m' wf' st hp l
        exact o (.ref p) _ (upd G' p (.lst vs)) m' (wf'.laid hp) (st.trans (Step.laid wf' hp)) ⟨p, vs, rfl, .inl (.inl upd_same), l.laid (wf'.gnone hp)⟩
      | dic ks ds =>
        intro o p vs H' G' m' wf' st hp hk l
        exact o (.ref p) _ (upd G' p (.dK (ks.zip vs))) m' (wf'.laid hp) (st.trans (Step.laid wf' hp)) ⟨p, vs, rfl, .inl upd_same, hk, l.laid (wf'.gnone hp)⟩
      | dit ks ds =>
        intro o p vs H' G' m' wf' st hp hk l
        exact o (.ref p) _ (upd G' p (.dT (ks.zip vs))) m' (wf'.laid hp) (st.trans (Step.laid wf' hp)) ⟨p, vs, rfl, .inl upd_same, hk, l.laid (wf'.gnone hp)⟩
      | _ => exact fun z => z
/-- from an outcome of lists -/
theorem TF.ofL {ds : List D} {vs : List V} {fa : DL} {k : List D → Mu → R D} (h : TF K W (fun sl μ => bindR (fa sl μ) k) σ H Q) :
    TDs K W fa σ H (fun ws H1 => ∃ es G m μ sl, Wf K H1 G m μ ∧ RepS K G m sl σ ∧ RepL K G m es ws ∧ okF K W σ H1 G m μ (k es μ) Q) := by
  obtain ⟨G, m, μ, sl, wf, rs, o⟩ := h
  refine ⟨G, m, μ, sl, wf, rs, rfl, ?_⟩
  have o : okF K W σ H G m μ (bindR (fa sl μ) k) Q := o
  revert o
  cases fa sl μ with
  | none => exact fun z => z
  | some q =>
    cases q with
    | exc x μ1 => exact fun z => z
    | ok es μ1 =>
      intro o ws H1 G1 m1 wf1 st1 l1
      refine ⟨es, G1, m1, μ1, sl, wf1, st1.repS rs, l1, ?_⟩
      have o : okF K W σ H G m μ (k es μ1) Q := o
      revert o
      cases k es μ1 with
      | none => exact fun z => z
      | some q2 =>
        cases q2 with
        | exc x μ2 => exact fun o c dd H2 G2 m2 wf2 st2 q => o c dd H2 G2 m2 wf2 (st1.trans st2) q
        | ok d μ2 =>
          cases d with
          | lst ds => exact fun o p vs H2 G2 m2 wf2 st2 hp l => o p vs H2 G2 m2 wf2 (st1.trans st2) hp l
          | dic ks ds => exact fun o p vs H2 G2 m2 wf2 st2 hp hk l => o p vs H2 G2 m2 wf2 (st1.trans st2) hp hk l
          | dit ks ds => exact fun o p vs H2 G2 m2 wf2 st2 hp hk l => o p vs H2 G2 m2 wf2 (st1.trans st2) hp hk l
          | _ => exact fun z => z
theorem okF.lst {G : Hp} {m : List Addr} {μ : Mu} {ds : List D} (h : okF K W σ H G m μ (ok (.lst ds) μ) Q) (wf : Wf K H G m μ) {vs : List V} (l : RepL K G m ds vs) : ∀ p, H p = none → Q (.ref p) (upd H p (.lst vs)) :=
  fun p hp => h p vs H G m wf Step.refl hp l
end
section
variable {X : Cx} {W : WX} {pos : Pos} {e : Expr} {es : List Expr} {f : DE} {fl : DL}
theorem pef_box (h : PE X e (TF X.K W f)) : PE X e (TD X.K W (boxD f)) := PE_imp h fun _ _ _ => TF.box
theorem pef_new (h : PE X e (TF X.K W f)) : PE X e (TD X.K W (newD f)) := PE_imp h fun _ _ _ => TF.new
def lstD (f : DL) : DE := fun sl μ => bindR (f sl μ) fun ds μ1 => if ds.length ≤ sizeLine then ok (.lst ds) μ1 else none
theorem pef_lst (h : PA X es (TDs X.K W fl)) : PE X (.List es pos) (TF X.K W (lstD fl)) :=
  PE_imp (pe_lst h) fun σ H Q h => (TF.ofL (ds := []) (vs := []) h).imp fun ws H1 ⟨ds, G, m, μ, sl, wf, rs, rl, o⟩ => by
    split at o
    · rename_i hz
      exact ⟨by rw [rl.length]; exact hz, okF.lst o wf rl⟩
    · exact o.elim
end
end Pd
end
section
namespace Pd
open PySem PySem.Spec L2

/-! ### operators -/
section
variable {X : Cx} {W : WX}
theorem OpD.mk {f : Value → Value → Sem Value} {g : D2} {r : R2} (h : OpR X f r) (w : ∀ dx dy vx vy σ H G m μ Q, Wf X.K H G m μ → RepV X.K G m dx vx → RepV X.K G m dy vy → okA (repV X.K) X.K W σ H G m μ (g dx dy μ) Q → r vx vy H Q) : OpD X W f g := ⟨r, h, w⟩
/-- one or the other, by the data -/
theorem OpD.or {f : Value → Value → Sem Value} {g g' : D2} (c : D → D → Mu → Bool) (h : OpD X W f g) (h' : OpD X W f g') : OpD X W f (fun x y μ => if c x y μ then g x y μ else g' x y μ) := by
  obtain ⟨r, h1, h2⟩ := h
  obtain ⟨r', h3, h4⟩ := h'
  refine ⟨_, OpR.or h1 h3, fun dx dy vx vy σ H G m μ Q wf rx ry o => ?_⟩
  cases e : c dx dy μ with
  | true => simp only [e, if_true] at o; exact .inl (h2 dx dy vx vy σ H G m μ Q wf rx ry o)
  | false => simp only [e] at o; exact .inr (h4 dx dy vx vy σ H G m μ Q wf rx ry o)
theorem OpD.imp {f : Value → Value → Sem Value} {g g' : D2} (h : OpD X W f g) (w : ∀ x y μ, g' x y μ = g x y μ ∨ g' x y μ = none) : OpD X W f g' := by
  obtain ⟨r, h1, h2⟩ := h
  refine ⟨r, h1, fun dx dy vx vy σ H G m μ Q wf rx ry o => h2 dx dy vx vy σ H G m μ Q wf rx ry ?_⟩
  rcases w dx dy μ with e | e
  · rw [← e]; exact o
  · rw [e] at o; exact o.elim
end
/-- two ints -/
def int2 (C : Int → Int → Bool) (k : Int → Int → D) : D2 := fun x y μ => match x, y with
  | .int i, .int j => if C i j then ok (k i j) μ else none
  | _, _ => none
section
variable {X : Cx} {W : WX}
theorem OpD.int {f : Value → Value → Sem Value} {C : Int → Int → Prop} {Cb : Int → Int → Bool} {k : Int → Int → D} {kV : Int → Int → V} (h : OpR X f (rI C kV)) (hk : ∀ i j G m, RepV X.K G m (k i j) (kV i j)) (hc : ∀ i j, Cb i j = true → C i j) : OpD X W f (int2 Cb k) :=
  .mk h fun dx dy vx vy σ H G m μ Q wf rx ry o => by
    unfold int2 at o
    cases dx with
    | int i =>
      cases dy with
      | int j =>
        dsimp only at o
        by_cases z : Cb i j = true
        · rw [if_pos z] at o
          exact ⟨i, j, rx, ry, hc i j z, o.get wf (hk i j G m)⟩
        · rw [if_neg z] at o; exact o.elim
      | _ => exact o.elim
    | _ => exact o.elim
theorem OpD.int0 {f : Value → Value → Sem Value} {k : Int → Int → D} {kV : Int → Int → V} (h : OpR X f (rI0 kV)) (hk : ∀ i j G m, RepV X.K G m (k i j) (kV i j)) : OpD X W f (int2 (fun _ _ => true) k) :=
  .mk h fun dx dy vx vy σ H G m μ Q wf rx ry o => by
    unfold int2 at o
    cases dx with
    | int i =>
      cases dy with
      | int j => exact ⟨i, j, rx, ry, okA.get (a := k i j) o wf (hk i j G m)⟩
      | _ => exact o.elim
    | _ => exact o.elim
end
def mulOk (i j : Int) : Bool := decide (Builtin.Int.intBits i + Builtin.Int.intBits j ≤ 134217728)
def divOk (_ j : Int) : Bool := decide (j ≠ 0) && decide (j.natAbs.log2 < 9000)
theorem op_fdivX {X : Cx} : OpR X (binaryOp .FloorDiv) (rI (fun _ j => j ≠ 0 ∧ j.natAbs.log2 < 9000) fun i j => .int (i.fdiv j)) := opI fun _ _ _ _ _ _ _ hc q => PyProof.Rows.floordiv_int hc.1 q (.inl (PyProof.noPylong_of_log2 hc.2))
def mulI : D2 := int2 mulOk fun i j => .int (i * j)
def subI : D2 := int2 (fun _ _ => true) fun i j => .int (i - j)
def fdivI : D2 := int2 divOk fun i j => .int (i.fdiv j)
def modI : D2 := int2 (fun _ j => decide (j ≠ 0)) fun i j => .int (i.fmod j)
def powI : D2 := int2 (fun i j => decide (0 ≤ j) && decide (j ≤ 1000000) && decide (i.natAbs < 2 ^ 64)) fun i j => .int (i ^ j.toNat)
section
variable {X : Cx} {W : WX}
theorem od_sub : OpD X W (binaryOp .Sub) subI := .int0 op_sub fun _ _ _ _ => rfl
theorem od_mulI : OpD X W (binaryOp .Mult) mulI := .int op_mulX (fun _ _ _ _ => rfl) fun i j h => by
  have := of_decide_eq_true h
  show (Builtin.Int.intBits i : Int) + (Builtin.Int.intBits j : Int) ≤ 134217728
  omega
theorem od_fdiv : OpD X W (binaryOp .FloorDiv) fdivI := .int op_fdivX (fun _ _ _ _ => rfl) fun i j h => by
  unfold divOk at h
  simpa using h
theorem od_mod : OpD X W (binaryOp .Mod) modI := .int op_modN (fun _ _ _ _ => rfl) fun i j h => by simpa using h
theorem od_pow : OpD X W (binaryOp .Pow) powI := .int op_pow (fun _ _ _ _ => rfl) fun i j h => by
  simp only [Bool.and_eq_true, decide_eq_true_eq] at h
  exact ⟨h.1.1, h.1.2, h.2⟩
end
/-- + of texts, of lists, of tuples -/
def addS : D2 := fun x y μ => match x, y with
  | .str i, .str j => if i.length + j.length ≤ sizeLine then ok (.str (i ++ j)) μ else none
  | _, _ => none
def addL : D2 := fun x y μ => match lstOf μ x, lstOf μ y with
  | some xs, some ys => if xs.length + ys.length ≤ sizeLine then ok (.lst (xs ++ ys)) μ else none
  | _, _ => none
def addT : D2 := fun x y μ => match x, y with
  | .tup xs, .tup ys => if xs.length + ys.length ≤ sizeLine then ok (.tup (xs ++ ys)) μ else none
  | _, _ => none
def addI : D2 := int2 (fun _ _ => true) fun i j => .int (i + j)
theorem op_catX {X : Cx} : OpR X (binaryOp .Add) (fun x y H Q => ∃ l b xs zs, x = .ref l ∧ y = .ref b ∧ SqL X.K H l xs ∧ SqL X.K H b zs ∧ xs.length + zs.length ≤ sizeLine ∧ ∀ p, H p = none → Q (.ref p) (upd H p (.lst (xs ++ zs)))) := by
  intro pins s σ H x y v u Q I rx ry ⟨l, b, xs, zs, ex, ey, h1, h2, hz, q⟩
  subst ex; subst ey
  cases rx; cases ry
  obtain ⟨is, r1, ⟨⟨c1, d1, t1, sl1⟩, n1, o1, k1, _, g1⟩, _⟩ := I.list h1
  obtain ⟨js, r2, ⟨⟨c2, d2, t2, sl2⟩, n2, o2, k2, _, g2⟩, _⟩ := I.list h2
  simp only at k1 g1 k2 g2
  subst k1 g1 k2 g2
  have hl1 := r1.length
  have hl2 := r2.length
  refine concat_meets ⟨_, o1, rfl⟩ ⟨_, o2, rfl⟩ noFill_list_add seq_list_add PySem.F.slot_list_add PySem.F.entry_list_add (PySem.F.args_list_add_2 _ _) (PyProof.Rows.list_addW l b is.toArray js.toArray n1 n2 d1 d2 sl1 sl2 (by simp only [List.size_toArray]; omega)) ⟨o1, o2, ?_⟩
  rw [show is.toArray ++ js.toArray = (is ++ js).toArray by simp]
  exact ⟨.ref _, _, I.lnew (t' := s.toks) (r1.append r2) (by simp only [List.length_append]; omega), rfl, q _ I.fresh⟩
section
variable {X : Cx} {W : WX}
theorem od_addI : OpD X W (binaryOp .Add) addI := .int0 op_add fun _ _ _ _ => rfl
theorem od_addS : OpD X W (binaryOp .Add) addS := .mk op_add_str fun dx dy vx vy σ H G m μ Q wf rx ry o => by
  unfold addS at o
  split at o
  · rename_i i j
    split at o
    · rename_i hz
      exact ⟨i, j, rx, ry, hz, okA.get (a := D.str (i ++ j)) o wf rfl⟩
    · exact o.elim
  · exact o.elim
theorem od_addL : OpD X W (binaryOp .Add) addL := .mk op_catX fun dx dy vx vy σ H G m μ Q wf rx ry o => by
  unfold addL at o
  split at o
  · rename_i xs ys e1 e2
    split at o
    · rename_i hz
      obtain ⟨a, vs, e3, q1, l1⟩ := lstOf_rep wf e1 rx
      obtain ⟨b, ws, e4, q2, l2⟩ := lstOf_rep wf e2 ry
      refine ⟨a, b, vs, ws, e3, e4, q1, q2, by rw [l1.length, l2.length]; exact hz, fun p hp => ?_⟩
      exact o (.ref p) _ (upd G p (.lst (vs ++ ws))) m (wf.laid hp) (Step.laid wf hp) ⟨p, _, rfl, .inl (.inl upd_same), (l1.app l2).laid (wf.gnone hp)⟩
    · exact o.elim
  · exact o.elim
theorem od_addT : OpD X W (binaryOp .Add) addT := .mk op_catA fun dx dy vx vy σ H G m μ Q wf rx ry o => by
  unfold addT at o
  split at o
  · rename_i xs ys
    split at o
    · rename_i hz
      obtain ⟨a, vs, e3, q1, l1⟩ := rx
      obtain ⟨b, ws, e4, q2, l2⟩ := ry
      refine ⟨a, b, vs, ws, e3, e4, wf.sub.sqT q1, wf.sub.sqT q2, by rw [l1.length, l2.length]; exact hz, fun e => ?_, fun _ e => ?_, fun _ _ p hp => ?_⟩
      · subst e
        have hx : xs = [] := by
          have := l1.length
          cases xs with
          | nil => rfl
          | cons _ _ => simp at this
        subst hx
        exact okA.get (a := D.tup ([] ++ ys)) o wf ⟨b, ws, rfl, q2, l2⟩
      · subst e
        have hy : ys = [] := by
          have := l2.length
          cases ys with
          | nil => rfl
          | cons _ _ => simp at this
        subst hy
        refine okA.get (a := D.tup (xs ++ [])) o wf ⟨a, vs, rfl, q1, ?_⟩
        simpa using l1
      · exact o (.ref p) _ (upd G p (.tup (vs ++ ws))) m (wf.laid hp) (Step.laid wf hp) ⟨p, _, rfl, .inl (.inl upd_same), (l1.app l2).laid (wf.gnone hp)⟩
    · exact o.elim
  · exact o.elim
end
def isI : D → Bool
  | .int _ => true
  | _ => false
def isS : D → Bool
  | .str _ => true
  | _ => false
def isT : D → Bool
  | .tup _ => true
  | _ => false
/-- +, by what stands on the left -/
def addD : D2 := fun x y μ => match x with
  | .int _ => addI x y μ
  | .str _ => addS x y μ
  | .tup _ => addT x y μ
  | _ => addL x y μ
section
variable {X : Cx} {W : WX}
theorem od_add : OpD X W (binaryOp .Add) addD := by
  have h := OpD.or (fun x _ _ => isI x) (od_addI (X := X) (W := W)) (OpD.or (fun x _ _ => isS x) od_addS (OpD.or (fun x _ _ => isT x) od_addT od_addL))
  refine h.imp fun x y μ => .inl ?_
  cases x <;> rfl
end
/-- a list so many times -/
def mulL : D2 := fun x y μ => match lstOf μ x, y with
  | some xs, .int k => if -(2 ^ 63) ≤ k ∧ k < 2 ^ 63 ∧ xs.length * k.toNat ≤ sizeLine then ok (.lst (List.replicate k.toNat xs).flatten) μ else none
  | _, _ => none

/-! ### comparisons -/
def cmpI (p : Int → Int → Bool) : D2 := int2 (fun _ _ => true) fun i j => .bl (p i j)
def toPy (μ : Mu) : Nat → D → Option PyData
  | 0, _ => none
  | n + 1, d => match d with
    | .non => some .none
    | .bl b => some (.bool b)
    | .int i => some (.int i)
    | .str x => some (.str x)
    | .tup ds => (ds.mapM (toPy μ n)).map .tuple
    | .lst ds => (ds.mapM (toPy μ n)).map .list
    | .ref l => match μ[l]? with
      | some (some (.lst ds)) => (ds.mapM (toPy μ n)).map .list
      | _ => none
    | _ => none
theorem mapM_cons_some {α β : Type} {f : α → Option β} {x : α} {xs : List α} {ys : List β} (h : (x :: xs).mapM f = some ys) : ∃ y r, f x = some y ∧ xs.mapM f = some r ∧ ys = y :: r := by
  rw [List.mapM_cons] at h
  cases e : f x with
  | none => rw [e] at h; cases h
  | some y =>
    cases e2 : xs.mapM f with
    | none => rw [e, e2] at h; cases h
    | some r => rw [e, e2] at h; cases h; exact ⟨y, r, rfl, rfl, rfl⟩
section
variable {K : PySem.W.Frag} {H G : Hp} {m : List Addr} {μ : Mu}
theorem dpAll_of {n : Nat} (ih : ∀ (d : D) (v : V) (e : PyData), toPy μ n d = some e → RepV K G m d v → Dp K H v e) : ∀ (ds : List D) (vs : List V) (es : List PyData), ds.mapM (toPy μ n) = some es → RepL K G m ds vs → DpAll K H vs es
  | [], vs, es, h, r => by
    cases r
    rw [List.mapM_nil] at h
    cases h
    exact .nil
  | d :: ds, vs, es, h, r => by
    obtain ⟨v, w, rfl, r1, r2⟩ := r
    obtain ⟨y, q, h1, h2, rfl⟩ := mapM_cons_some h
    exact .cons (ih d v y h1 r1) (dpAll_of ih ds w q h2 r2)
theorem toPy_dp (wf : Wf K H G m μ) : ∀ (n : Nat) (d : D) (v : V) (e : PyData), toPy μ n d = some e → RepV K G m d v → Dp K H v e
  | 0, _, _, _, h, _ => by cases h
  | n + 1, d, v, e, h, r => by
    have seqs : ∀ (ds : List D) (vs : List V) (es : List PyData), ds.mapM (toPy μ n) = some es → RepL K G m ds vs → DpAll K H vs es := dpAll_of fun d v e => toPy_dp wf n d v e
    unfold toPy at h
    cases d with
    | non => cases h; cases r; exact .non
    | bl b => cases h; cases r; exact .bl b
    | int i => cases h; cases r; exact .int i
    | str x => cases h; cases r; exact .str x
    | tup ds =>
      dsimp only at h
      cases q : ds.mapM (toPy μ n) with
      | none => rw [q] at h; cases h
      | some es =>
        rw [q] at h; cases h
        obtain ⟨a, vs, rfl, s, l⟩ := r
        exact .tup (wf.sub.sqT s) (seqs ds vs es q l)
    | lst ds =>
      dsimp only at h
      cases q : ds.mapM (toPy μ n) with
      | none => rw [q] at h; cases h
      | some es =>
        rw [q] at h; cases h
        obtain ⟨a, vs, rfl, s, l⟩ := r
        exact .lst (wf.sub.sqL s) (seqs ds vs es q l)
    | ref l =>
      dsimp only at h
      split at h
      · rename_i ds e1
        cases q : ds.mapM (toPy μ n) with
        | none => rw [q] at h; cases h
        | some es =>
          rw [q] at h; cases h
          obtain ⟨a, rfl, _, _, vs, s, l⟩ := wf.live_get e1 r
          exact .lst (.inl (.inl s)) (seqs ds vs es q l)
      · cases h
    | _ => cases h
end
def eqD0 : D2 := fun x y μ => match toPy μ 9 x, toPy μ 9 y with
  | some d, some e => if SeqAt.shaped d && SeqAt.shaped e then ok (.bl (PyData.eqv d e)) μ else none
  | _, _ => none
def neD0 : D2 := fun x y μ => match toPy μ 9 x, toPy μ 9 y with
  | some d, some e => if SeqAt.shaped d && SeqAt.shaped e then ok (.bl (!PyData.eqv d e)) μ else none
  | _, _ => none
/-- two texts -/
def twoS (x y : D) : Option (Str × Str) := match x with
  | .str a => match y with
    | .str b => some (a, b)
    | _ => none
  | _ => none
def eqD : D2 := fun x y μ => match twoS x y with
  | some (a, b) => ok (.bl (decide (a = b))) μ
  | none => eqD0 x y μ
def neD : D2 := fun x y μ => match twoS x y with
  | some (a, b) => ok (.bl (!decide (a = b))) μ
  | none => neD0 x y μ
def isNonD : D → Bool
  | .non => true
  | _ => false
def isBlD : D → Option Bool
  | .bl b => some b
  | _ => none
/-- is None; is True, is False of truths -/
def isD : D2 := fun x y μ => match y with
  | .non => match x with
    | .ref _ => ok (.bl false) μ
    | .cst _ => none
    | _ => ok (.bl (isNonD x)) μ
  | .bl b => match x with
    | .bl a => ok (.bl (decide (a = b))) μ
    | _ => none
  | _ => none
def isnotD : D2 := fun x y μ => match y with
  | .non => match x with
    | .ref _ => ok (.bl true) μ
    | .cst _ => none
    | _ => ok (.bl (!isNonD x)) μ
  | .bl b => match x with
    | .bl a => ok (.bl (!decide (a = b))) μ
    | _ => none
  | _ => none
theorem RepV.non_iff {K : PySem.W.Frag} {G : Hp} {m : List Addr} {d : D} {v : V} (r : RepV K G m d v) (hc : ∀ w, d ≠ .cst w) : decide (v = .non) = isNonD d := by
  cases d with
  | non => cases r; rfl
  | bl b => cases r; rfl
  | int i => cases r; rfl
  | str x => cases r; rfl
  | tup ds => obtain ⟨a, vs, rfl, _⟩ := r; rfl
  | lst ds => obtain ⟨a, vs, rfl, _⟩ := r; rfl
  | dic ks ds => obtain ⟨a, vs, rfl, _⟩ := r; rfl
  | dit ks ds => obtain ⟨a, vs, rfl, _⟩ := r; rfl
  | cst w => exact absurd rfl (hc w)
  | ref l => obtain ⟨a, rfl, _⟩ := r; rfl
  | exn a d fs xs => obtain ⟨rfl, _⟩ := r; rfl
section
variable {X : Cx} {W : WX}
theorem od_lt : OpD X W (compareOp .Lt) (cmpI fun i j => decide (i < j)) := .int0 op_lt fun _ _ _ _ => rfl
theorem od_le : OpD X W (compareOp .LtE) (cmpI fun i j => decide (i ≤ j)) := .int0 op_le fun _ _ _ _ => rfl
theorem od_gt : OpD X W (compareOp .Gt) (cmpI fun i j => decide (j < i)) := .int0 op_gt fun _ _ _ _ => rfl
theorem od_ge : OpD X W (compareOp .GtE) (cmpI fun i j => decide (j ≤ i)) := .int0 op_ge fun _ _ _ _ => rfl
theorem od_eq0 (hu : X.A.units + 64 < cLine) : OpD X W (compareOp .Eq) eqD0 := .mk (op_eqD hu) fun dx dy vx vy σ H G m μ Q wf rx ry o => by
  unfold eqD0 at o
  split at o
  · rename_i d e h1 h2
    split at o
    · rename_i z
      have z := Bool.and_eq_true_iff.mp z
      exact ⟨d, e, toPy_dp wf _ _ _ _ h1 rx, toPy_dp wf _ _ _ _ h2 ry, z.1, z.2, okA.get (a := D.bl (PyData.eqv d e)) o wf rfl⟩
    · exact o.elim
  · exact o.elim
theorem od_ne0 (hu : X.A.units + 64 < cLine) : OpD X W (compareOp .NotEq) neD0 := .mk (op_neD hu) fun dx dy vx vy σ H G m μ Q wf rx ry o => by
  unfold neD0 at o
  split at o
  · rename_i d e h1 h2
    split at o
    · rename_i z
      have z := Bool.and_eq_true_iff.mp z
      exact ⟨d, e, toPy_dp wf _ _ _ _ h1 rx, toPy_dp wf _ _ _ _ h2 ry, z.1, z.2, okA.get (a := D.bl (!PyData.eqv d e)) o wf rfl⟩
    · exact o.elim
  · exact o.elim
theorem dec_str {a b : Str} : decide (V.str a = V.str b) = decide (a = b) := by
  by_cases h : a = b
  · subst h; simp
  · rw [decide_eq_false h, decide_eq_false fun z => h (V.str.inj z)]
theorem od_eqS : OpD X W (compareOp .Eq) (fun x y μ => match twoS x y with
    | some (a, b) => ok (.bl (decide (a = b))) μ
    | none => none) := .mk op_eq fun dx dy vx vy σ H G m μ Q wf rx ry o => by
  cases dx with
  | str a =>
    cases dy with
    | str b =>
      cases rx; cases ry
      exact ⟨rfl, by rw [dec_str]; exact okA.get (a := D.bl (decide (a = b))) o wf rfl⟩
    | _ => exact o.elim
  | _ => exact o.elim
theorem od_neS : OpD X W (compareOp .NotEq) (fun x y μ => match twoS x y with
    | some (a, b) => ok (.bl (!decide (a = b))) μ
    | none => none) := .mk op_ne fun dx dy vx vy σ H G m μ Q wf rx ry o => by
  cases dx with
  | str a =>
    cases dy with
    | str b =>
      cases rx; cases ry
      exact ⟨rfl, by rw [dec_str]; exact okA.get (a := D.bl (!decide (a = b))) o wf rfl⟩
    | _ => exact o.elim
  | _ => exact o.elim
theorem od_eq (hu : X.A.units + 64 < cLine) : OpD X W (compareOp .Eq) eqD := by
  refine (OpD.or (fun x y _ => (twoS x y).isSome) od_eqS (od_eq0 hu)).imp fun x y μ => .inl ?_
  unfold eqD
  cases twoS x y <;> rfl
theorem od_ne (hu : X.A.units + 64 < cLine) : OpD X W (compareOp .NotEq) neD := by
  refine (OpD.or (fun x y _ => (twoS x y).isSome) od_neS (od_ne0 hu)).imp fun x y μ => .inl ?_
  unfold neD
  cases twoS x y <;> rfl
theorem od_is : OpD X W (compareOp .Is) isD := .mk (OpR.or op_isN op_is_bl) fun dx dy vx vy σ H G m μ Q wf rx ry o => by
  unfold isD at o
  cases dy with
  | non =>
    have ry : vy = .non := ry
    refine .inl ⟨ry, ?_⟩
    cases dx with
    | ref l =>
      rw [rx.non_iff (fun _ q => by cases q)]
      exact okA.get (a := D.bl false) o wf rfl
    | cst w => exact o.elim
    | _ =>
      rw [rx.non_iff (fun _ q => by cases q)]
      exact okA.get (a := D.bl _) o wf rfl
  | bl b =>
    cases dx with
    | bl a => exact .inr ⟨a, b, rx, ry, okA.get (a := D.bl _) o wf rfl⟩
    | _ => exact o.elim
  | _ => exact o.elim
theorem od_isnot : OpD X W (compareOp .IsNot) isnotD := .mk (OpR.or op_notN op_isnot_bl) fun dx dy vx vy σ H G m μ Q wf rx ry o => by
  unfold isnotD at o
  cases dy with
  | non =>
    have ry : vy = .non := ry
    refine .inl ⟨ry, ?_⟩
    cases dx with
    | ref l =>
      rw [rx.non_iff (fun _ q => by cases q)]
      exact okA.get (a := D.bl true) o wf rfl
    | cst w => exact o.elim
    | _ =>
      rw [rx.non_iff (fun _ q => by cases q)]
      exact okA.get (a := D.bl _) o wf rfl
  | bl b =>
    cases dx with
    | bl a => exact .inr ⟨a, b, rx, ry, okA.get (a := D.bl _) o wf rfl⟩
    | _ => exact o.elim
  | _ => exact o.elim
end

/-! ### one operand; built-ins called -/
def unD (g : D → Mu → R D) (f : DE) : DE := fun sl μ => bindR (f sl μ) g
def negI : D → Mu → R D
  | .int i, μ => ok (.int (-i)) μ
  | _, _ => none
section
variable {X : Cx} {W : WX} {pos : Pos} {a : Expr} {fa : DE}
theorem ped_neg (ha : PE X a (TD X.K W fa)) : PE X (.UnaryOp .USub a pos) (TD X.K W (unD negI fa)) :=
  PE_imp (pe_un un_neg ha) fun σ H Q h => (T.bindV h).imp fun v H1 ⟨d, G, m, μ, sl, wf, rs, r, o⟩ => by
    cases d with
    | int i => exact ⟨i, r, okA.get (a := D.int (-i)) o wf rfl⟩
    | _ => exact o.elim
end
/-- a call's rule, for plain data -/
abbrev DC := List D → Mu → R D
def CallD (X : Cx) (W : WX) (f : Value) (g : DC) : Prop := ∃ r, CallR X f r ∧ ∀ ds vs σ H G m μ Q, Wf X.K H G m μ → RepL X.K G m ds vs → okA (repV X.K) X.K W σ H G m μ (g ds μ) Q → r vs H Q
/-- .. whose value is a new list or dict -/
def CallF (X : Cx) (W : WX) (f : Value) (g : DC) : Prop := ∃ r, CallR X f r ∧ ∀ ds vs σ H G m μ Q, Wf X.K H G m μ → RepL X.K G m ds vs → okF X.K W σ H G m μ (g ds μ) Q → r vs H Q
def callB (g : DC) (f : DL) : DE := fun sl μ => bindR (f sl μ) g
section
variable {X : Cx} {W : WX} {pos p : Pos} {x : Str} {e : Expr} {es : List Expr} {fl : DL} {g g' : DC} {id T : String}
theorem CallD.imp {f : Value} (h : CallD X W f g) (w : ∀ ds μ, g' ds μ = g ds μ ∨ g' ds μ = none) : CallD X W f g' := by
  obtain ⟨r, h1, h2⟩ := h
  refine ⟨r, h1, fun ds vs σ H G m μ Q wf rl o => h2 ds vs σ H G m μ Q wf rl ?_⟩
  rcases w ds μ with e | e
  · rw [← e]; exact o
  · rw [e] at o; exact o.elim
theorem CallD.or {f : Value} (c : List D → Mu → Bool) (h : CallD X W f g) (h' : CallD X W f g') : CallD X W f (fun ds μ => if c ds μ then g ds μ else g' ds μ) := by
  obtain ⟨r, h1, h2⟩ := h
  obtain ⟨r', h3, h4⟩ := h'
  refine ⟨_, CallR.or h1 h3, fun ds vs σ H G m μ Q wf rl o => ?_⟩
  cases e : c ds μ with
  | true => simp only [e, if_true] at o; exact .inl (h2 ds vs σ H G m μ Q wf rl o)
  | false => simp only [e] at o; exact .inr (h4 ds vs σ H G m μ Q wf rl o)
theorem callB_imp {r : List V → Hp → VK → Prop} (hr : ∀ ds vs σ H G m μ Q, Wf X.K H G m μ → RepL X.K G m ds vs → okA (repV X.K) X.K W σ H G m μ (g ds μ) Q → r vs H Q) (σ : L2.St) (H : Hp) (Q : VK) (h : TD X.K W (callB g fl) σ H Q) : tCB r (TDs X.K W fl) σ H Q :=
  (T.bindL h).imp fun ws H1 ⟨ds, G, m, μ, sl, wf, rs, _, rl, o⟩ => hr ds ws σ H1 G m μ Q wf rl o
theorem callF_imp {r : List V → Hp → VK → Prop} (hr : ∀ ds vs σ H G m μ Q, Wf X.K H G m μ → RepL X.K G m ds vs → okF X.K W σ H G m μ (g ds μ) Q → r vs H Q) (σ : L2.St) (H : Hp) (Q : VK) (h : TF X.K W (callB g fl) σ H Q) : tCB r (TDs X.K W fl) σ H Q :=
  (TF.ofL (ds := []) (vs := []) h).imp fun ws H1 ⟨ds, G, m, μ, sl, wf, rs, rl, o⟩ => hr ds ws σ H1 G m μ Q wf rl o
theorem ped_callB (hc : CallD X W (.builtin id) g) (hg : Gl X x) (hm : X.mg x = none) (hv : bootBuiltins x = some (.builtin id)) (ha : PA X (e :: es) (TDs X.K W fl)) (hn : x ≠ "__name__" := by decide) (hdb : (x == ("__debug__" : Str)) = false := by decide)
    (he : starEach (e :: es) X.env = (false, eval e X.env) :: starEach es X.env := by rfl) (hpl : (backTo pos (starEach es X.env)).any (·.1) = false := by rfl) : PE X (.Call (.Name x p) (e :: es) [] pos) (TD X.K W (callB g fl)) :=
  let ⟨_, h1, h2⟩ := hc
  PE_imp (pe_callB h1 hg hm hv ha hn hdb he hpl) (callB_imp h2)
theorem ped_callTy (hc : CallD X W (.type T) g) (hg : Gl X x) (hm : X.mg x = none) (hv : bootBuiltins x = some (.type T)) (ha : PA X (e :: es) (TDs X.K W fl)) (hn : x ≠ "__name__" := by decide) (hdb : (x == ("__debug__" : Str)) = false := by decide)
    (he : starEach (e :: es) X.env = (false, eval e X.env) :: starEach es X.env := by rfl) (hpl : (backTo pos (starEach es X.env)).any (·.1) = false := by rfl) : PE X (.Call (.Name x p) (e :: es) [] pos) (TD X.K W (callB g fl)) :=
  let ⟨_, h1, h2⟩ := hc
  PE_imp (pe_callTy h1 hg hm hv ha hn hdb he hpl) (callB_imp h2)
theorem pef_callB (hc : CallF X W (.builtin id) g) (hg : Gl X x) (hm : X.mg x = none) (hv : bootBuiltins x = some (.builtin id)) (ha : PA X (e :: es) (TDs X.K W fl)) (hn : x ≠ "__name__" := by decide) (hdb : (x == ("__debug__" : Str)) = false := by decide)
    (he : starEach (e :: es) X.env = (false, eval e X.env) :: starEach es X.env := by rfl) (hpl : (backTo pos (starEach es X.env)).any (·.1) = false := by rfl) : PE X (.Call (.Name x p) (e :: es) [] pos) (TF X.K W (callB g fl)) :=
  let ⟨_, h1, h2⟩ := hc
  PE_imp (pe_callB h1 hg hm hv ha hn hdb he hpl) (callF_imp h2)
theorem pef_callTy (hc : CallF X W (.type T) g) (hg : Gl X x) (hm : X.mg x = none) (hv : bootBuiltins x = some (.type T)) (ha : PA X (e :: es) (TDs X.K W fl)) (hn : x ≠ "__name__" := by decide) (hdb : (x == ("__debug__" : Str)) = false := by decide)
    (he : starEach (e :: es) X.env = (false, eval e X.env) :: starEach es X.env := by rfl) (hpl : (backTo pos (starEach es X.env)).any (·.1) = false := by rfl) : PE X (.Call (.Name x p) (e :: es) [] pos) (TF X.K W (callB g fl)) :=
  let ⟨_, h1, h2⟩ := hc
  PE_imp (pe_callTy h1 hg hm hv ha hn hdb he hpl) (callF_imp h2)
end
/-! built-ins -/
def dcLen : DC := fun ds μ => match ds with
  | [.str x] => if x.length ≤ sizeLine then ok (.int x.length) μ else none
  | [d] => match seqOf μ d with
    | some xs => ok (.int xs.length) μ
    | none => none
  | _ => none
def dcAbs : DC := fun ds μ => match ds with
  | [.int i] => ok (.int (if i < 0 then -i else i)) μ
  | _ => none
def dcMax2 : DC := fun ds μ => match ds with
  | [.int i, .int j] => ok (.int (if j > i then j else i)) μ
  | _ => none
def dcMin2 : DC := fun ds μ => match ds with
  | [.int i, .int j] => ok (.int (if j < i then j else i)) μ
  | _ => none
def dcInt : DC := fun ds μ => match ds with
  | [.int i] => ok (.int i) μ
  | [.bl b] => ok (.int (if b then 1 else 0)) μ
  | _ => none
def dcGcd : DC := fun ds μ => match ds with
  | [.int a, .int b] => ok (.int ((Nat.gcd a.natAbs b.natAbs : Nat) : Int)) μ
  | _ => none
def intsOf : List D → Option (List Int)
  | [] => some []
  | .int i :: r => (intsOf r).map (i :: ·)
  | _ :: _ => none
def blsOf : List D → Option (List Bool)
  | [] => some []
  | .bl b :: r => (blsOf r).map (b :: ·)
  | _ :: _ => none
theorem intsOf_rep {K : PySem.W.Frag} {G : Hp} {m : List Addr} : ∀ {ds : List D} {vs : List V} {ns : List Int}, intsOf ds = some ns → RepL K G m ds vs → vs = ns.map V.int
  | [], _, _, h, r => by cases h; cases r; rfl
  | d :: ds, _, ns, h, r => by
    obtain ⟨v, w, rfl, r1, r2⟩ := r
    cases d with
    | int i =>
      unfold intsOf at h
      cases e : intsOf ds with
      | none => rw [e] at h; cases h
      | some q =>
        rw [e] at h; cases h
        cases r1
        rw [intsOf_rep e r2]; rfl
    | _ => cases h
theorem blsOf_rep {K : PySem.W.Frag} {G : Hp} {m : List Addr} : ∀ {ds : List D} {vs : List V} {ns : List Bool}, blsOf ds = some ns → RepL K G m ds vs → vs = ns.map V.bl
  | [], _, _, h, r => by cases h; cases r; rfl
  | d :: ds, _, ns, h, r => by
    obtain ⟨v, w, rfl, r1, r2⟩ := r
    cases d with
    | bl i =>
      unfold blsOf at h
      cases e : blsOf ds with
      | none => rw [e] at h; cases h
      | some q =>
        rw [e] at h; cases h
        cases r1
        rw [blsOf_rep e r2]; rfl
    | _ => cases h
def dcSum : DC := fun ds μ => match ds with
  | [d] => match (lstOf μ d).bind intsOf with
    | some ns => ok (.int ns.sum) μ
    | none => none
  | _ => none
def dcAny : DC := fun ds μ => match ds with
  | [d] => match (lstOf μ d).bind blsOf with
    | some bs => ok (.bl (bs.any id)) μ
    | none => none
  | _ => none
def dcAll : DC := fun ds μ => match ds with
  | [d] => match (lstOf μ d).bind blsOf with
    | some bs => ok (.bl (bs.all id)) μ
    | none => none
  | _ => none
def dcTuple : DC := fun ds μ => match ds with
  | [d] => match seqOf μ d with
    | some xs => ok (.tup xs) μ
    | none => none
  | _ => none
/-- list(x) of a list, a tuple -/
def dcList : DC := fun ds μ => match ds with
  | [d] => match seqOf μ d with
    | some xs => ok (.lst xs) μ
    | none => none
  | _ => none
section
variable {X : Cx} {W : WX}
theorem repL1 {K : PySem.W.Frag} {G : Hp} {m : List Addr} {d : D} {vs : List V} (r : RepL K G m [d] vs) : ∃ v, vs = [v] ∧ RepV K G m d v := by
  obtain ⟨v, w, rfl, r1, r2⟩ := r
  cases r2
  exact ⟨v, rfl, r1⟩
theorem repL2 {K : PySem.W.Frag} {G : Hp} {m : List Addr} {d e : D} {vs : List V} (r : RepL K G m [d, e] vs) : ∃ v w, vs = [v, w] ∧ RepV K G m d v ∧ RepV K G m e w := by
  obtain ⟨v, w, rfl, r1, r2⟩ := r
  obtain ⟨u, rfl, r3⟩ := repL1 r2
  exact ⟨v, u, rfl, r1, r3⟩
theorem cd_len : CallD X W (.builtin "len") dcLen := ⟨_, call_len, fun ds vs σ H G m μ Q wf rl o => by
  unfold dcLen at o
  split at o
  · rename_i x
    obtain ⟨v, rfl, r⟩ := repL1 rl
    split at o
    · rename_i hz
      have r : v = .str x := r
      subst r
      exact ⟨_, x.length, rfl, ⟨hz, rfl⟩, okA.get (a := D.int _) o wf rfl⟩
    · exact o.elim
  · rename_i d hd
    obtain ⟨v, rfl, r⟩ := repL1 rl
    split at o
    · rename_i xs e
      obtain ⟨a, ws, rfl, q, l⟩ := seqOf_rep wf e r
      refine ⟨_, ws.length, rfl, ?_, ?_⟩
      · rcases q with q | q
        · exact .inl ⟨ws, q, rfl⟩
        · exact .inr ⟨ws, q, rfl⟩
      · rw [l.length]; exact okA.get (a := D.int _) o wf rfl
    · exact o.elim
  · exact o.elim⟩
theorem cd_abs : CallD X W (.builtin "abs") dcAbs := ⟨_, call_abs, fun ds vs σ H G m μ Q wf rl o => by
  unfold dcAbs at o
  split at o
  · rename_i i
    obtain ⟨v, rfl, r⟩ := repL1 rl
    cases r
    exact ⟨i, rfl, okA.get (a := D.int _) o wf rfl⟩
  · exact o.elim⟩
theorem cd_max2 (hc : X.calm = true) : CallD X W (.builtin "max") dcMax2 := ⟨_, call_max2 hc, fun ds vs σ H G m μ Q wf rl o => by
  unfold dcMax2 at o
  split at o
  · rename_i i j
    obtain ⟨v, w, rfl, r, r'⟩ := repL2 rl
    cases r; cases r'
    exact ⟨i, j, rfl, okA.get (a := D.int _) o wf rfl⟩
  · exact o.elim⟩
theorem cd_min2 (hc : X.calm = true) : CallD X W (.builtin "min") dcMin2 := ⟨_, call_min2 hc, fun ds vs σ H G m μ Q wf rl o => by
  unfold dcMin2 at o
  split at o
  · rename_i i j
    obtain ⟨v, w, rfl, r, r'⟩ := repL2 rl
    cases r; cases r'
    exact ⟨i, j, rfl, okA.get (a := D.int _) o wf rfl⟩
  · exact o.elim⟩
theorem cd_int : CallD X W (.type "int") dcInt := ⟨_, call_int1, fun ds vs σ H G m μ Q wf rl o => by
  unfold dcInt at o
  split at o
  · rename_i i
    obtain ⟨v, rfl, r⟩ := repL1 rl
    cases r
    exact .inl ⟨i, rfl, okA.get (a := D.int _) o wf rfl⟩
  · rename_i b
    obtain ⟨v, rfl, r⟩ := repL1 rl
    cases r
    exact .inr ⟨b, rfl, okA.get (a := D.int _) o wf rfl⟩
  · exact o.elim⟩
theorem cd_gcd : CallD X W (.builtin "math.gcd") dcGcd := ⟨_, cr_gcd, fun ds vs σ H G m μ Q wf rl o => by
  unfold dcGcd at o
  split at o
  · rename_i i j
    obtain ⟨v, w, rfl, r, r'⟩ := repL2 rl
    cases r; cases r'
    exact ⟨i, j, rfl, okA.get (a := D.int _) o wf rfl⟩
  · exact o.elim⟩
theorem lst_bind {α : Type} {f : List D → Option α} {o : Option (List D)} {r : α} (h : o.bind f = some r) : ∃ ds, o = some ds ∧ f ds = some r := by
  cases o with
  | none => cases h
  | some ds => exact ⟨ds, rfl, h⟩
theorem cd_sum (hc : X.calm = true) : CallD X W (.builtin "sum") dcSum := ⟨_, cr_sum hc, fun ds vs σ H G m μ Q wf rl o => by
  unfold dcSum at o
  split at o
  · rename_i d
    obtain ⟨v, rfl, r⟩ := repL1 rl
    split at o
    · rename_i ns e
      obtain ⟨xs, e1, e2⟩ := lst_bind e
      obtain ⟨a, ws, rfl, q, l⟩ := lstOf_rep wf e1 r
      have := intsOf_rep e2 l
      subst this
      exact ⟨a, ns, rfl, q, okA.get (a := D.int _) o wf rfl⟩
    · exact o.elim
  · exact o.elim⟩
theorem cd_any (hc : X.calm = true) : CallD X W (.builtin "any") dcAny := ⟨_, cr_any hc, fun ds vs σ H G m μ Q wf rl o => by
  unfold dcAny at o
  split at o
  · rename_i d
    obtain ⟨v, rfl, r⟩ := repL1 rl
    split at o
    · rename_i ns e
      obtain ⟨xs, e1, e2⟩ := lst_bind e
      obtain ⟨a, ws, rfl, q, l⟩ := lstOf_rep wf e1 r
      have := blsOf_rep e2 l
      subst this
      exact ⟨a, ns, rfl, q, okA.get (a := D.bl _) o wf rfl⟩
    · exact o.elim
  · exact o.elim⟩
theorem cd_all (hc : X.calm = true) : CallD X W (.builtin "all") dcAll := ⟨_, cr_all hc, fun ds vs σ H G m μ Q wf rl o => by
  unfold dcAll at o
  split at o
  · rename_i d
    obtain ⟨v, rfl, r⟩ := repL1 rl
    split at o
    · rename_i ns e
      obtain ⟨xs, e1, e2⟩ := lst_bind e
      obtain ⟨a, ws, rfl, q, l⟩ := lstOf_rep wf e1 r
      have := blsOf_rep e2 l
      subst this
      exact ⟨a, ns, rfl, q, okA.get (a := D.bl _) o wf rfl⟩
    · exact o.elim
  · exact o.elim⟩
theorem seqOf_rep' {K : PySem.W.Frag} {H G : Hp} {m : List Addr} {μ : Mu} (wf : Wf K H G m μ) {d : D} {v : V} {ds : List D} (h : seqOf μ d = some ds) (r : RepV K G m d v) : ∃ a vs, v = .ref a ∧ RepL K G m ds vs ∧ (SqL K H a vs ∨ (SqT K H a vs ∧ RepV K G m (.tup ds) v)) := by
  cases d with
  | tup xs =>
    cases h
    obtain ⟨a, vs, e, q, l⟩ := r
    exact ⟨a, vs, e, l, .inr ⟨wf.sub.sqT q, ⟨a, vs, e, q, l⟩⟩⟩
  | lst xs =>
    obtain ⟨a, vs, e, q, l⟩ := lstOf_rep wf (d := .lst xs) h r
    exact ⟨a, vs, e, l, .inl q⟩
  | ref l =>
    obtain ⟨a, vs, e, q, l⟩ := lstOf_rep wf (d := .ref l) h r
    exact ⟨a, vs, e, l, .inl q⟩
  | _ => cases h
theorem cd_tuple : CallD X W (.type "tuple") dcTuple := ⟨_, call_tuple_of, fun ds vs σ H G m μ Q wf rl o => by
  unfold dcTuple at o
  split at o
  · rename_i d
    obtain ⟨v, rfl, r⟩ := repL1 rl
    split at o
    · rename_i xs e
      obtain ⟨a, ws, rfl, l, q⟩ := seqOf_rep' wf e r
      refine ⟨a, ws, rfl, ?_⟩
      rcases q with q | ⟨q, rt⟩
      · refine .inl ⟨q, fun p hp => ?_⟩
        exact o (.ref p) _ (upd G p (.tup ws)) m (wf.laid hp) (Step.laid wf hp) ⟨p, ws, rfl, .inl (.inl upd_same), l.laid (wf.gnone hp)⟩
      · exact .inr ⟨q, okA.get (a := D.tup xs) o wf rt⟩
    · exact o.elim
  · exact o.elim⟩
theorem cf_list : CallF X W (.type "list") dcList := ⟨_, call_list_of, fun ds vs σ H G m μ Q wf rl o => by
  unfold dcList at o
  split at o
  · rename_i d
    obtain ⟨v, rfl, r⟩ := repL1 rl
    split at o
    · rename_i xs e
      obtain ⟨a, ws, rfl, q, l⟩ := seqOf_rep wf e r
      exact ⟨a, ws, rfl, q, okF.lst o wf l⟩
    · exact o.elim
  · exact o.elim⟩
end
end Pd
end
section
namespace Pd
open PySem PySem.Spec L2

/-! ### dicts as data -/
def keyOf : D → Option Key
  | .int i => some (.inl i)
  | .str x => some (.inr x)
  | _ => none
def keyD : Key → D
  | .inl i => .int i
  | .inr x => .str x
theorem keyOf_rep {K : PySem.W.Frag} {G : Hp} {m : List Addr} {d : D} {k : Key} {v : V} (h : keyOf d = some k) (r : RepV K G m d v) : v = kV k := by
  cases d with
  | int i => cases h; exact r
  | str x => cases h; exact r
  | _ => cases h
theorem keyD_rep {K : PySem.W.Frag} {G : Hp} {m : List Addr} (k : Key) : RepV K G m (keyD k) (kV k) := by cases k <;> exact rfl
def dicOf (μ : Mu) : D → Option (List Key × List D)
  | .dic ks ds => some (ks, ds)
  | .ref l => match μ[l]? with
    | some (some (.dic ks ds)) => some (ks, ds)
    | _ => none
  | _ => none
theorem dicOf_rep {K : PySem.W.Frag} {H G : Hp} {m : List Addr} {μ : Mu} (wf : Wf K H G m μ) {d : D} {v : V} {ks : List Key} {ds : List D} (h : dicOf μ d = some (ks, ds)) (r : RepV K G m d v) :
    ∃ a vs, v = .ref a ∧ Rd H a (.dK (ks.zip vs)) ∧ ks.length = ds.length ∧ RepL K G m ds vs := by
  cases d with
  | dic xs ys =>
    cases h
    obtain ⟨a, vs, e, q, z, l⟩ := r
    exact ⟨a, vs, e, wf.sub.rd q, z, l⟩
  | ref l =>
    unfold dicOf at h
    dsimp only at h
    split at h
    · rename_i xs ys e
      cases h
      obtain ⟨a, e1, _, _, vs, q, z, rl⟩ := wf.live_get e r
      exact ⟨a, vs, e1, .inl q, z, rl⟩
    · cases h
  | _ => cases h
section
variable {α β : Type} {κ : Type} [DecidableEq κ]
def dgetA : List κ → List α → κ → Option α
  | k' :: ks, x :: xs, k => if k' = k then some x else dgetA ks xs k
  | _, _, _ => none
def replA : List κ → List α → κ → α → List α
  | k' :: ks, x :: xs, k, y => (if k' = k then y else x) :: replA ks xs k y
  | _, xs, _, _ => xs
def putKs (ks : List κ) (k : κ) : List κ := if k ∈ ks then ks else ks ++ [k]
def putXs (ks : List κ) (xs : List α) (k : κ) (y : α) : List α := if k ∈ ks then replA ks xs k y else xs ++ [y]
theorem replA_length : ∀ (ks : List κ) (xs : List α) (k : κ) (y : α), (replA ks xs k y).length = xs.length
  | [], xs, _, _ => by cases xs <;> rfl
  | _ :: _, [], _, _ => rfl
  | k' :: ks, x :: xs, k, y => by simp [replA, replA_length ks xs k y]
theorem putLen {ks : List κ} {xs : List α} (h : ks.length = xs.length) (k : κ) (y : α) : (putKs ks k).length = (putXs ks xs k y).length := by
  unfold putKs putXs
  split
  · rw [replA_length]; exact h
  · simp [h]
end
section
variable {κ : Type} [DecidableEq κ] {K : PySem.W.Frag} {G : Hp} {m : List Addr}
theorem valV_zip (k : κ) : ∀ (ks : List κ) (vs : List V), valV (ks.zip vs) k = dgetA ks vs k
  | [], _ => rfl
  | _ :: _, [] => rfl
  | k' :: ks, v :: vs => by
    by_cases e : k' = k
    · rw [List.zip_cons_cons, valV_pos (p := (k', v)) e]; simp [dgetA, e]
    · rw [List.zip_cons_cons, valV_neg (p := (k', v)) e, valV_zip k ks vs]; simp [dgetA, e]
theorem dget_rep (k : κ) : ∀ {ks : List κ} {ds : List D} {vs : List V}, RepL K G m ds vs → match dgetA ks ds k with
    | some d => ∃ v, dgetA ks vs k = some v ∧ RepV K G m d v
    | none => dgetA ks vs k = none
  | [], _, _, _ => by simp [dgetA]
  | k' :: ks, [], _, r => by cases r; simp [dgetA]
  | k' :: ks, d :: ds, _, r => by
    obtain ⟨v, w, rfl, r1, r2⟩ := r
    unfold dgetA
    by_cases e : k' = k
    · simp only [e, if_true]; exact ⟨v, rfl, r1⟩
    · simp only [e, if_false]; exact dget_rep k r2
theorem repl_rep (k : κ) {d : D} {v : V} (rv : RepV K G m d v) : ∀ {ks : List κ} {ds : List D} {vs : List V}, RepL K G m ds vs → RepL K G m (replA ks ds k d) (replA ks vs k v)
  | [], ds, vs, r => by cases ds <;> cases vs <;> exact r
  | k' :: ks, [], _, r => by cases r; exact rfl
  | k' :: ks, d' :: ds, _, r => by
    obtain ⟨v', w, rfl, r1, r2⟩ := r
    refine ⟨_, _, rfl, ?_, repl_rep k rv r2⟩
    by_cases e : k' = k
    · simp only [e, if_true]; exact rv
    · simp only [e, if_false]; exact r1
theorem put_rep (k : κ) {d : D} {v : V} (rv : RepV K G m d v) {ks : List κ} {ds : List D} {vs : List V} (r : RepL K G m ds vs) : RepL K G m (putXs ks ds k d) (putXs ks vs k v) := by
  unfold putXs
  split
  · exact repl_rep k rv r
  · exact r.app ⟨v, [], rfl, rv, rfl⟩
theorem zip_any (k : κ) : ∀ (ks : List κ) (vs : List V), ks.length = vs.length → ((ks.zip vs).any fun kv => decide (kv.1 = k)) = decide (k ∈ ks)
  | [], _, _ => by simp
  | k' :: ks, v :: vs, h => by
    rw [List.zip_cons_cons, List.any_cons, zip_any k ks vs (by simpa using h)]
    by_cases e : k' = k
    · simp [e]
    · have : ¬ k = k' := fun z => e z.symm
      simp [e, this]
  | _ :: _, [], h => by simp at h
theorem zip_repl (k : κ) (v : V) : ∀ (ks : List κ) (vs : List V), ks.length = vs.length → (ks.zip vs).map (fun kv => if kv.1 = k then (kv.1, v) else kv) = ks.zip (replA ks vs k v)
  | [], _, _ => rfl
  | k' :: ks, v' :: vs, h => by
    rw [List.zip_cons_cons, List.map_cons, zip_repl k v ks vs (by simpa using h)]
    by_cases e : k' = k <;> simp [replA, e]
  | _ :: _, [], h => by simp at h
theorem putK_zip (k : κ) (v : V) (ks : List κ) (vs : List V) (h : ks.length = vs.length) : putK (ks.zip vs) k v = (putKs ks k).zip (putXs ks vs k v) := by
  unfold putK putKs putXs
  rw [zip_any k ks vs h]
  by_cases e : k ∈ ks
  · simp only [e, decide_true, if_true]; exact zip_repl k v ks vs h
  · simp only [e, decide_false, if_false]
    rw [List.zip_append h]; rfl
end

/-! ### subscripts -/
def ixD : D2 := fun x y μ => match y with
  | .int i => match seqOf μ x with
    | some ds => match atI ds i with
      | some d => ok d μ
      | none => none
    | none => match x with
      | .str z => if z.length ≤ sizeLine then match atI z.cps.toList i with
          | some c => ok (.str ⟨#[c]⟩) μ
          | none => none
        else none
      | _ => match dicOf μ x with
        | some (ks, ds) => match dgetA ks ds (.inl i) with
          | some d => ok d μ
          | none => none
        | none => none
  | .str z => match dicOf μ x with
    | some (ks, ds) => match dgetA ks ds (.inr z) with
      | some d => ok d μ
      | none => none
    | none => none
  | _ => none
def rIxDic : R2 := fun x y H Q => ∃ a v, x = .ref a ∧ DGet H a y (some v) ∧ Q v H
theorem ix_dic {X : Cx} (hu : X.A.units + 1 < cLine) : IxR X rIxDic := by
  intro value slice pins s σ H x y v u Q I rx ry ⟨a, z, ex, g, q⟩ hs
  subst ex
  cases (show v = Value.ref a from rx)
  have go : wpAny (model X.prog X.w) X.A (subscripted slice false (.ref a) u) (fun r s₃ => wpAny (model X.prog X.w) X.A (letTemporaryGo value (.ref a) r >>= fun _ => pure r) (EP X pins σ Q) X.xe s₃) X.xe s := by
    rw [hs]
    exact wpAny_operating (thn (d_getItem hu I g ry fun w' s' I' rw' => (⟨z, H, I', rw', q⟩ : EP X pins σ Q w' s')) fun r s3 h3 => wpAny_bind (wpAny_letTemporaryGo (wpAny_pure h3)))
  have ty := dict_typeIs I g
  unfold PyProof.Rows.subscriptTail
  refine wpAny_bind ?_
  rw [getitemInPython_of_ne ty.not_modules]
  refine wpAny_bind (wpAny_specialOf ty PySem.F.slot_dict_getitem.lookup ?_)
  exact wpAny_pure (wpAny_bind go)
theorem RepL.atI {K : PySem.W.Frag} {G : Hp} {m : List Addr} {ds : List D} {vs : List V} (l : RepL K G m ds vs) {i : Int} {d : D} (h : L2.atI ds i = some d) : ∃ v, L2.atI vs i = some v ∧ RepV K G m d v := by
  unfold L2.atI at h ⊢
  rw [l.length]
  cases e : ixN ds.length i with
  | none => rw [e] at h; cases h
  | some j => rw [e] at h; exact l.get h
section
variable {X : Cx} {W : WX} {pos : Pos} {a b : Expr} {fa fb : DE}
theorem ped_ix (hu : X.A.units + 1 < cLine) (ha : PE X a (TD X.K W fa)) (hb : PE X b (TD X.K W fb)) (hs : PlainIx b) : PE X (.Subscript a b pos) (TD X.K W (binD ixD fa fb)) :=
  PE_imp (pe_ix (IxR.or ix_seq (ix_dic hu)) ha hb hs) (bin_imp fun dx dy vx vy σ H G m μ Q wf rx ry o => by
    unfold ixD at o
    split at o
    · rename_i i
      have ry : vy = .int i := ry
      split at o
      · rename_i ds e
        split at o
        · rename_i d e2
          obtain ⟨p, ws, rfl, q, l⟩ := seqOf_rep wf e rx
          obtain ⟨v, h1, h2⟩ := l.atI e2
          rcases q with q | q
          · exact .inl (.inl ⟨p, ws, i, v, rfl, ry, q, h1, o.get wf h2⟩)
          · exact .inl (.inr (.inl ⟨p, ws, i, v, rfl, ry, q, h1, o.get wf h2⟩))
        · exact o.elim
      · split at o
        · rename_i z _
          split at o
          · rename_i hz
            split at o
            · rename_i c e2
              exact .inl (.inr (.inr ⟨z, i, c, rx, ry, hz, e2, okA.get (a := D.str _) o wf rfl⟩))
            · exact o.elim
          · exact o.elim
        · split at o
          · rename_i ks ds e
            split at o
            · rename_i d e2
              obtain ⟨p, ws, rfl, q, hz, l⟩ := dicOf_rep wf e rx
              have g := dget_rep (K := X.K) (G := G) (m := m) (Sum.inl i : Key) (ks := ks) l
              rw [e2] at g
              obtain ⟨v, h1, h2⟩ := g
              exact .inr ⟨p, v, rfl, .inl ⟨_, .inl i, q, ry, by rw [valV_zip]; exact h1.symm⟩, o.get wf h2⟩
            · exact o.elim
          · exact o.elim
    · rename_i z
      have ry : vy = .str z := ry
      split at o
      · rename_i ks ds e
        split at o
        · rename_i d e2
          obtain ⟨p, ws, rfl, q, hz, l⟩ := dicOf_rep wf e rx
          have g := dget_rep (K := X.K) (G := G) (m := m) (Sum.inr z : Key) (ks := ks) l
          rw [e2] at g
          obtain ⟨v, h1, h2⟩ := g
          exact .inr ⟨p, v, rfl, .inl ⟨_, .inr z, q, ry, by rw [valV_zip]; exact h1.symm⟩, o.get wf h2⟩
        · exact o.elim
      · exact o.elim
    · exact o.elim)
end

/-! ### slices -/
def cutD (ds : List D) (lo hi : Option Int) : List D := (ds.drop (HT.sIx ds.length 0 lo)).take (HT.sIx ds.length ds.length hi - HT.sIx ds.length 0 lo)
theorem RepL.cut {K : PySem.W.Frag} {G : Hp} {m : List Addr} {ds : List D} {vs : List V} (l : RepL K G m ds vs) (lo hi : Option Int) : RepL K G m (cutD ds lo hi) (cutV vs lo hi) := by
  unfold cutD cutV
  rw [l.length]
  exact (l.drop _).take _
/-- one end of a slice -/
abbrev DO := Sl → Mu → R (Option Int)
def noO : DO := fun _ μ => ok none μ
def someO (f : DE) : DO := fun sl μ => bindR (f sl μ) fun d μ1 => match d with
  | .int i => ok (some i) μ1
  | _ => none
abbrev repO : Hp → List Addr → Option Int → Option Int → Prop := fun _ _ a b => a = b
abbrev TOD (K : PySem.W.Frag) (W : WX) (f : DO) : TO := T repO K W [] [] f
def slD (x : D) (lo hi : Option Int) (μ : Mu) : R D := match x with
  | .str z => if z.length ≤ sizeLine then ok (.str (cutS z lo hi)) μ else none
  | .tup ds => ok (.tup (cutD ds lo hi)) μ
  | d => match lstOf μ d with
    | some ds => ok (.lst (cutD ds lo hi)) μ
    | none => none
def sliceD (f : DE) (l h : DO) : DE := fun sl μ => bindR (f sl μ) fun d μ1 => bindR (l sl μ1) fun lo μ2 => bindR (h sl μ2) fun hi μ3 => slD d lo hi μ3
/-- a list's slice alone: a new list -/
def sliceL (f : DE) (l h : DO) : DE := fun sl μ => bindR (f sl μ) fun d μ1 => bindR (l sl μ1) fun lo μ2 => bindR (h sl μ2) fun hi μ3 => match lstOf μ3 d with
  | some ds => ok (.lst (cutD ds lo hi)) μ3
  | none => none
section
variable {X : Cx} {W : WX} {pos p2 : Pos} {e : Expr} {lo hi : Option Expr} {fe : DE} {fl fh : DO}
theorem pod_none : PO X none (TOD X.K W noO) := ⟨fun pins s σ H Q I ⟨G, m, μ, sl, wf, rs, rl, o⟩ => po_none.run pins s σ H Q I (okA.get (a := (none : Option Int)) o wf rfl)⟩
theorem pod_some {x : Expr} (h : PE X x (TD X.K W fe)) : PO X (some x) (TOD X.K W (someO fe)) := ⟨fun pins s σ H Q I q => (po_some h).run pins s σ H Q I ((T.bindV q).imp fun v H1 ⟨d, G, m, μ, sl, wf, rs, r, o⟩ => by
  cases d with
  | int i => exact ⟨i, r, okA.get (a := some i) o wf rfl⟩
  | _ => exact o.elim)⟩
theorem T.bindO {K : PySem.W.Frag} {α β : Type} {rep : Hp → List Addr → α → β → Prop} {ds : List D} {vs : List V} {fa : DO} {k : Sl → Option Int → Mu → R α} {σ : L2.St} {H : Hp} {Q : β → Hp → Prop} (h : T rep K W ds vs (fun sl μ => bindR (fa sl μ) (k sl)) σ H Q) :
    TOD K W fa σ H (fun b H1 => T rep K W ds vs (fun sl μ => k sl b μ) σ H1 Q) :=
  (T.bind (rep := repO) h).imp fun b H1 ⟨a, G, m, μ, sl, wf, rs, rl, e, o⟩ => by
    have e : a = b := e
    subst e
    exact ⟨G, m, μ, sl, wf, rs, rl, o⟩
theorem ped_slice (he : PE X e (TD X.K W fe)) (hl : PO X lo (TOD X.K W fl)) (hh : PO X hi (TOD X.K W fh)) : PE X (.Subscript e (.Slice lo hi none p2) pos) (TD X.K W (sliceD fe fl fh)) :=
  PE_imp (pe_slice (SlR.or sl_str (SlR.or sl_tupA sl_list)) he hl hh) fun σ H Q h => (T.bindD h).imp fun v H1 ⟨d, h1⟩ => (T.bindO h1).imp fun l H2 h2 => (T.bindO h2).imp fun u H3 ⟨G, m, μ, sl, wf, rs, ⟨w1, l1, e1, r, e2⟩, o⟩ => by
    cases e1; cases e2
    dsimp only at o
    unfold slD at o
    split at o
    · rename_i z _
      split at o
      · rename_i hz
        exact .inl ⟨z, r, hz, okA.get (a := D.str _) o wf rfl⟩
      · exact o.elim
    · rename_i ds _
      obtain ⟨a, ws, e1, q, rl⟩ := r
      refine .inr (.inl ⟨a, ws, e1, wf.sub.sqT q, fun ⟨z1, z2⟩ => ?_, fun _ p hp => ?_⟩)
      · have e3 : cutD ds l u = ds := by
          unfold cutD
          rw [rl.length] at z1 z2
          rw [z1, z2]
          simp
        rw [e3] at o
        exact okA.get (a := D.tup ds) o wf ⟨a, ws, rfl, q, rl⟩
      · exact o (.ref p) _ (upd G p (.tup (cutV ws l u))) m (wf.laid hp) (Step.laid wf hp) ⟨p, _, rfl, .inl (.inl upd_same), (rl.cut l u).laid (wf.gnone hp)⟩
    · split at o
      · rename_i ds e3
        obtain ⟨a, ws, e1, q, rl⟩ := lstOf_rep wf e3 r
        refine .inr (.inr ⟨a, ws, e1, q, fun p hp => ?_⟩)
        exact o (.ref p) _ (upd G p (.lst (cutV ws l u))) m (wf.laid hp) (Step.laid wf hp) ⟨p, _, rfl, .inl (.inl upd_same), (rl.cut l u).laid (wf.gnone hp)⟩
      · exact o.elim
end
section
variable {K : PySem.W.Frag} {W : WX} {σ : L2.St} {H : Hp} {Q : VK} {α β : Type}
/-- fresh outcomes behind anything -/
theorem okF.bind {rep : Hp → List Addr → α → β → Prop} {G : Hp} {m : List Addr} {μ : Mu} {r : R α} {k : α → Mu → R D} (h : okF K W σ H G m μ (bindR r k) Q) :
    okA rep K W σ H G m μ r (fun b H1 => ∃ a G1 m1 μ1, Wf K H1 G1 m1 μ1 ∧ Step H G m μ H1 G1 m1 μ1 ∧ rep G1 m1 a b ∧ okF K W σ H1 G1 m1 μ1 (k a μ1) Q) := by
  revert h
  cases r with
  | none => exact fun z => z
  | some q =>
    cases q with
    | exc x μ1 => exact fun z => z
    | ok a μ1 =>
      intro o b H1 G1 m1 wf1 st1 q
      refine ⟨a, G1, m1, μ1, wf1, st1, q, ?_⟩
      have o : okF K W σ H G m μ (k a μ1) Q := o
      revert o
      cases k a μ1 with
      | none => exact fun z => z
      | some q2 =>
        cases q2 with
        | exc x μ2 => exact fun o c dd H2 G2 m2 wf2 st2 q => o c dd H2 G2 m2 wf2 (st1.trans st2) q
        | ok d μ2 =>
          cases d with
          | lst ds => exact fun o p vs H2 G2 m2 wf2 st2 hp l => o p vs H2 G2 m2 wf2 (st1.trans st2) hp l
          | dic ks ds => exact fun o p vs H2 G2 m2 wf2 st2 hp hk l => o p vs H2 G2 m2 wf2 (st1.trans st2) hp hk l
          | dit ks ds => exact fun o p vs H2 G2 m2 wf2 st2 hp hk l => o p vs H2 G2 m2 wf2 (st1.trans st2) hp hk l
          | _ => exact fun z => z
/-- .. with temporaries -/
def TFs (K : PySem.W.Frag) (W : WX) (ds : List D) (vs : List V) (f : DE) : TE := fun σ H Q => ∃ G m μ sl, Wf K H G m μ ∧ RepS K G m sl σ ∧ RepL K G m ds vs ∧ okF K W σ H G m μ (f sl μ) Q
theorem TF.s {f : DE} (h : TF K W f σ H Q) : TFs K W [] [] f σ H Q := let ⟨G, m, μ, sl, wf, rs, o⟩ := h; ⟨G, m, μ, sl, wf, rs, rfl, o⟩
theorem TFs.bindD {ds : List D} {vs : List V} {fa : DE} {k : Sl → D → Mu → R D} (h : TFs K W ds vs (fun sl μ => bindR (fa sl μ) (k sl)) σ H Q) : TD K W fa σ H (fun v H1 => ∃ d, TFs K W (d :: ds) (v :: vs) (fun sl μ => k sl d μ) σ H1 Q) := by
  obtain ⟨G, m, μ, sl, wf, rs, rl, o⟩ := h
  exact ⟨G, m, μ, sl, wf, rs, rfl, (okF.bind (rep := repV K) o).imp fun b H1 ⟨a, G1, m1, μ1, wf1, st, q, o1⟩ => ⟨a, G1, m1, μ1, sl, wf1, st.repS rs, ⟨b, vs, rfl, q, st.repL rl⟩, o1⟩⟩
theorem TFs.bindO {ds : List D} {vs : List V} {fa : DO} {k : Sl → Option Int → Mu → R D} (h : TFs K W ds vs (fun sl μ => bindR (fa sl μ) (k sl)) σ H Q) : TOD K W fa σ H (fun b H1 => TFs K W ds vs (fun sl μ => k sl b μ) σ H1 Q) := by
  obtain ⟨G, m, μ, sl, wf, rs, rl, o⟩ := h
  refine ⟨G, m, μ, sl, wf, rs, rfl, (okF.bind (rep := repO) o).imp fun b H1 ⟨a, G1, m1, μ1, wf1, st, q, o1⟩ => ?_⟩
  have q : a = b := q
  subst q
  exact ⟨G1, m1, μ1, sl, wf1, st.repS rs, st.repL rl, o1⟩
end
section
variable {X : Cx} {W : WX} {pos p2 : Pos} {e a b : Expr} {lo hi : Option Expr} {fe fa fb : DE} {fl fh : DO}
theorem pef_slice (he : PE X e (TD X.K W fe)) (hl : PO X lo (TOD X.K W fl)) (hh : PO X hi (TOD X.K W fh)) : PE X (.Subscript e (.Slice lo hi none p2) pos) (TF X.K W (sliceL fe fl fh)) :=
  PE_imp (pe_slice sl_list he hl hh) fun σ H Q h => (TFs.bindD h.s).imp fun v H1 ⟨d, h1⟩ => (TFs.bindO h1).imp fun l H2 h2 => (TFs.bindO h2).imp fun u H3 ⟨G, m, μ, sl, wf, rs, ⟨w1, l1, e1, r, e2⟩, o⟩ => by
    cases e1; cases e2
    dsimp only at o
    split at o
    · rename_i ds e3
      obtain ⟨a, ws, e1, q, rl⟩ := lstOf_rep wf e3 r
      exact ⟨a, ws, e1, q, okF.lst o wf (rl.cut l u)⟩
    · exact o.elim
/-- + of two lists: a new list -/
theorem pef_cat (ha : PE X a (TD X.K W fa)) (hb : PE X b (TD X.K W fb)) : PE X (.BinOp a .Add b pos) (TF X.K W (binD addL fa fb)) :=
  PE_imp (pe_op op_catX ha hb) fun σ H Q h => (TFs.bindD h.s).imp fun v H1 ⟨d, h1⟩ => (TFs.bindD h1).imp fun v2 H2 ⟨d2, G, m, μ, sl, wf, rs, ⟨w1, l1, e1, r2, w2, l2, e2, r1, e3⟩, o⟩ => by
    cases e1; cases e2
    dsimp only at o
    unfold addL at o
    split at o
    · rename_i xs ys e1 e2
      split at o
      · rename_i hz
        obtain ⟨a, vs, e3, q1, l1⟩ := lstOf_rep wf e1 r1
        obtain ⟨b, ws, e4, q2, l2⟩ := lstOf_rep wf e2 r2
        exact ⟨a, b, vs, ws, e3, e4, q1, q2, by rw [l1.length, l2.length]; exact hz, okF.lst o wf (l1.app l2)⟩
      · exact o.elim
    · exact o.elim
end
end Pd
end
section
namespace Pd
open PySem PySem.Spec L2
open PySem.Sem (wp)
/-! ### zip(.., strict=b): calling it -/
abbrev kwS (b : Bool) : List (Str × Value) := [(Str.ofString "strict", .bool b)]
abbrev ZRec (h : Heap) (z TI TO : Addr) (f0 : Value) (b : Bool) : Prop := h.get? z = some { cls := .type "zip", dict := none, data := .fields #[f0, .bool false, .bool b, .ref TI, .ref TO], slots := #[] }
theorem zs_tc (b : Bool) (x y : Value) : checkTypeCall "zip" ⟨[x, y], kwS b⟩ = pure () := by kernel_rfl
theorem zs_nc (b : Bool) (x y : Value) : checkBuiltinCall "zip.__new__" ⟨[.type "zip", x, y], kwS b⟩ = pure () := by kernel_rfl
theorem zs_oc (b : Bool) (o x y : Value) : argsOk "object.__init__" ⟨[o, x, y], kwS b⟩ := by
  unfold argsOk; rw [signature?_of (id := "object.__init__") (n := ['_', '_', 't', 'i', 'n', 'i', '_', '_']) (o := ['t', 'c', 'e', 'j', 'b', 'o']) (by kernel_rfl) F.owner_object]; kernel_rfl
theorem zs_init {self : Value} {rest : List Value} {kw : List (Str × Value)} : Meets (Builtin.«object.__init__» ⟨self :: rest, kw⟩) (fun _ R s => s.TypeIs self "zip" ∧ R (.ok (.ret .none)) s) := by
  refine Meets.of_wp fun prog w A R s hs => ?_
  obtain ⟨hT, hq⟩ := hs
  have hl := F.called_zip.init.lookup
  have hm := F.called_zip.made
  have hne : (some "zip.__new__" != some "object.__new__") = true := by decide
  cases rest with
  | nil =>
    cases kw with
    | nil => exact wpAny_pure ⟨_, rfl, hq⟩
    | cons a kw =>
      repeat (any_goals (first | assumption | wp_step))
      exact ⟨_, rfl, hq⟩
  | cons a rest =>
    repeat (any_goals (first | assumption | wp_step))
    exact ⟨_, rfl, hq⟩
abbrev gyT (h : Heap) (o1 o2 : Obj) : Heap := ((h.push o1).push o2).push { cls := .type "tuple", data := .seq #[.ref h.objs.size, .ref (h.push o1).objs.size] }
abbrev gyO (h : Heap) (o1 o2 : Obj) : Heap := (gyT h o1 o2).push { cls := .type "tuple", data := .seq #[.none, .none] }
abbrev gyZ (h : Heap) (o1 o2 : Obj) (b : Bool) : Heap := (gyO h o1 o2).push { cls := .type "zip", data := .fields #[.none, .bool false, .bool b, .ref ((h.push o1).push o2).objs.size, .ref (gyT h o1 o2).objs.size] }
theorem zs_new {v1 v2 : Value} {o1 o2 : Obj} {J1 J2 : Heap → Prop} (b : Bool) (B1 : Begins v1 o1 J1) (B2 : Begins v2 o2 J2) :
    Meets (Builtin.«zip.__new__» ⟨[.type "zip", v1, v2], kwS b⟩) (fun _ R s => (J1 s.heap ∧ J2 s.heap) ∧ R (.ok (.ret (.ref (gyO s.heap o1 o2).objs.size))) { s with heap := gyZ s.heap o1 o2 b }) :=
  .of_wp fun prog w A R s hy => by
    obtain ⟨hp, g, d, tk, os⟩ := s; obtain ⟨⟨h1, h2⟩, hy⟩ := hy
    have hsub := sub_zip
    have q1 : ∀ {A' : Around} {E : Value → Shared → Prop} {Q : Value → Shared → Prop}, Q (.ref hp.objs.size) ⟨(hp.push o1), g, d, tk, os⟩ → wpAny (model prog w) A' (pyIter v1) Q E ⟨hp, g, d, tk, os⟩ :=
      fun q => B1.iter prog w _ _ ⟨hp, g, d, tk, os⟩ _ h1 q
    have q2 : ∀ {A' : Around} {E : Value → Shared → Prop} {Q : Value → Shared → Prop}, Q (.ref (hp.push o1).objs.size) ⟨((hp.push o1).push o2), g, d, tk, os⟩ → wpAny (model prog w) A' (pyIter v2) Q E ⟨(hp.push o1), g, d, tk, os⟩ :=
      fun q => B2.iter prog w _ _ ⟨(hp.push o1), g, d, tk, os⟩ _ (B2.keeps _ _ h2 fun b o' e => Heap.get?_push_of_some _ e) q
    have ht : ∀ {A' : Around} {E : Value → Shared → Prop} {Q : Bool → Shared → Prop} {s' : Shared}, Q b s' → wpAny (model prog w) A' (truthy (.bool b)) Q E s' := fun q => wpAny_pure q
    have hk : (Str.ofString "strict" != ("strict" : Str)) = false := by decide +kernel
    wp_walk using q1, q2, ht, hk
    exact ⟨_, rfl, hy⟩

section
variable {prog : Program} {w : World} {A : Around} {E : Value → Shared → Prop} {s : Shared}
theorem zs_call0 {Bn : Builtin} {args : List Value} {kw : List (Str × Value)} {S : PySem.Spec} {Q : Value → Shared → Prop} (ft : TypeCalled "zip" "zip.__new__" "object.__init__")
    (hct : checkTypeCall "zip" ⟨args, kw⟩ = pure ()) (hcn : checkBuiltinCall "zip.__new__" ⟨.type "zip" :: args, kw⟩ = pure ())
    (hoc : ∀ o, argsOk "object.__init__" ⟨o :: args, kw⟩) (eN : entryFor table "zip.__new__" = some Bn) (gN : Meets (Bn ⟨.type "zip" :: args, kw⟩) S)
    (hS : S A.in1 (wants (fun obj s1 => s1.TypeIs obj "zip" ∧ Q obj s1) E) s) : wpAny (model prog w) A (call (.type "zip") args kw) Q E s := by
  obtain ⟨c, tl, hmro⟩ := ft.mro
  have hmade := ft.made
  have hsub := ft.sub
  refine wpAny_call (codeAny_of_tree ?_)
  show wpAny _ _ (callAny (.type "zip") _) _ _ _
  refine wpAny_pure ⟨Code.quiet_builtin _ (by decide +kernel), codeAny_builtin F.entry_type_call ?_⟩
  rw [Around.under_plain rfl rfl]
  have n1 := ft.notType
  have n2 := ft.canCreate
  repeat (any_goals (first | assumption | wp_step))
  refine codeAny_mono (codeAny_call_builtin ft.plain eN (wpAny_of_eq hcn (gN prog w A.in1 _ s hS))) fun r s1 hr => ?_
  cases r with
  | error e => exact hr
  | ok fl =>
    cases fl with
    | ret obj =>
      obtain ⟨hT, hq⟩ := hr
      have hli := ft.init.lookup
      have hbi := ft.init.bind obj
      repeat (any_goals (first | assumption | wp_step))
      refine codeAny_mono (codeAny_call_builtin ft.init.plain F.entry_object_init (ft.init.check _ _ _ _ _ _ _ _ hT (hoc obj) (zs_init prog w A.in1 (wants (fun r s2 => r = .none ∧ Q obj s2) E) s1 ⟨hT, rfl, hq⟩))) fun r2 s2 hr2 => ?_
      cases r2 with
      | error e => exact hr2
      | ok fl2 =>
        cases fl2 with
        | ret r =>
          obtain ⟨rfl, hq⟩ := hr2
          repeat (any_goals (first | assumption | wp_step))
        | _ => exact hr2.elim
    | _ => exact hr.elim
theorem zs_call {v1 v2 : Value} {o1 o2 : Obj} {J1 J2 : Heap → Prop} {Q : Value → Shared → Prop} (b : Bool) (B1 : Begins v1 o1 J1) (B2 : Begins v2 o2 J2) (h1 : J1 s.heap) (h2 : J2 s.heap)
    (h : ∀ h', ZRec h' (s.heap.objs.size + 4) (s.heap.objs.size + 2) (s.heap.objs.size + 3) .none b → IsTupOf2 h' (s.heap.objs.size + 2) (.ref s.heap.objs.size) (.ref (s.heap.objs.size + 1)) →
      IsTupOf2 h' (s.heap.objs.size + 3) .none .none → h'.get? s.heap.objs.size = some o1 → h'.get? (s.heap.objs.size + 1) = some o2 → h'.objs.size = s.heap.objs.size + 5 →
      (∀ c o, s.heap.get? c = some o → h'.get? c = some o) → Q (.ref (s.heap.objs.size + 4)) { s with heap := h' }) :
    wpAny (model prog w) A (call (.type "zip") [v1, v2] (kwS b)) Q E s := by
  refine zs_call0 F.called_zip (zs_tc b v1 v2) (zs_nc b v1 v2) (fun o => zs_oc b o v1 v2) F.entry_zip_new (zs_new b B1 B2) ⟨⟨h1, h2⟩, ?_⟩
  have y1 : (s.heap.push o1).objs.size = s.heap.objs.size + 1 := by rw [Heap.size_push]
  have y2 : ((s.heap.push o1).push o2).objs.size = s.heap.objs.size + 2 := by rw [Heap.size_push, y1]
  have yT : (gyT s.heap o1 o2).objs.size = s.heap.objs.size + 3 := by rw [Heap.size_push, y2]
  have yO : (gyO s.heap o1 o2).objs.size = s.heap.objs.size + 4 := by rw [Heap.size_push, yT]
  have yZ : (gyZ s.heap o1 o2 b).objs.size = s.heap.objs.size + 5 := by rw [Heap.size_push, yO]
  have p1 {h : Heap} {o : Obj} {c : Addr} {x : Obj} (e : h.get? c = some x) : (h.push o).get? c = some x := Heap.get?_push_of_some _ e
  have gZ := Heap.get?_push_size (gyO s.heap o1 o2) (o := { cls := .type "zip", data := .fields #[.none, .bool false, .bool b, .ref ((s.heap.push o1).push o2).objs.size, .ref (gyT s.heap o1 o2).objs.size] }) rfl
  have gO := p1 (o := { cls := .type "zip", data := .fields #[.none, .bool false, .bool b, .ref ((s.heap.push o1).push o2).objs.size, .ref (gyT s.heap o1 o2).objs.size] }) (Heap.get?_push_size (gyT s.heap o1 o2) (o := { cls := .type "tuple", data := .seq #[.none, .none] }) rfl)
  have gT : (gyZ s.heap o1 o2 b).get? ((s.heap.push o1).push o2).objs.size = some { cls := .type "tuple", data := .seq #[.ref s.heap.objs.size, .ref (s.heap.push o1).objs.size] } := p1 (p1 (Heap.get?_push_size _ rfl))
  have g1 : (gyZ s.heap o1 o2 b).get? s.heap.objs.size = some o1 := p1 (p1 (p1 (p1 (Heap.get?_push_size _ B1.free))))
  have g2 : (gyZ s.heap o1 o2 b).get? (s.heap.push o1).objs.size = some o2 := p1 (p1 (p1 (Heap.get?_push_size _ B2.free)))
  have gZ : (gyZ s.heap o1 o2 b).get? (gyO s.heap o1 o2).objs.size = some { cls := .type "zip", data := .fields #[.none, .bool false, .bool b, .ref ((s.heap.push o1).push o2).objs.size, .ref (gyT s.heap o1 o2).objs.size] } := gZ
  have gO : (gyZ s.heap o1 o2 b).get? (gyT s.heap o1 o2).objs.size = some { cls := .type "tuple", data := .seq #[.none, .none] } := gO
  rw [yO, yT, y2] at gZ
  rw [yT] at gO
  rw [y2, y1] at gT
  rw [y1] at g2
  show _ ∧ _
  rw [yO]
  exact ⟨⟨_, gZ, rfl⟩, h _ gZ gT gO g1 g2 yZ fun c o e => p1 (p1 (p1 (p1 (p1 e))))⟩

/-! ### a turn of it -/
theorem nextOr_item {it : Addr} {fp : List Addr} {n i : Nat} {P : Nat → Value → Prop} {St : Nat → Heap → Prop} {Q : Option Value → Shared → Prop} (D : Draws prog w A it fp n P St) (hi : i < n) (st : St i s.heap)
    (hQ : ∀ x h' tk, P i x → St (i + 1) h' → Heap.SameBut it s.heap h' → Q (some x) { s with heap := h', toks := tk }) : wpAny (model prog w) A (Builtin.SmallTypes.nextOrEnd (.ref it)) Q E s := by
  unfold Builtin.SmallTypes.nextOrEnd
  exact wpAny_bind (wpAny_attempt (D.item i s _ _ hi st fun x h' tk a b c => wpAny_pure (hQ x h' tk a b c)))
theorem nextOr_end {it : Addr} {fp : List Addr} {n : Nat} {P : Nat → Value → Prop} {St : Nat → Heap → Prop} {Q : Option Value → Shared → Prop} (D : Draws prog w A it fp n P St) (st : St n s.heap)
    (hQ : ∀ h', Heap.ExtBut it s.heap h' → Q none { s with heap := h' }) : wpAny (model prog w) A (Builtin.SmallTypes.nextOrEnd (.ref it)) Q E s := by
  unfold Builtin.SmallTypes.nextOrEnd
  refine wpAny_bind (wpAny_attempt (D.done s _ _ st fun h' x he hx => ?_))
  obtain ⟨o, ho, hc⟩ := hx
  exact wpAny_bind (wpAny_isInstance (T := "StopIteration") (b := true) ⟨o, ho, hc⟩ isSubtype_stop (wpAny_pure (hQ _ he)))
variable {z TI TO i1 i2 : Addr} {fp1 fp2 : List Addr} {n1 n2 i : Nat} {P1 P2 : Nat → Value → Prop} {St1 St2 : Nat → Heap → Prop} {a1 a2 : Value}
theorem zs_item0 {Q : Value → Shared → Prop} (S : ZipSep2 z TI TO i1 i2 fp1 fp2) (D1 : Draws prog w A i1 fp1 n1 P1 St1) (D2 : Draws prog w A i2 fp2 n2 P2 St2)
    (hz : ZRec s.heap z TI TO .none true) (hTI : IsTupOf2 s.heap TI (.ref i1) (.ref i2)) (hTO : IsTupOf2 s.heap TO a1 a2) (st1 : St1 i s.heap) (st2 : St2 i s.heap) (lt1 : i < n1) (lt2 : i < n2)
    (hQ : ∀ x1 x2 h' tk, P1 i x1 → P2 i x2 → ZRec h' z TI TO (rawInt s.heap.objs.size) true → IsTupOf2 h' TO x1 x2 → St1 (i + 1) h' → St2 (i + 1) h' → IsTupOf2 h' s.heap.objs.size x1 x2 → h'.objs.size = s.heap.objs.size + 1 →
      (∀ c o, c ≠ z → c ≠ TO → c ≠ i1 → c ≠ i2 → s.heap.get? c = some o → h'.get? c = some o) → Q (.ref s.heap.objs.size) { s with heap := h', toks := tk }) :
    wpAny (model prog w) A (Builtin.«zip.__next__» ⟨[.ref z], []⟩) (fun fin s' => ∃ v, fin = .done (.ret v) ∧ Q v s') E s := by
  obtain ⟨hp, g, d, tk0, os⟩ := s
  show wpAny _ _ (field (.ref z) 2 >>= _) _ _ _
  apply wpAny_bind
  refine wpAny_field hz rfl (x := .bool true) rfl ?_
  show wpAny _ _ (field (.ref z) 3 >>= _) _ _ _
  apply wpAny_bind
  refine wpAny_field hz rfl (x := .ref TI) rfl ?_
  apply wpAny_bind
  refine wpAny_seqItems hTI rfl ?_
  show wpAny _ _ (Builtin.SmallTypes.ownedTupleIsFree (.ref z) >>= _) _ _ _
  apply wpAny_bind
  unfold Builtin.SmallTypes.ownedTupleIsFree
  apply wpAny_bind
  refine wpAny_field hz rfl (x := .none) rfl (wpAny_pure ?_)
  simp only [if_true]
  apply wpAny_bind
  apply wpAny_rule
  apply wpAny_bind
  refine wpAny_field hz rfl (x := .ref TO) rfl ?_
  apply wpAny_bind
  refine wpAny_setField_rec hz (by simp) fun g0 hz0 hs0 => ?_
  replace hz0 : ZRec g0 z TI TO .ellipsis true := hz0
  replace hs0 : Heap.SameBut z hp g0 := hs0
  apply wpAny_bind
  simp only [List.zipIdx_cons, List.zipIdx_nil, List.forIn_cons, List.forIn_nil]
  apply wpAny_bind
  apply wpAny_bind
  apply wpAny_onRaise
  show wpAny _ _ (Builtin.SmallTypes.nextOrEnd (.ref i1)) _ _ ⟨g0, g, d, tk0, os⟩
  refine nextOr_item D1 lt1 (D1.over st1 hs0 S.zf1) fun x1 p1 tk1 hx1 sn1 hp1 => ?_
  replace hp1 : Heap.SameBut i1 g0 p1 := hp1
  have hU1 : IsTupOf2 p1 TO a1 a2 := hp1.extBut _ _ S.Ti1 (hs0.extBut _ _ S.TOz hTO)
  apply wpAny_bind
  refine wpAny_seqItems (s := ⟨p1, g, d, tk1, os⟩) hU1 rfl ?_
  apply wpAny_bind
  refine updateSeq_IsTupOf2 (s := ⟨p1, g, d, tk1, os⟩) hU1 fun g1 hT1 hs1 => ?_
  replace hT1 : IsTupOf2 g1 TO x1 a2 := hT1
  replace hs1 : Heap.SameBut TO p1 g1 := hs1
  apply wpAny_bind
  refine wpAny_letGo (wpAny_pure ?_)
  apply wpAny_bind
  apply wpAny_bind
  apply wpAny_onRaise
  show wpAny _ _ (Builtin.SmallTypes.nextOrEnd (.ref i2)) _ _ ⟨g1, g, d, tk1, os⟩
  refine nextOr_item D2 lt2 (D2.over (D2.over (D2.over st2 hs0 S.zf2) hp1 S.sep1_2) hs1 S.Tf2) fun x2 p2 tk2 hx2 sn2 hp2 => ?_
  replace hp2 : Heap.SameBut i2 g1 p2 := hp2
  have hU2 : IsTupOf2 p2 TO x1 a2 := hp2.extBut _ _ S.Ti2 hT1
  apply wpAny_bind
  refine wpAny_seqItems (s := ⟨p2, g, d, tk2, os⟩) hU2 rfl ?_
  apply wpAny_bind
  refine updateSeq_IsTupOf2 (s := ⟨p2, g, d, tk2, os⟩) hU2 fun g2 hT2 hs2 => ?_
  replace hT2 : IsTupOf2 g2 TO x1 x2 := hT2
  replace hs2 : Heap.SameBut TO p2 g2 := hs2
  apply wpAny_bind
  refine wpAny_letGo (wpAny_pure (wpAny_pure ?_))
  apply wpAny_bind
  refine wpAny_seqItems (s := ⟨g2, g, d, tk2, os⟩) hT2 rfl ?_
  apply wpAny_bind
  refine wpAny_newTuple ?_
  have hsz : g2.objs.size = hp.objs.size := by rw [hs2.1, hp2.1, hs1.1, hp1.1, hs0.1]
  have hzz : ZRec g2 z TI TO .ellipsis true := hs2.extBut _ _ S.TOz.symm (hp2.extBut _ _ S.zi2 (hs1.extBut _ _ S.TOz.symm (hp1.extBut _ _ S.zi1 hz0)))
  have hkk : ∀ c o, c ≠ z → c ≠ TO → c ≠ i1 → c ≠ i2 → hp.get? c = some o → g2.get? c = some o := fun c o ez eT e1 e2 e =>
    hs2.extBut _ _ eT (hp2.extBut _ _ e2 (hs1.extBut _ _ eT (hp1.extBut _ _ e1 (hs0.extBut _ _ ez e))))
  have hj1 : St1 (i + 1) g2 := D1.over (D1.over (D1.over sn1 hs1 S.Tf1) hp2 S.sep2_1) hs2 S.Tf1
  have hj2 : St2 (i + 1) g2 := D2.over sn2 hs2 S.Tf2
  have hzlt : z < g2.objs.size := Heap.lt_size hzz
  show wpAny _ _ (Builtin.SmallTypes.ownedTupleHandOut (.ref z) (.ref g2.objs.size) >>= _) _ _ ⟨g2.push { cls := .type "tuple", data := .seq #[x1, x2] }, g, d, tk2, os⟩
  apply wpAny_bind
  unfold Builtin.SmallTypes.ownedTupleHandOut
  have hz6 : ZRec (g2.push { cls := .type "tuple", data := .seq #[x1, x2] }) z TI TO .ellipsis true := Heap.get?_push_of_some _ hzz
  apply wpAny_bind
  refine wpAny_setField_rec hz6 (by simp) fun h7 hz7 hs7 => ?_
  replace hz7 : ZRec h7 z TI TO (rawInt g2.objs.size) true := hz7
  refine wpAny_setField_rec hz7 (by simp) fun h8 hz8 hs8 => ?_
  replace hz8 : ZRec h8 z TI TO (rawInt g2.objs.size) true := hz8
  replace hs7 : Heap.SameBut z (g2.push { cls := .type "tuple", data := .seq #[x1, x2] }) h7 := hs7
  replace hs8 : Heap.SameBut z h7 h8 := hs8
  have up : ∀ c o, c ≠ z → g2.get? c = some o → h8.get? c = some o := fun c o c1 e => hs8.extBut _ _ c1 (hs7.extBut _ _ c1 (Heap.get?_push_of_some _ e))
  have hT8 : IsTupOf2 h8 g2.objs.size x1 x2 := hs8.extBut _ _ (Nat.ne_of_gt hzlt) (hs7.extBut _ _ (Nat.ne_of_gt hzlt) (Heap.get?_push_size _ rfl))
  have hl8 : h8.objs.size = g2.objs.size + 1 := by rw [hs8.1, hs7.1, Heap.size_push]
  rw [hsz] at hz8 hT8 hl8
  refine wpAny_pure ⟨_, rfl, ?_⟩
  show Q (.ref g2.objs.size) ⟨h8, g, d, tk2, os⟩
  rw [hsz]
  exact hQ x1 x2 h8 tk2 hx1 hx2 hz8 (up _ _ S.TOz hT2) (D1.frame _ _ _ hj1 fun b hb o e => up b o (fun q => S.zf1 (q ▸ hb)) e) (D2.frame _ _ _ hj2 fun b hb o e => up b o (fun q => S.zf2 (q ▸ hb)) e) hT8 hl8 fun c o ez eT e1 e2 e => up c o ez (hkk c o ez eT e1 e2 e)
theorem zs_end0 {Q : PySem.Fin → Shared → Prop} (hh : A.handled = none) (S : ZipSep2 z TI TO i1 i2 fp1 fp2) (D1 : Draws prog w A i1 fp1 i P1 St1) (D2 : Draws prog w A i2 fp2 i P2 St2)
    (hz : ZRec s.heap z TI TO .none true) (hTI : IsTupOf2 s.heap TI (.ref i1) (.ref i2)) (hTO : IsTupOf2 s.heap TO a1 a2) (st1 : St1 i s.heap) (st2 : St2 i s.heap)
    (hE : ∀ h' tk e, (∀ c o, c ≠ z → c ≠ TO → c ≠ i1 → c ≠ i2 → s.heap.get? c = some o → h'.get? c = some o) → (∃ o, h'.get? e = some o ∧ o.cls = .type "StopIteration") → E (.ref e) { s with heap := h', toks := tk }) :
    wpAny (model prog w) A (Builtin.«zip.__next__» ⟨[.ref z], []⟩) Q E s := by
  obtain ⟨hp, g, d, tk0, os⟩ := s
  show wpAny _ _ (field (.ref z) 2 >>= _) _ _ _
  apply wpAny_bind
  refine wpAny_field hz rfl (x := .bool true) rfl ?_
  show wpAny _ _ (field (.ref z) 3 >>= _) _ _ _
  apply wpAny_bind
  refine wpAny_field hz rfl (x := .ref TI) rfl ?_
  apply wpAny_bind
  refine wpAny_seqItems hTI rfl ?_
  show wpAny _ _ (Builtin.SmallTypes.ownedTupleIsFree (.ref z) >>= _) _ _ _
  apply wpAny_bind
  unfold Builtin.SmallTypes.ownedTupleIsFree
  apply wpAny_bind
  refine wpAny_field hz rfl (x := .none) rfl (wpAny_pure ?_)
  simp only [if_true]
  apply wpAny_bind
  apply wpAny_rule
  apply wpAny_bind
  refine wpAny_field hz rfl (x := .ref TO) rfl ?_
  apply wpAny_bind
  refine wpAny_setField_rec hz (by simp) fun g0 hz0 hs0 => ?_
  replace hz0 : ZRec g0 z TI TO .ellipsis true := hz0
  replace hs0 : Heap.SameBut z hp g0 := hs0
  apply wpAny_bind
  simp only [List.zipIdx_cons, List.zipIdx_nil, List.forIn_cons, List.forIn_nil]
  apply wpAny_bind
  apply wpAny_bind
  apply wpAny_onRaise
  show wpAny _ _ (Builtin.SmallTypes.nextOrEnd (.ref i1)) _ _ ⟨g0, g, d, tk0, os⟩
  refine nextOr_end D1 (D1.over st1 hs0 S.zf1) fun q1 hq1 => ?_
  replace hq1 : Heap.ExtBut i1 g0 q1 := hq1
  have hzq : ZRec q1 z TI TO .ellipsis true := hq1 _ _ S.zi1 hz0
  apply wpAny_bind
  refine wpAny_setField_rec (s := ⟨q1, g, d, tk0, os⟩) hzq (by simp) fun q2 _ hq2 => ?_
  replace hq2 : Heap.SameBut z q1 q2 := hq2
  have st2' : St2 i q2 := D2.over (D2.frame _ _ _ (D2.over st2 hs0 S.zf2) fun b hb o e => hq1 b o (fun q => S.sep1_2 (q ▸ hb)) e) hq2 S.zf2
  apply wpAny_bind
  apply wpAny_bind
  simp only [List.drop_succ_cons, List.drop_zero, List.zipIdx_cons, List.zipIdx_nil, List.forIn_cons, List.forIn_nil]
  apply wpAny_bind
  apply wpAny_bind
  refine nextOr_end D2 st2' fun q3 hq3 => ?_
  replace hq3 : Heap.ExtBut i2 q2 q3 := hq3
  refine wpAny_pure (wpAny_pure ?_)
  apply wpAny_bind
  apply wpAny_rule
  show wpAny _ _ (newExc (.type "StopIteration") [] >>= _) _ _ _
  apply wpAny_bind
  simp only [newExc, newTuple]
  apply wpAny_bind
  refine wpAny_newObj_type ?_ (by size_fits)
  refine wpAny_bind (m := firstArgMember _ _) (wpAny_of_eq (a := Value.none) (by simp only [firstArgMember]; rfl) ?_)
  refine wpAny_newObj_type ?_ (by size_fits)
  simp only [raiseNew]
  apply wpAny_bind
  apply wpAny_handled
  rw [hh]
  refine wpAny_bind (wpAny_pure (wpAny_throw ?_))
  exact hE _ tk0 _ (fun c o ez eT e1 e2 e => Heap.get?_push_of_some _ (Heap.get?_push_of_some _ (hq3 _ _ e2 (hq2.extBut _ _ ez (hq1 _ _ e1 (hs0.extBut _ _ ez e)))))) ⟨_, Heap.get?_push_size _ rfl, rfl⟩
end
end Pd
end
section
namespace Pd
open PySem PySem.Spec L2

/-! ### targets -/
inductive Tg where
  | nm (i : Nat) | tp (ts : List Tg)
mutual
def bindT (μ : Mu) : Tg → D → Sl → Option Sl
  | .nm i, d, sl => some (sl.set i (some d))
  | .tp ts, d, sl => match seqOf μ d with
    | some ds => bindTs μ ts ds sl
    | none => none
def bindTs (μ : Mu) : List Tg → List D → Sl → Option Sl
  | [], [], sl => some sl
  | t :: ts, d :: ds, sl => match bindT μ t d sl with
    | some sl1 => bindTs μ ts ds sl1
    | none => none
  | _, _, _ => none
end
mutual
def namesT : Tg → List Nat
  | .nm i => [i]
  | .tp ts => namesTs ts
def namesTs : List Tg → List Nat
  | [] => []
  | t :: ts => namesT t ++ namesTs ts
end
/-- what a target's store gives -/
def TG' (K : PySem.W.Frag) (t : Tg) : TG := fun v σ H Q => ∃ G m μ sl d, Wf K H G m μ ∧ RepS K G m sl σ ∧ RepV K G m d v ∧ match bindT μ t d sl with
  | some sl' => ∀ σ', RepS K G m sl' σ' → (∀ vs : List Nat, (∀ i ∈ namesT t, i ∈ vs) → wipe σ' vs = wipe σ vs) → Q σ' H
  | none => False
def TGs' (K : PySem.W.Frag) (ts : List Tg) : TGs := fun ws σ H Q => ∃ G m μ sl ds, Wf K H G m μ ∧ RepS K G m sl σ ∧ RepL K G m ds ws ∧ match bindTs μ ts ds sl with
  | some sl' => ∀ σ', RepS K G m sl' σ' → (∀ vs : List Nat, (∀ i ∈ namesTs ts, i ∈ vs) → wipe σ' vs = wipe σ vs) → Q σ' H
  | none => False
theorem wipe_set {σ : L2.St} {i : Nat} {v : Option V} : ∀ {vs : List Nat}, i ∈ vs → wipe (σ.set i v) vs = wipe σ vs
  | [], h => by simp at h
  | j :: vs, h => by
    unfold wipe
    by_cases hi : i ∈ vs
    · rw [wipe_set hi]
    · have e : i = j := by
        rcases List.mem_cons.mp h with h | h
        · exact h
        · exact absurd h hi
      subst e
      clear h
      have key : ∀ (us : List Nat), i ∉ us → wipe (σ.set i v) us = (wipe σ us).set i v := by
        intro us
        induction us with
        | nil => intro _; rfl
        | cons u us ih =>
          intro hu
          have h1 : i ≠ u := fun e => hu (by simp [e])
          have h2 : i ∉ us := fun e => hu (by simp [e])
          show (wipe (σ.set i v) us).set u none = ((wipe σ us).set u none).set i v
          rw [ih h2, List.set_comm _ _ h1]
      rw [key vs hi, List.set_set]
theorem PG_imp {X : Cx} {tg : Expr} {t t' : TG} (h : PG X tg t') (w : ∀ v σ H Q, t v σ H Q → t' v σ H Q) : PG X tg t := ⟨fun pins s σ H v u Q I r q => h.run pins s σ H v u Q I r (w v σ H Q q)⟩
theorem PGs_imp {X : Cx} {tg : List Expr} {t t' : TGs} (h : PGs X tg t') (w : ∀ v σ H Q, t v σ H Q → t' v σ H Q) : PGs X tg t := ⟨fun pins s σ H v u Q I r q => h.run pins s σ H v u Q I r (w v σ H Q q)⟩
section
variable {X : Cx} {pos : Pos}
theorem pgd_name {i : Nat} {x : Str} (hN : X.N.Nodup) (hi : X.N[i]? = some x) (hx : Loc X.env.scope x) (hf : X.fn x = true ∨ X.env.scope.names.lookup x = some .local) : PG X (.Name x pos) (TG' X.K (.nm i)) :=
  PG_imp (pg_name hN hi hx hf) fun v σ H Q ⟨G, m, μ, sl, d, wf, rs, r, q⟩ => q _ (rs.set r i) fun vs h => wipe_set (h i (by simp [namesT]))
theorem pgsd_nil : PGs X [] (TGs' X.K []) := PGs_imp pgs_nil fun ws σ H Q ⟨G, m, μ, sl, ds, wf, rs, r, q⟩ => by
  cases ds with
  | nil => cases r; exact ⟨rfl, q σ rs fun _ _ => rfl⟩
  | cons d ds => exact q.elim
theorem pgsd_cons {e : Expr} {es : List Expr} {t : Tg} {ts : List Tg} (h1 : PG X e (TG' X.K t)) (h2 : PGs X es (TGs' X.K ts)) (hs : (assignEach (e :: es) X.env).map (·.2) = assign e X.env :: (assignEach es X.env).map (·.2) := by rfl) : PGs X (e :: es) (TGs' X.K (t :: ts)) :=
  PGs_imp (pgs_cons h1 h2 hs) fun ws σ H Q ⟨G, m, μ, sl, ds, wf, rs, r, q⟩ => by
    cases ds with
    | nil => exact q.elim
    | cons d ds =>
      obtain ⟨v, w, rfl, r1, r2⟩ := r
      refine ⟨v, w, rfl, G, m, μ, sl, d, wf, rs, r1, ?_⟩
      unfold bindTs at q
      cases e1 : bindT μ t d sl with
      | none => rw [e1] at q; exact q.elim
      | some sl1 =>
        rw [e1] at q
        intro σ1 rs1 hw1
        refine ⟨G, m, μ, sl1, ds, wf, rs1, r2, ?_⟩
        dsimp only at q
        revert q
        cases bindTs μ ts ds sl1 with
        | none => exact fun z => z
        | some sl2 =>
          intro q σ2 rs2 hw2
          refine q σ2 rs2 fun vs h => ?_
          rw [hw2 vs fun i hi => h i (by simp [namesTs, hi]), hw1 vs fun i hi => h i (by simp [namesTs, hi])]
theorem pgd_tup {es : List Expr} {k : Nat} {ts : List Tg} {n : Nat} (hc : X.calm = true) (h : PGs X es (TGs' X.K ts)) (hlen : ∀ ds sl sl' μ, bindTs μ ts ds sl = some sl' → ds.length = n)
    (hn : (assignEach es X.env).length = n := by rfl) (hst : (assignEach es X.env).findIdx? (·.1) = none := by rfl) : PG X (.Tuple es k pos) (TG' X.K (.tp ts)) := by
  have ht := pg_tup (X := X) (k := k) (pos := pos) hc h hn hst
  have hl := pg_lst (X := X) (k := k) (pos := pos) hc h hn hst
  refine ⟨fun pins s σ H v u Q I r ⟨G, m, μ, sl, d, wf, rs, rv, q⟩ => ?_⟩
  unfold bindT at q
  cases e : seqOf μ d with
  | none => rw [e] at q; exact q.elim
  | some ds =>
    rw [e] at q
    dsimp only at q
    have hz : ds.length = n := by
      cases e2 : bindTs μ ts ds sl with
      | none => rw [e2] at q; exact q.elim
      | some sl' => exact hlen _ _ _ _ e2
    obtain ⟨a, ws, e1, s1, l⟩ := seqOf_rep wf e rv
    have want : TGs' X.K ts ws σ H Q := by
      refine ⟨G, m, μ, sl, ds, wf, rs, l, ?_⟩
      revert q
      cases bindTs μ ts ds sl with
      | none => exact fun z => z
      | some sl' => exact fun q => q
    rcases s1 with s1 | s1
    · exact hl.run pins s σ H v u Q I r ⟨a, ws, e1, s1, by rw [l.length]; exact hz, want⟩
    · exact ht.run pins s σ H v u Q I r ⟨a, ws, e1, s1, by rw [l.length]; exact hz, want⟩
end
theorem bindTs_len : ∀ {μ : Mu} {ts : List Tg} {ds : List D} {sl sl' : Sl}, bindTs μ ts ds sl = some sl' → ds.length = ts.length
  | _, [], [], _, _, _ => rfl
  | _, [], _ :: _, _, _, h => by cases h
  | _, _ :: _, [], _, _, h => by cases h
  | μ, t :: ts, d :: ds, sl, sl', h => by
    unfold bindTs at h
    cases e : bindT μ t d sl with
    | none => rw [e] at h; cases h
    | some sl1 => rw [e] at h; simp [bindTs_len h]

/-! ### what is walked -/
/-- the items, and what must hold of the store at each turn -/
inductive Src where
  | st (ds : List D) | ck (ds : List D) (c : Mu → Prop)
def Src.ds : Src → List D
  | .st ds => ds
  | .ck ds _ => ds
def Src.chk : Src → Mu → Prop
  | .st _, _ => True
  | .ck _ c, μ => c μ
/-- b: what is walked can't change -/
def mkSrc (b : Bool) (ds : List D) (c : Mu → Prop) : Src := match b with
  | true => .st ds
  | false => .ck ds c
def SrcOk (K : PySem.W.Frag) (G : Hp) (m : List Addr) (s : Src) (J : It) : Prop := ∀ H' G' m' μ', Wf K H' G' m' μ' → Le G G' → (∃ r, m' = m ++ r) → s.chk μ' →
  (∀ i d, s.ds[i]? = some d → J.go i H' ∧ ∀ x H2, J.yld i H' x H2 → ∃ G2, Wf K H2 G2 m' μ' ∧ Step H' G' m' μ' H2 G2 m' μ' ∧ RepV K G2 m' d x) ∧ J.stop s.ds.length H'
abbrev TIs (K : PySem.W.Frag) (W : WX) (f : Sl → Mu → R Src) : TI := T (fun G m s J => SrcOk K G m s J) K W [] [] f
theorem PI_imp {X : Cx} {tg e : Expr} {t t' : TI} (h : PI X tg e t') (w : ∀ σ H Q, t σ H Q → t' σ H Q) : PI X tg e t := ⟨fun pins s σ H Q I q => h.run pins s σ H Q I (w σ H Q q)⟩
theorem SrcOk.mono {K : PySem.W.Frag} {G G' : Hp} {m m' : List Addr} {s : Src} {J : It} (h : SrcOk K G m s J) (hg : Le G G') (hm : ∃ r, m' = m ++ r) : SrcOk K G' m' s J := fun H2 G2 m2 μ2 wf le ⟨r, e⟩ c => by
  obtain ⟨r', e'⟩ := hm
  exact h H2 G2 m2 μ2 wf (hg.trans le) ⟨r' ++ r, by rw [e, e', List.append_assoc]⟩ c
theorem SrcOk.mk {K : PySem.W.Frag} {G : Hp} {m : List Addr} {b : Bool} {ds : List D} {c : Mu → Prop} {J : It} (h : SrcOk K G m (.ck ds c) J) (hb : b = true → ∀ μ, c μ) : SrcOk K G m (mkSrc b ds c) J := by
  cases b with
  | false => exact h
  | true => exact fun H2 G2 m2 μ2 wf le e _ => h H2 G2 m2 μ2 wf le e (hb rfl μ2)
theorem Rd.lst_inj {H : Hp} {a : Addr} {xs ys : List V} (h : Rd H a (.lst xs)) (h' : Rd H a (.lst ys)) : xs = ys := by
  rcases h with h | ⟨o, h⟩ <;> rcases h' with h' | ⟨o', h'⟩
  · rw [h] at h'; cases h'; rfl
  · rw [h] at h'; cases h'
  · rw [h] at h'; cases h'
  · rw [h] at h'; cases h'; rfl
theorem getE_last {α : Type} {l : List α} {i : Nat} {x : α} (h : l[i]? = some x) : i < l.length := (List.getElem?_eq_some_iff.mp h).1
/-- over a text, sign by sign -/
def strSrc (f : DE) : Sl → Mu → R Src := fun sl μ => bindR (f sl μ) fun d μ1 => match d with
  | .str x => ok (.st (x.cps.toList.map fun c => .str ⟨#[c]⟩)) μ1
  | _ => none
def rngD (lo : Int) (n : Nat) : List D := (List.range n).map fun i => .int (lo + (i : Nat))
def rngSrc1 (f : DL) : Sl → Mu → R Src := fun sl μ => bindR (f sl μ) fun ds μ1 => match ds with
  | [.int j] => if j < 2 ^ 62 ∧ -(2 ^ 62) ≤ j then ok (.st (rngD 0 j.toNat)) μ1 else none
  | _ => none
def rngSrc2 (f : DL) : Sl → Mu → R Src := fun sl μ => bindR (f sl μ) fun ds μ1 => match ds with
  | [.int i, .int j] => if (-(2 ^ 62) ≤ i ∧ i < 2 ^ 62) ∧ -(2 ^ 62) ≤ j ∧ j < 2 ^ 62 then ok (.st (rngD i (j - i).toNat)) μ1 else none
  | _ => none
theorem rngD_get {lo : Int} {n i : Nat} {d : D} (h : (rngD lo n)[i]? = some d) : i < n ∧ d = .int (lo + (i : Nat)) := by
  unfold rngD at h
  rw [List.getElem?_map] at h
  by_cases hi : i < n
  · rw [List.getElem?_range hi] at h
    cases h
    exact ⟨hi, rfl⟩
  · rw [List.getElem?_eq_none (by simpa using hi)] at h
    cases h
theorem rng_ok {K : PySem.W.Frag} {G : Hp} {m : List Addr} (lo : Int) (n : Nat) : SrcOk K G m (.st (rngD lo n)) (Itr lo n) := fun H' G' m' μ' wf le hm _ => by
  refine ⟨fun i d h => ?_, ?_⟩
  · obtain ⟨hi, e⟩ := rngD_get h
    subst e
    refine ⟨hi, fun x H2 y => ?_⟩
    obtain ⟨e1, e2⟩ := y
    subst e1
    exact ⟨G', wf, Step.refl, e2⟩
  · show n ≤ (rngD lo n).length
    simp [rngD]
section
variable {X : Cx} {W : WX} {tg e a b : Expr} {fe : DE} {fl : DL} {p pos : Pos}
theorem pid_range1 (hg : Gl X "range") (hm : X.mg "range" = none) (ha : PA X [a] (TDs X.K W fl)) (hs : starEach [a] X.env = [(false, eval a X.env)] := by rfl) : PI X tg (.Call (.Name "range" p) [a] [] pos) (TIs X.K W (rngSrc1 fl)) :=
  PI_imp (pi_range1 hg hm ha hs) fun σ H Q h => (T.bindL h).imp fun ws H1 ⟨ds, G, m, μ, sl, wf, rs, _, rl, o⟩ => by
    split at o
    · rename_i j
      obtain ⟨v, rfl, r⟩ := repL1 rl
      split at o
      · rename_i hz
        cases r
        exact ⟨j, rfl, hz.2, hz.1, okA.get (a := Src.st (rngD 0 j.toNat)) o wf (rng_ok 0 j.toNat)⟩
      · exact o.elim
    · exact o.elim
theorem pid_range2 (hg : Gl X "range") (hm : X.mg "range" = none) (ha : PA X [a, b] (TDs X.K W fl)) (hs : starEach [a, b] X.env = [(false, eval a X.env), (false, eval b X.env)] := by rfl) (hs2 : starEach [b] X.env = [(false, eval b X.env)] := by rfl) : PI X tg (.Call (.Name "range" p) [a, b] [] pos) (TIs X.K W (rngSrc2 fl)) :=
  PI_imp (pi_range2 hg hm ha hs hs2) fun σ H Q h => (T.bindL h).imp fun ws H1 ⟨ds, G, m, μ, sl, wf, rs, _, rl, o⟩ => by
    split at o
    · rename_i i j
      obtain ⟨v, w, rfl, r, r'⟩ := repL2 rl
      split at o
      · rename_i hz
        cases r; cases r'
        exact ⟨i, j, rfl, ⟨hz.1.1, hz.1.2, hz.2.1, hz.2.2⟩, okA.get (a := Src.st (rngD i (j - i).toNat)) o wf (rng_ok i (j - i).toNat)⟩
      · exact o.elim
    · exact o.elim
theorem pid_str (he : PE X e (TD X.K W fe)) : PI X tg e (TIs X.K W (strSrc fe)) :=
  PI_imp (pi_str he) fun σ H Q h => (T.bindV h).imp fun v H1 ⟨d, G, m, μ, sl, wf, rs, r, o⟩ => by
    cases d with
    | str x =>
      refine ⟨x, r, okA.get (a := Src.st (x.cps.toList.map fun c => .str ⟨#[c]⟩)) o wf fun H' G' m' μ' wf' le hm _ => ⟨fun i d h => ?_, ?_⟩⟩
      · have h : (x.cps.toList.map fun c => D.str ⟨#[c]⟩)[i]? = some d := h
        rw [List.getElem?_map] at h
        cases ec : x.cps.toList[i]? with
        | none => rw [ec] at h; cases h
        | some c =>
          rw [ec] at h; cases h
          have ea : x.cps[i]? = some c := by simpa using ec
          refine ⟨(Array.getElem?_eq_some_iff.mp ea).1, fun y H2 z => ?_⟩
          obtain ⟨e1, c', e2, e3⟩ := z
          rw [ea] at e2; cases e2
          subst e1 e3
          exact ⟨G', wf', Step.refl, rfl⟩
      · show x.cps.size ≤ (x.cps.toList.map fun c => D.str ⟨#[c]⟩).length
        simp
    | _ => exact o.elim
end
end Pd
end
section
namespace Pd
open PySem PySem.Spec L2
open PySem.Sem (wp)
/-! ### lists and tuples alike: true a tuple, false a list -/
def ItK (t : Bool) (h : Heap) (it a : Addr) (i : Nat) : Prop := match t with
  | true => h.IsTupleIter it a i
  | false => h.IsListIter it a i
def IsK (t : Bool) (h : Heap) (a : Addr) (xs : Array Value) : Prop := match t with
  | true => h.IsTuple a xs
  | false => h.IsList a xs
def SqK (t : Bool) (K : PySem.W.Frag) (H : Hp) (a : Addr) (xs : List V) : Prop := match t with
  | true => SqT K H a xs
  | false => SqL K H a xs
def objK (t : Bool) (a : Addr) : Obj := { cls := .type (if t then "tuple_iterator" else "list_iterator"), data := .fields #[.ref a, .int 0 0] }
theorem ItK.obj {t : Bool} {h : Heap} {it a : Addr} {i : Nat} (x : ItK t h it a i) : ∃ o, h.get? it = some o ∧ ∀ v, o.data ≠ .cell v := by
  cases t <;> exact let ⟨o, e, _, d⟩ := x; ⟨o, e, fun v z => by rw [d] at z; cases z⟩
theorem ItK.at {t : Bool} {h h' : Heap} {it a : Addr} {i : Nat} (x : ItK t h it a i) (k : ∀ o, h.get? it = some o → h'.get? it = some o) : ItK t h' it a i := by
  cases t
  · exact Heap.IsListIter.at x k
  · exact Heap.IsTupleIter.at x k
theorem IsK.at {t : Bool} {h h' : Heap} {a : Addr} {xs : Array Value} (x : IsK t h a xs) (k : ∀ o, h.get? a = some o → h'.get? a = some o) : IsK t h' a xs := by
  cases t
  · exact Heap.IsList.at x k
  · exact Heap.IsTuple.at x k
theorem drawsK {prog : Program} {w : World} {A : Around} (t : Bool) (hh : A.handled = none) (it a : Addr) (hne : a ≠ it) (items : Array Value) :
    Draws prog w A it [it, a] items.size (fun i v => items[i]? = some v) (fun i h => ItK t h it a i ∧ IsK t h a items) := by
  cases t
  · exact Draws.list hh it a hne items
  · exact Draws.tuple hh it a hne items
theorem beginsK (t : Bool) (a : Addr) (items : Array Value) : Begins (.ref a) (objK t a) fun h => IsK t h a items := by
  cases t
  · exact begins_list a items
  · exact begins_tuple a items
theorem objK_it (t : Bool) {h : Heap} {it a : Addr} (e : h.get? it = some (objK t a)) : ItK t h it a 0 := by
  cases t
  · exact ⟨_, e, rfl, rfl⟩
  · exact ⟨_, e, rfl, rfl⟩
section
variable {X : Cx} {pins : List (Addr × Obj)} {σ : L2.St} {H : Hp} {s : Shared}
theorem inv_sq {t : Bool} (I : Inv X pins σ H s) {a : Addr} {xs : List V} (q : SqK t X.K H a xs) : ∃ its : List Value, Vals xs its ∧ IsK t s.heap a its.toArray ∧ a < s.heap.objs.size ∧ xs.length ≤ sizeLine := by
  cases t
  · obtain ⟨its, r, p, z⟩ := I.list q
    exact ⟨its, r, p.isList, p.lt, z⟩
  · obtain ⟨its, r, p, z⟩ := I.tuple q
    have p' : s.heap.IsTuple a its.toArray := p
    exact ⟨its, r, p', by obtain ⟨_, e, _⟩ := p'; exact Heap.lt_size e, z⟩
theorem inv_sq_inj {t : Bool} (I : Inv X pins σ H s) {a : Addr} {xs ys : List V} (h : SqK t X.K H a xs) (h' : SqK t X.K H a ys) : xs = ys := by
  cases t
  · exact I.list_inj h h'
  · exact I.tuple_inj h h'
end
theorem SqK_of {K : PySem.W.Frag} {H : Hp} {a : Addr} {xs : List V} (h : SqL K H a xs ∨ SqT K H a xs) : ∃ t, SqK t K H a xs := h.elim (fun h => ⟨false, h⟩) fun h => ⟨true, h⟩

/-! ### zip -/
def Izk (K : PySem.W.Frag) (t1 t2 : Bool) (b : Bool) (a1 a2 : Addr) : It :=
  ⟨fun i H => ∃ (xs ys : List V) (x y : V), SqK t1 K H a1 xs ∧ SqK t2 K H a2 ys ∧ xs[i]? = some x ∧ ys[i]? = some y,
    fun i H v H' => ∃ T x y, v = .ref T ∧ H T = none ∧ H' = upd H T (.tup [x, y]) ∧ (∀ xs, SqK t1 K H a1 xs → xs[i]? = some x) ∧ ∀ ys, SqK t2 K H a2 ys → ys[i]? = some y,
    fun i H => ∃ xs ys : List V, SqK t1 K H a1 xs ∧ SqK t2 K H a2 ys ∧ i ≤ xs.length ∧ i ≤ ys.length ∧ (if b = true then xs.length = i ∧ ys.length = i else xs.length = i ∨ ys.length = i)⟩
section
variable {prog : Program} {w : World} {A : Around} {E : Value → Shared → Prop} {s : Shared} {z TI TO i1 i2 : Addr} {fp1 fp2 : List Addr} {n1 n2 i : Nat} {P1 P2 : Nat → Value → Prop} {St1 St2 : Nat → Heap → Prop} {a1 a2 : Value}
theorem zb_item {Q : Option Value → Shared → Prop} (b : Bool) (S : ZipSep2 z TI TO i1 i2 fp1 fp2) (D1 : Draws prog w A.in1 i1 fp1 n1 P1 St1) (D2 : Draws prog w A.in1 i2 fp2 n2 P2 St2)
    (hz : ZRec s.heap z TI TO .none b) (hTI : IsTupOf2 s.heap TI (.ref i1) (.ref i2)) (hTO : IsTupOf2 s.heap TO a1 a2) (st1 : St1 i s.heap) (st2 : St2 i s.heap) (lt1 : i < n1) (lt2 : i < n2)
    (hQ : ∀ x1 x2 h' tk, P1 i x1 → P2 i x2 → ZRec h' z TI TO (rawInt s.heap.objs.size) b → IsTupOf2 h' TO x1 x2 → St1 (i + 1) h' → St2 (i + 1) h' → IsTupOf2 h' s.heap.objs.size x1 x2 → h'.objs.size = s.heap.objs.size + 1 →
      (∀ c o, c ≠ z → c ≠ TO → c ≠ i1 → c ≠ i2 → s.heap.get? c = some o → h'.get? c = some o) → Q (some (.ref s.heap.objs.size)) { s with heap := h', toks := tk }) :
    wpAny (model prog w) A (pyNext (.ref z)) Q E s := by
  cases b with
  | false => exact wpAny_pyNext_zipD2_item S D1 D2 hz hTI hTO st1 st2 lt1 lt2 hQ
  | true =>
    have hT : s.TypeIs (.ref z) "zip" := ⟨_, hz, rfl⟩
    unfold pyNext
    apply wpAny_bind
    apply wpAny_attempt
    refine wpAny_callSpecial?_slot (name := Str.ofString "__next__") hT F.slot_zip_next (wpAny_call_entry F.slot_zip_next hT F.entry_zip_next ?_ (F.args_zip_next_1 _))
    exact zs_item0 S D1 D2 hz hTI hTO st1 st2 lt1 lt2 fun x1 x2 h' tk y1 y2 b1 b2 d1 d2 b5 b6 b7 => wpAny_pure (hQ x1 x2 h' tk y1 y2 b1 b2 d1 d2 b5 b6 b7)
theorem zb_end {Q : Option Value → Shared → Prop} (b : Bool) (hh : A.handled = none) (S : ZipSep2 z TI TO i1 i2 fp1 fp2) (D1 : Draws prog w A.in1 i1 fp1 n1 P1 St1) (D2 : Draws prog w A.in1 i2 fp2 n2 P2 St2)
    (hz : ZRec s.heap z TI TO .none b) (hTI : IsTupOf2 s.heap TI (.ref i1) (.ref i2)) (hTO : IsTupOf2 s.heap TO a1 a2) (st1 : St1 i s.heap) (st2 : St2 i s.heap) (le1 : i ≤ n1) (le2 : i ≤ n2) (hend : if b = true then n1 = i ∧ n2 = i else n1 = i ∨ n2 = i)
    (hQ : ∀ h' tk, (∀ c o, c ≠ z → c ≠ TO → c ≠ i1 → c ≠ i2 → s.heap.get? c = some o → h'.get? c = some o) → Q none { s with heap := h', toks := tk }) : wpAny (model prog w) A (pyNext (.ref z)) Q E s := by
  cases b with
  | false => exact wpAny_pyNext_zipD2_end S D1 D2 hz hTI hTO st1 st2 le1 le2 (hend.imp Eq.symm Eq.symm) hQ
  | true =>
    obtain ⟨rfl, rfl⟩ := hend
    have hT : s.TypeIs (.ref z) "zip" := ⟨_, hz, rfl⟩
    unfold pyNext
    apply wpAny_bind
    apply wpAny_attempt
    refine wpAny_callSpecial?_slot (name := Str.ofString "__next__") hT F.slot_zip_next (wpAny_call_entry F.slot_zip_next hT F.entry_zip_next ?_ (F.args_zip_next_1 _))
    refine zs_end0 (A := A.in1) hh S D1 D2 hz hTI hTO st1 st2 fun h' tk e hk he => ?_
    obtain ⟨o, ho, hc⟩ := he
    exact wpAny_bind (wpAny_isInstance (T := "StopIteration") (b := true) ⟨o, ho, hc⟩ isSubtype_stop (wpAny_pure (hQ _ tk hk)))
theorem zb_go {elts : List Expr} {x1} {pos : Pos} {T : Addr} {b : Bool} {Q : Unit → Shared → Prop} (hz : ZRec s.heap z TI TO (rawInt T) b)
    (hQ : ∀ h', ZRec h' z TI TO .none b → Heap.SameBut z s.heap h' → Q () { s with heap := h' }) :
    wpAny (model prog w) A (letOwnedTupleGo (.Tuple elts x1 pos) (.ref z) (.ref T)) Q E s := by
  unfold letOwnedTupleGo
  apply wpAny_bind
  refine wpAny_load hz ?_
  show wpAny _ _ (if (_ && (#[rawInt T, .bool false, .bool b, .ref TI, .ref TO] : Array Value)[0]? == some (rawInt T)) = true then _ else _) Q E s
  rw [if_pos (by simp)]
  apply wpAny_bind
  apply wpAny_rule
  show wpAny _ _ (setField (.ref z) 0 .none) Q E s
  exact wpAny_setField_rec hz (by simp) fun h' hz' hs' => hQ h' hz' hs'
theorem zb_self {f0 : Value} {b : Bool} {Q : Value → Shared → Prop} (hz : ZRec s.heap z TI TO f0 b) (h : Q (.ref z) s) : wpAny (model prog w) A (pyIter (.ref z)) Q E s := by
  have hT : s.TypeIs (.ref z) "zip" := ⟨_, hz, rfl⟩
  refine wpAny_pyIter_slot hT F.slot_zip_iter (wpAny_call_entry F.slot_zip_iter hT F.entry_zip_iter ?_ (F.args_zip_iter_1 _))
  show wpAny _ _ (ret (.ref z)) _ _ s
  exact wpAny_pure ⟨_, rfl, "zip", _, hT, F.slot_zip_next.lookup, h⟩
end
theorem getE_arr {xs : List V} {its : List Value} (r : Vals xs its) {i : Nat} {x : V} (h : xs[i]? = some x) : ∃ u, its.toArray[i]? = some u ∧ RelV x u := by
  obtain ⟨u, hu, ru⟩ := r.get h
  exact ⟨u, by simpa using hu, ru⟩
theorem turn_zk {P : Program} {w : World} {K : PySem.W.Frag} {elts : List Expr} {kk : Nat} {tpos : Pos} {t1 t2 b : Bool} {a1 a2 z TI TO i1 i2 : Addr} (S : ZipSep2 z TI TO i1 i2 [i1, a1] [i2, a2]) (d1 : a1 ≠ i1) (d2 : a2 ≠ i2) :
    Turn P w K (.Tuple elts kk tpos) (Izk K t1 t2 b a1 a2) [z, TI, TO, i1, i2] z (fun i h => ZRec h z TI TO .none b ∧ IsTupOf2 h TI (.ref i1) (.ref i2) ∧ (∃ x y, IsTupOf2 h TO x y) ∧ ItK t1 h i1 a1 i ∧ ItK t2 h i2 a2 i) where
  mem := by simp
  obj := fun i h st c hc => by
    obtain ⟨hz, hTI, ⟨x, y, hTO⟩, p1, p2⟩ := st
    have e' : c = z ∨ c = TI ∨ c = TO ∨ c = i1 ∨ c = i2 := by simpa using hc
    rcases e' with q | q | q | q | q
    · rw [q]; exact ⟨_, hz, fun v q => nomatch q⟩
    · rw [q]; exact ⟨_, hTI, fun v q => nomatch q⟩
    · rw [q]; exact ⟨_, hTO, fun v q => nomatch q⟩
    · rw [q]; exact p1.obj
    · rw [q]; exact p2.obj
  keep := fun i h h' st k => by
    obtain ⟨hz, hTI, ⟨x, y, hTO⟩, p1, p2⟩ := st
    exact ⟨k z (by simp) _ hz, k TI (by simp) _ hTI, ⟨x, y, k TO (by simp) _ hTO⟩, p1.at fun o q => k i1 (by simp) o q, p2.at fun o q => k i2 (by simp) o q⟩
  item := by
    intro X hP hw hK hc i pins s σ H E I hf st hg
    subst hP hw hK
    obtain ⟨hz, hTI, ⟨x0, y0, hTO⟩, p1, p2⟩ := st
    obtain ⟨xs, ys, x, y, qx, qy, hx, hy⟩ := hg
    obtain ⟨its, rv, s1, _⟩ := inv_sq I qx
    obtain ⟨its2, rv2, s2, _⟩ := inv_sq I qy
    obtain ⟨u, hu, ru⟩ := getE_arr rv hx
    obtain ⟨u2, hu2, ru2⟩ := getE_arr rv2 hy
    have hzl : z < s.heap.objs.size := Heap.lt_size hz
    have lt1 : i < its.toArray.size := (Array.getElem?_eq_some_iff.mp hu).1
    have lt2 : i < its2.toArray.size := (Array.getElem?_eq_some_iff.mp hu2).1
    have D1 := drawsK (prog := X.prog) (w := X.w) (A := X.A.in1) t1 (I.ok.hd hc) i1 a1 d1 its.toArray
    have D2 := drawsK (prog := X.prog) (w := X.w) (A := X.A.in1) t2 (I.ok.hd hc) i2 a2 d2 its2.toArray
    refine zb_item b S D1 D2 hz hTI hTO ⟨p1, s1⟩ ⟨p2, s2⟩ lt1 lt2 fun v1 v2 h' tk y1 y2 z' TO' j1 j2 hT hsz hk => ?_
    rw [hu] at y1; cases y1
    rw [hu2] at y2; cases y2
    refine ⟨_, rfl, zb_go (s := { s with heap := h', toks := tk }) z' fun h'' z'' sb => ?_⟩
    have hT2 : h''.get? s.heap.objs.size = some { cls := .type "tuple", data := .seq #[u, u2] } := (sb.2 _ (Nat.ne_of_gt hzl)).trans hT
    have new : ObjOk X.prog X.w (upd H s.heap.objs.size (.tup [x, y])) h'' s.heap.objs.size (.tup [x, y]) :=
      ⟨by show 2 ≤ sizeLine; decide, [u, u2], .cons ru (.cons ru2 .nil), ⟨_, hT2, rfl, _, rfl⟩⟩
    have I1 : Inv X pins σ (upd H s.heap.objs.size (.tup [x, y])) { s with heap := h'', toks := tk } :=
      I.turnedNew (t' := tk) (ch := [z, TI, TO, i1, i2]) (fun c o hb q => (sb.2 c (fun q' => hb (by simp [q']))).trans (hk c o (fun q' => hb (by simp [q'])) (fun q' => hb (by simp [q'])) (fun q' => hb (by simp [q'])) (fun q' => hb (by simp [q'])) q)) hf (Nat.le_refl _) new
    have keep : ∀ c, c ≠ z → ∀ o, h'.get? c = some o → h''.get? c = some o := fun c h o q => (sb.2 _ h).trans q
    refine ⟨.ref s.heap.objs.size, _, I1, rfl, ⟨_, x, y, rfl, I.hok.fresh (Nat.le_refl _), rfl, fun l hl => by rw [inv_sq_inj I hl qx]; exact hx, fun l hl => by rw [inv_sq_inj I hl qy]; exact hy⟩, ⟨z'', ?_, ⟨u, u2, keep _ S.TOz _ TO'⟩, j1.1.at fun o q => keep _ S.zi1.symm _ q, j2.1.at fun o q => keep _ S.zi2.symm _ q⟩, fun c hcm => ?_⟩
    · exact keep _ S.TIz _ (hk _ _ S.TIz S.TITO S.TIi1 S.TIi2 hTI)
    · have hlt : c < s.heap.objs.size := by
        have e' : c = z ∨ c = TI ∨ c = TO ∨ c = i1 ∨ c = i2 := by simpa using hcm
        rcases e' with q | q | q | q | q
        · rw [q]; exact hzl
        · rw [q]; exact Heap.lt_size hTI
        · rw [q]; exact Heap.lt_size hTO
        · rw [q]; obtain ⟨_, e1, _⟩ := p1.obj; exact Heap.lt_size e1
        · rw [q]; obtain ⟨_, e2, _⟩ := p2.obj; exact Heap.lt_size e2
      rw [upd_ne (Nat.ne_of_lt hlt)]
      exact (hf c hcm).1
  done := by
    intro X hP hw hK hc i pins s σ H E I hf st hg
    subst hP hw hK
    obtain ⟨hz, hTI, ⟨x0, y0, hTO⟩, p1, p2⟩ := st
    obtain ⟨xs, ys, qx, qy, le1, le2, hend⟩ := hg
    obtain ⟨its, rv, s1, _⟩ := inv_sq I qx
    obtain ⟨its2, rv2, s2, _⟩ := inv_sq I qy
    have l1 : its.toArray.size = xs.length := by rw [List.size_toArray, rv.length]
    have l2 : its2.toArray.size = ys.length := by rw [List.size_toArray, rv2.length]
    have D1 := drawsK (prog := X.prog) (w := X.w) (A := X.A.in1) t1 (I.ok.hd hc) i1 a1 d1 its.toArray
    have D2 := drawsK (prog := X.prog) (w := X.w) (A := X.A.in1) t2 (I.ok.hd hc) i2 a2 d2 its2.toArray
    refine zb_end b (I.ok.hd hc) S D1 D2 hz hTI hTO ⟨p1, s1⟩ ⟨p2, s2⟩ (by omega) (by omega) (by rw [l1, l2]; exact hend) fun h' tk hk => ⟨rfl, I.turnedL (t' := tk) (ch := [z, TI, TO, i1, i2]) (fun c o hb q =>
      hk c o (fun q' => hb (by simp [q'])) (fun q' => hb (by simp [q'])) (fun q' => hb (by simp [q'])) (fun q' => hb (by simp [q'])) q) hf⟩
  self := fun A i s Q E st h => zb_self st.1 h
end Pd
end
section
namespace Pd
open PySem PySem.Spec L2
open PySem.Sem (wp)
/-! ### enumerate -/
abbrev enO : Addr → Obj := fun i => { cls := .type "enumerate", data := .fields #[.none, .bool false, .ref i, rawInt 0, .none, .none] }
theorem en_new {v : Value} {o : Obj} {J : Heap → Prop} (B : Begins v o J) :
    Meets (Builtin.«enumerate.__new__» ⟨[.type "enumerate", v], []⟩) (fun _ R s => J s.heap ∧ R (.ok (.ret (.ref (s.heap.push o).objs.size))) { s with heap := (s.heap.push o).push (enO s.heap.objs.size) }) :=
  .of_wp fun prog w A R s hy => by
    obtain ⟨hp, g, d, tk, os⟩ := s; obtain ⟨h1, hy⟩ := hy
    have hsub := sub_enumerate
    have q1 : ∀ {A' : Around} {E : Value → Shared → Prop} {Q : Value → Shared → Prop}, Q (.ref hp.objs.size) ⟨hp.push o, g, d, tk, os⟩ → wpAny (model prog w) A' (pyIter v) Q E ⟨hp, g, d, tk, os⟩ :=
      fun q => B.iter prog w _ _ ⟨hp, g, d, tk, os⟩ _ h1 q
    wp_walk using q1
    refine wpAny_stack_any fun st => wpAny_pure ?_
    split
    · rename_i c _ _ _ _ _
      cases (c == Value.type "enumerate") <;> (wp_walk using q1) <;> exact ⟨_, rfl, hy⟩
    · wp_walk using q1
      exact ⟨_, rfl, hy⟩
section
variable {prog : Program} {w : World} {A : Around} {E : Value → Shared → Prop} {s : Shared}
theorem en_call {v : Value} {o : Obj} {J : Heap → Prop} {Q : Value → Shared → Prop} (B : Begins v o J) (h1 : J s.heap)
    (h : ∀ h', IsEnum h' (s.heap.objs.size + 1) s.heap.objs.size 0 .none → h'.get? s.heap.objs.size = some o → (∀ b o, s.heap.get? b = some o → h'.get? b = some o) → Q (.ref (s.heap.objs.size + 1)) { s with heap := h' }) :
    wpAny (model prog w) A (call (.type "enumerate") [v]) Q E s := by
  refine callType_new F.called_enumerate (by decide) (F.typeCall_enumerate_1 _) (F.newCall_enumerate_1 _) (fun obj => F.args_object_init_2 obj _) F.entry_enumerate_new (en_new B) ⟨h1, ?_⟩
  have hz : (s.heap.push o).objs.size = s.heap.objs.size + 1 := Heap.size_push ..
  have he : IsEnum ((s.heap.push o).push (enO s.heap.objs.size)) (s.heap.objs.size + 1) s.heap.objs.size 0 .none := by
    have := Heap.get?_push_size (s.heap.push o) (o := enO s.heap.objs.size) rfl
    rw [hz] at this; exact this
  show _ ∧ _
  rw [hz]
  exact ⟨⟨_, he, rfl⟩, h _ he (Heap.get?_push_of_some _ (Heap.get?_push_size _ B.free)) fun b o x => Heap.get?_push_of_some _ (Heap.get?_push_of_some _ x)⟩
end
def Iek (K : PySem.W.Frag) (t : Bool) (a : Addr) : It :=
  ⟨fun i H => ∃ (xs : List V) (x : V), SqK t K H a xs ∧ xs[i]? = some x,
    fun i H v H' => ∃ T x, v = .ref T ∧ H T = none ∧ H' = upd H T (.tup [.int (i : Nat), x]) ∧ ∀ xs, SqK t K H a xs → xs[i]? = some x,
    fun i H => ∃ xs : List V, SqK t K H a xs ∧ xs.length = i⟩
theorem turn_ek {P : Program} {w : World} {K : PySem.W.Frag} {elts : List Expr} {kk : Nat} {tpos : Pos} {t : Bool} {a e it : Addr} (hne : e ≠ it) (hea : e ≠ a) (hai : a ≠ it) :
    Turn P w K (.Tuple elts kk tpos) (Iek K t a) [e, it] e (fun i h => (∃ old, IsEnum h e it ((i : Nat) : Int) old) ∧ ItK t h it a i) where
  mem := by simp
  obj := fun i h st b hb => by
    obtain ⟨⟨old, he⟩, p⟩ := st
    have e' : b = e ∨ b = it := by simpa using hb
    rcases e' with z | z
    · rw [z]; exact ⟨_, he, fun v q => nomatch q⟩
    · rw [z]; exact p.obj
  keep := fun i h h' st k => let ⟨⟨old, he⟩, p⟩ := st; ⟨⟨old, k e (by simp) _ he⟩, p.at fun o q => k it (by simp) o q⟩
  item := by
    intro X hP hw hK hc i pins s σ H E I hf st hg
    subst hP hw hK
    obtain ⟨⟨old, he⟩, p⟩ := st
    obtain ⟨xs, x, qx, hx⟩ := hg
    obtain ⟨its, rv, s1, _⟩ := inv_sq I qx
    obtain ⟨u, hu, ru⟩ := getE_arr rv hx
    have hel : e < s.heap.objs.size := Heap.lt_size he
    have hil : it < s.heap.objs.size := by obtain ⟨_, q, _⟩ := p.obj; exact Heap.lt_size q
    have lt1 : i < its.toArray.size := (Array.getElem?_eq_some_iff.mp hu).1
    have D1 := drawsK (prog := X.prog) (w := X.w) (A := X.A.in1) t (I.ok.hd hc) it a hai its.toArray
    refine wpAny_pyNext_enum_itemD D1 he ⟨p, s1⟩ lt1 hne (by simp [hne, hea]) fun v h' tk y ho j hT hsz hk => ?_
    rw [hu] at y; cases y
    refine ⟨_, rfl, wpAny_letOwnedTupleGo_enum (s := { s with heap := h', toks := tk + 1 }) ho fun h'' he' sb => ?_⟩
    have hT2 : h''.get? s.heap.objs.size = some { cls := .type "tuple", data := .seq #[.int i tk, u] } := (sb.2 _ (Nat.ne_of_gt hel)).trans hT
    have new : ObjOk X.prog X.w (upd H s.heap.objs.size (.tup [.int (i : Nat), x])) h'' s.heap.objs.size (.tup [.int (i : Nat), x]) :=
      ⟨by show 2 ≤ sizeLine; decide, [.int i tk, u], .cons ⟨_, rfl⟩ (.cons ru .nil), ⟨_, hT2, rfl, _, rfl⟩⟩
    have I1 : Inv X pins σ (upd H s.heap.objs.size (.tup [.int (i : Nat), x])) { s with heap := h'', toks := tk + 1 } :=
      I.turnedNew (ch := [e, it]) (fun b ob hb q => (sb.2 b (fun z => hb (by simp [z]))).trans (hk b ob (fun z => hb (by simp [z])) (fun z => hb (by simp [z])) q)) hf (Nat.le_refl _) new
    refine ⟨.ref s.heap.objs.size, _, I1, rfl, ⟨_, x, rfl, I.hok.fresh (Nat.le_refl _), rfl, fun l hl => by rw [inv_sq_inj I hl qx]; exact hx⟩, ⟨⟨u, ?_⟩, j.1.at fun o q => (sb.2 it hne.symm).trans q⟩, fun b hb => ?_⟩
    · have e1 : ((i + 1 : Nat) : Int) = (i : Int) + 1 := by omega
      rw [e1]; exact he'
    · have hb' : b < s.heap.objs.size := by
        have e' : b = e ∨ b = it := by simpa using hb
        rcases e' with z | z
        · rw [z]; exact hel
        · rw [z]; exact hil
      rw [upd_ne (Nat.ne_of_lt hb')]
      exact (hf b hb).1
  done := by
    intro X hP hw hK hc i pins s σ H E I hf st hg
    subst hP hw hK
    obtain ⟨⟨old, he⟩, p⟩ := st
    obtain ⟨xs, qx, hx⟩ := hg
    obtain ⟨its, rv, s1, _⟩ := inv_sq I qx
    obtain ⟨f0, f1, f2, f3, f4, f5⟩ := hf it (by simp)
    have l1 : its.toArray.size = i := by rw [List.size_toArray, ← rv.length]; exact hx
    have D1 := drawsK (prog := X.prog) (w := X.w) (A := X.A.in1) t (I.ok.hd hc) it a hai its.toArray
    rw [l1] at D1
    exact wpAny_pyNext_enum_endD D1 he ⟨p, s1⟩ fun h' eb => ⟨rfl, I.turned (t' := s.toks) (fun b o hb q => eb b o hb q) f0 f1 f3 f4 f5⟩
  self := fun A i s Q E st h => let ⟨⟨_, he⟩, _⟩ := st; wpAny_pyIter_enum he h

/-! ### as sources -/
def ckS (d : D) (ds : List D) : Mu → Prop := fun μ => seqOf μ d = some ds
/-- what the store does not touch -/
def fixD : D → Bool
  | .ref _ => false
  | _ => true
theorem fixD.ck {d : D} {ds : List D} {μ : Mu} (h : fixD d = true) (e : seqOf μ d = some ds) (μ' : Mu) : ckS d ds μ' := by
  cases d with
  | ref l => cases h
  | _ => exact e
/-- over a list or a tuple -/
def seqSrc' (f : DE) : Sl → Mu → R Src := fun sl μ => bindR (f sl μ) fun d μ1 => match seqOf μ1 d with
  | some ds => ok (mkSrc (fixD d) ds (ckS d ds)) μ1
  | none => none
def zipD (xs ys : List D) : List D := List.zipWith (fun x y => D.tup [x, y]) xs ys
def zipSrc (b : Bool) (f : DL) : Sl → Mu → R Src := fun sl μ => bindR (f sl μ) fun ds μ1 => match ds with
  | [x, y] => match seqOf μ1 x, seqOf μ1 y with
    | some xs, some ys => if b = true → xs.length = ys.length then ok (mkSrc (fixD x && fixD y) (zipD xs ys) fun μ => ckS x xs μ ∧ ckS y ys μ) μ1 else none
    | _, _ => none
  | _ => none
def enumF : Nat → List D → List D
  | _, [] => []
  | i, d :: ds => .tup [.int (i : Nat), d] :: enumF (i + 1) ds
def enSrc (f : DE) : Sl → Mu → R Src := fun sl μ => bindR (f sl μ) fun d μ1 => match seqOf μ1 d with
  | some ds => ok (mkSrc (fixD d) (enumF 0 ds) (ckS d ds)) μ1
  | none => none
theorem enumF_get : ∀ {ds : List D} {k i : Nat}, (enumF k ds)[i]? = (ds[i]?).map fun d => D.tup [.int ((k + i : Nat) : Nat), d]
  | [], _, _ => rfl
  | d :: ds, k, 0 => rfl
  | d :: ds, k, i + 1 => by
    show (enumF (k + 1) ds)[i]? = _
    rw [enumF_get, List.getElem?_cons_succ]
    have : k + 1 + i = k + (i + 1) := by omega
    rw [this]
theorem enumF_len : ∀ {ds : List D} {k : Nat}, (enumF k ds).length = ds.length
  | [], _ => rfl
  | d :: ds, k => by simp [enumF, enumF_len]
section
variable {K : PySem.W.Frag} {H G : Hp} {m : List Addr} {μ : Mu}
theorem seqOf_k (wf : Wf K H G m μ) {d : D} {v : V} {ds : List D} (h : seqOf μ d = some ds) (r : RepV K G m d v) : ∃ t a vs, v = .ref a ∧ SqK t K H a vs ∧ RepL K G m ds vs := by
  obtain ⟨a, vs, e, q, l⟩ := seqOf_rep wf h r
  obtain ⟨t, q⟩ := SqK_of q
  exact ⟨t, a, vs, e, q, l⟩
/-- the kind is the datum's own -/
def kdOf : D → Bool
  | .tup _ => true
  | _ => false
theorem seqOf_kd (wf : Wf K H G m μ) {d : D} {a : Addr} {ds : List D} (h : seqOf μ d = some ds) (r : RepV K G m d (.ref a)) : ∃ vs, SqK (kdOf d) K H a vs ∧ RepL K G m ds vs := by
  cases d with
  | tup xs =>
    cases h
    obtain ⟨a', vs, e, q, l⟩ := r
    cases e
    exact ⟨vs, wf.sub.sqT q, l⟩
  | lst xs =>
    obtain ⟨a', vs, e, q, l⟩ := lstOf_rep wf (d := .lst xs) h r
    cases e
    exact ⟨vs, q, l⟩
  | ref l =>
    obtain ⟨a', vs, e, q, l⟩ := lstOf_rep wf (d := .ref l) h r
    cases e
    exact ⟨vs, q, l⟩
  | _ => cases h
theorem seqOf_ref (wf : Wf K H G m μ) {d : D} {v : V} {ds : List D} (h : seqOf μ d = some ds) (r : RepV K G m d v) : ∃ a, v = .ref a := by
  obtain ⟨a, vs, e, _⟩ := seqOf_rep wf h r
  exact ⟨a, e⟩
theorem step_pair (wf : Wf K H G m μ) {p : Addr} (hp : H p = none) {x y : D} {u v : V} (ru : RepV K G m x u) (rv : RepV K G m y v) :
    Wf K (upd H p (.tup [u, v])) (upd G p (.tup [u, v])) m μ ∧ Step H G m μ (upd H p (.tup [u, v])) (upd G p (.tup [u, v])) m μ ∧ RepV K (upd G p (.tup [u, v])) m (.tup [x, y]) (.ref p) := by
  refine ⟨wf.laid hp, Step.laid wf hp, p, [u, v], rfl, .inl (.inl upd_same), ?_⟩
  exact (show RepL K G m [x, y] [u, v] from ⟨u, [v], rfl, ru, v, [], rfl, rv, rfl⟩).laid (wf.gnone hp)
end
theorem getE_end {α : Type} {l : List α} {i : Nat} (h : i = l.length) : l[i]? = none := by rw [List.getElem?_eq_none_iff]; omega
section
variable {X : Cx} {W : WX} {tg e a b : Expr} {fe : DE} {fl : DL} {p pos tpos : Pos} {elts : List Expr} {kk : Nat}
theorem srcok_seq {K : PySem.W.Frag} {H G : Hp} {m : List Addr} {μ : Mu} {d : D} {ds : List D} {a : Addr} (r : RepV K G m d (.ref a)) (J : It) (hJ : (kdOf d = true ∧ J = Itt K a) ∨ (kdOf d = false ∧ J = Itl K a)) (inj : ∀ H xs ys, SqK (kdOf d) K H a xs → SqK (kdOf d) K H a ys → True) : SrcOk K G m (.ck ds (ckS d ds)) J := by
  intro H' G' m' μ' wf le ⟨r', em⟩ ck
  subst em
  have r2 : RepV K G' (m ++ r') d (.ref a) := r.mono le
  obtain ⟨vs, q, l⟩ := seqOf_kd wf ck r2
  have st : (∀ i x, vs[i]? = some x → J.go i H' ∧ ∀ y H2, J.yld i H' y H2 → H2 = H' ∧ y = x) ∧ J.stop vs.length H' := by
    rcases hJ with ⟨e, rfl⟩ | ⟨e, rfl⟩
    · rw [e] at q
      exact ⟨fun i x hx => ⟨⟨vs, x, q, hx⟩, fun y H2 z => ⟨z.1, by have := z.2 vs q; rw [hx] at this; cases this; rfl⟩⟩, ⟨vs, q, Nat.le_refl _⟩⟩
    · rw [e] at q
      exact ⟨fun i x hx => ⟨⟨vs, x, q, hx⟩, fun y H2 z => ⟨z.1, by have := z.2 vs q; rw [hx] at this; cases this; rfl⟩⟩, ⟨vs, q, Nat.le_refl _⟩⟩
  refine ⟨fun i d' hd => ?_, by show J.stop ds.length H'; rw [← l.length]; exact st.2⟩
  obtain ⟨x, hx, rx⟩ := l.get hd
  refine ⟨(st.1 i x hx).1, fun y H2 z => ?_⟩
  obtain ⟨e1, e2⟩ := (st.1 i x hx).2 y H2 z
  subst e1 e2
  exact ⟨G', wf, Step.refl, rx⟩
theorem pid_seq (he : PE X e (TD X.K W fe)) : PI X tg e (TIs X.K W (seqSrc' fe)) := by
  refine ⟨fun pins s σ H R I h => ?_⟩
  obtain ⟨G, m, μ, sl, wf, rs, rl, o⟩ := h
  have o : okA _ X.K W σ H G m μ (bindR (fe sl μ) _) R := o
  by_cases c : ∃ d μ1 ds, fe sl μ = some (.ok d μ1) ∧ seqOf μ1 d = some ds
  · obtain ⟨d, μ1, ds, e1, e2⟩ := c
    have key : ∀ v H' G' m', Wf X.K H' G' m' μ1 → Step H G m μ H' G' m' μ1 → RepV X.K G' m' d v → ∃ a, v = .ref a ∧ (∃ vs, SqK (kdOf d) X.K H' a vs) ∧ ∀ J : It, ((kdOf d = true ∧ J = Itt X.K a) ∨ (kdOf d = false ∧ J = Itl X.K a)) → R J H' := fun v H' G' m' wf' st r => by
      obtain ⟨a, rfl⟩ := seqOf_ref wf' e2 r
      obtain ⟨vs, q, l⟩ := seqOf_kd wf' e2 r
      refine ⟨a, rfl, ⟨vs, q⟩, fun J hJ => ?_⟩
      rw [e1] at o
      have o : okA _ X.K W σ H G m μ (match seqOf μ1 d with | some ds => ok (mkSrc (fixD d) ds (ckS d ds)) μ1 | none => none) R := o
      rw [e2] at o
      exact o J H' G' m' wf' st ((srcok_seq (H := H') (μ := μ1) r J hJ fun _ _ _ _ _ => trivial).mk fun h => fixD.ck h e2)
    cases ek : kdOf d with
    | true =>
      refine (pi_tup he).run pins s σ H R I ⟨G, m, μ, sl, wf, rs, rl, ?_⟩
      rw [e1]
      intro v H' G' m' wf' st r
      obtain ⟨a, rfl, ⟨vs, q⟩, k⟩ := key v H' G' m' wf' st r
      rw [ek] at q k
      exact ⟨a, rfl, ⟨vs, q⟩, k _ (.inl ⟨rfl, rfl⟩)⟩
    | false =>
      refine (pi_list he).run pins s σ H R I ⟨G, m, μ, sl, wf, rs, rl, ?_⟩
      rw [e1]
      intro v H' G' m' wf' st r
      obtain ⟨a, rfl, ⟨vs, q⟩, k⟩ := key v H' G' m' wf' st r
      rw [ek] at q k
      exact ⟨a, rfl, ⟨vs, q⟩, k _ (.inr ⟨rfl, rfl⟩)⟩
  · refine (pi_list he).run pins s σ H R I ⟨G, m, μ, sl, wf, rs, rl, ?_⟩
    revert o c
    cases fe sl μ with
    | none => exact fun z _ => z
    | some q =>
      cases q with
      | exc x μ1 => exact fun z _ => z
      | ok d μ1 =>
        intro o c
        have o : okA _ X.K W σ H G m μ (match seqOf μ1 d with | some ds => ok (mkSrc (fixD d) ds (ckS d ds)) μ1 | none => none) R := o
        cases e2 : seqOf μ1 d with
        | none => rw [e2] at o; exact o.elim
        | some ds => exact absurd ⟨d, μ1, ds, rfl, e2⟩ c

/-- zip of what two data are -/
theorem srcok_zip {K : PySem.W.Frag} {G : Hp} {m : List Addr} {b : Bool} {x y : D} {xs ys : List D} {a1 a2 : Addr} (hb : b = true → xs.length = ys.length) (r1 : RepV K G m x (.ref a1)) (r2 : RepV K G m y (.ref a2)) : SrcOk K G m (.ck (zipD xs ys) fun μ => ckS x xs μ ∧ ckS y ys μ) (Izk K (kdOf x) (kdOf y) b a1 a2) := by
  intro H' G' m' μ' wf le ⟨r', em⟩ ck
  subst em
  obtain ⟨us, q1, l1⟩ := seqOf_kd wf ck.1 (r1.mono (r := r') le)
  obtain ⟨ws, q2, l2⟩ := seqOf_kd wf ck.2 (r2.mono (r := r') le)
  refine ⟨fun i d hd => ?_, ⟨us, ws, q1, q2, ?_⟩⟩
  · have hd : (List.zipWith (fun x y => D.tup [x, y]) xs ys)[i]? = some d := hd
    rw [List.getElem?_zipWith] at hd
    cases ex : xs[i]? with
    | none => rw [ex] at hd; cases hd
    | some dx =>
      cases ey : ys[i]? with
      | none => rw [ex, ey] at hd; cases hd
      | some dy =>
        rw [ex, ey] at hd; cases hd
        obtain ⟨u, hu, ru⟩ := l1.get ex
        obtain ⟨w, hw, rw_⟩ := l2.get ey
        refine ⟨⟨us, ws, u, w, q1, q2, hu, hw⟩, fun v H2 z => ?_⟩
        obtain ⟨T, u', w', rfl, hT, rfl, f1, f2⟩ := z
        have e1 := f1 us q1
        have e2 := f2 ws q2
        rw [hu] at e1; cases e1
        rw [hw] at e2; cases e2
        exact ⟨_, step_pair wf hT ru rw_⟩
  · show (zipD xs ys).length ≤ _ ∧ (zipD xs ys).length ≤ _ ∧ _
    have e : (zipD xs ys).length = min xs.length ys.length := by simp [zipD]
    show _ ∧ _ ∧ (if b = true then us.length = (zipD xs ys).length ∧ ws.length = (zipD xs ys).length else us.length = (zipD xs ys).length ∨ ws.length = (zipD xs ys).length)
    rw [e, l1.length, l2.length]
    refine ⟨by omega, by omega, ?_⟩
    split
    · rename_i h
      have := hb h
      omega
    · omega
theorem srcok_en {K : PySem.W.Frag} {G : Hp} {m : List Addr} {x : D} {xs : List D} {a : Addr} (r1 : RepV K G m x (.ref a)) : SrcOk K G m (.ck (enumF 0 xs) (ckS x xs)) (Iek K (kdOf x) a) := by
  intro H' G' m' μ' wf le ⟨r', em⟩ ck
  subst em
  obtain ⟨us, q1, l1⟩ := seqOf_kd wf ck (r1.mono (r := r') le)
  refine ⟨fun i d hd => ?_, ⟨us, q1, by show us.length = (enumF 0 xs).length; rw [enumF_len, l1.length]⟩⟩
  have hd : (enumF 0 xs)[i]? = some d := hd
  rw [enumF_get] at hd
  cases ex : xs[i]? with
  | none => rw [ex] at hd; cases hd
  | some dx =>
    rw [ex] at hd; cases hd
    obtain ⟨u, hu, ru⟩ := l1.get ex
    refine ⟨⟨us, u, q1, hu⟩, fun v H2 z => ?_⟩
    obtain ⟨T, u', rfl, hT, rfl, f1⟩ := z
    have e1 := f1 us q1
    rw [hu] at e1; cases e1
    rw [Nat.zero_add]
    exact ⟨_, step_pair wf hT (x := D.int (i : Nat)) rfl ru⟩
theorem sep2 (n a b : Addr) (h1 : a < n) (h2 : b < n) : ZipSep2 (n + 4) (n + 2) (n + 3) n (n + 1) [n, a] [n + 1, b] := zip_sep2 (fp1 := [a]) (fp2 := [b]) (fun x hx => by simp at hx; subst hx; exact h1) (fun x hx => by simp at hx; subst hx; exact h2)
theorem zip_run {pins : List (Addr × Obj)} {σ : L2.St} {H : Hp} {s : Shared} {R : It → Hp → Prop} {t1 t2 b : Bool} {a1 a2 : Addr} {xs ys : List V} {kw : List (Str × Value)} (I : Inv X pins σ H s) (qx : SqK t1 X.K H a1 xs) (qy : SqK t2 X.K H a2 ys) (hkw : (b = false ∧ kw = []) ∨ kw = kwS b)
    (q : R (Izk X.K t1 t2 b a1 a2) H) : wpAny (model X.prog X.w) X.A (call (.type "zip") [.ref a1, .ref a2] kw) (fun v s1 => wpAny (model X.prog X.w) X.A (pyIter v) (PIE X pins σ (.Tuple elts kk tpos) R) X.xe s1) X.xe s := by
  obtain ⟨its, rv, p1, la, _⟩ := inv_sq I qx
  obtain ⟨its2, rv2, p2, lb, _⟩ := inv_sq I qy
  have fin : ∀ h', ZRec h' (s.heap.objs.size + 4) (s.heap.objs.size + 2) (s.heap.objs.size + 3) .none b → IsTupOf2 h' (s.heap.objs.size + 2) (.ref s.heap.objs.size) (.ref (s.heap.objs.size + 1)) →
      IsTupOf2 h' (s.heap.objs.size + 3) .none .none → h'.get? s.heap.objs.size = some (objK t1 a1) → h'.get? (s.heap.objs.size + 1) = some (objK t2 a2) → h'.objs.size = s.heap.objs.size + 5 →
      (∀ c o, s.heap.get? c = some o → h'.get? c = some o) → wpAny (model X.prog X.w) X.A (pyIter (.ref (s.heap.objs.size + 4))) (PIE X pins σ (.Tuple elts kk tpos) R) X.xe { s with heap := h' } := fun h' hz hTI hTO g1 g2 hsz hk => by
    refine zb_self (s := { s with heap := h' }) hz ?_
    have I2 : Inv X pins σ H { s with heap := h' } := I.kept (t' := s.toks) hk
    refine ⟨s.heap.objs.size + 4, [s.heap.objs.size + 4, s.heap.objs.size + 2, s.heap.objs.size + 3, s.heap.objs.size, s.heap.objs.size + 1], _, _, H, rfl, I2, turn_zk (sep2 _ a1 a2 la lb) (Nat.ne_of_lt la) (Nat.ne_of_lt (Nat.lt_succ_of_lt lb)), ⟨hz, hTI, ⟨_, _, hTO⟩, objK_it t1 g1, objK_it t2 g2⟩, fun c hcm => ?_, q⟩
    have e' : c = s.heap.objs.size + 4 ∨ c = s.heap.objs.size + 2 ∨ c = s.heap.objs.size + 3 ∨ c = s.heap.objs.size ∨ c = s.heap.objs.size + 1 := by simpa using hcm
    have hle : s.heap.objs.size ≤ c := by
      rcases e' with z | z | z | z | z <;> rw [z] <;> first | exact Nat.le_refl _ | exact Nat.le_add_right _ _
    exact I.fpOk hle (I.hok.fresh hle)
  rcases hkw with ⟨rfl, rfl⟩ | rfl
  · exact zip_begins2 (beginsK t1 a1 its.toArray) (beginsK t2 a2 its2.toArray) p1 p2 fin
  · exact zs_call b (beginsK t1 a1 its.toArray) (beginsK t2 a2 its2.toArray) p1 p2 fin
def iZk (K : PySem.W.Frag) (b : Bool) (ta : TA) : TI := fun σ H R => ta σ H fun vs H1 => ∃ t1 t2 a1 a2 xs ys, vs = [.ref a1, .ref a2] ∧ SqK t1 K H1 a1 xs ∧ SqK t2 K H1 a2 ys ∧ R (Izk K t1 t2 b a1 a2) H1
theorem pi_zk {ta : TA} {e2 : Expr} (hg : Gl X "zip") (hm : X.mg "zip" = none) (ha : PA X [e, e2] ta)
    (hs : starEach [e, e2] X.env = (false, eval e X.env) :: starEach [e2] X.env := by rfl) (hpl : (backTo pos (starEach [e2] X.env)).any (·.1) = false := by rfl) :
    PI X (.Tuple elts kk tpos) (.Call (.Name "zip" p) [e, e2] [] pos) (iZk X.K false ta) := by
  refine ⟨fun pins s σ H R I h => ?_⟩
  refine PyProof.Rows.Call_ (ld_blt I hg hm PyProof.Rows.boot_zip (PyProof.Rows.callWith_type1 (thn (ha.run pos pins s σ H _ I h) fun us s1 ⟨vs, H1, I1, r1, t1, t2, a1, a2, xs, ys, ex, qx, qy, q⟩ => ?_) hs hpl))
  subst ex
  obtain ⟨u1, u2, rfl, e1, e2⟩ := vals2 r1
  obtain rfl : u1 = Value.ref a1 := e1
  obtain rfl : u2 = Value.ref a2 := e2
  exact zip_run I1 qx qy (.inl ⟨rfl, rfl⟩) q
theorem zip_imp (b : Bool) (σ : L2.St) (H : Hp) (R : It → Hp → Prop) (h : TIs X.K W (zipSrc b fl) σ H R) : iZk X.K b (TDs X.K W fl) σ H R :=
  (T.bindL h).imp fun ws H1 ⟨ds, G, m, μ, sl, wf, rs, _, rl, o⟩ => by
    split at o
    · rename_i x y
      obtain ⟨v, w, rfl, r, r'⟩ := repL2 rl
      split at o
      · rename_i xs ys e1 e2
        split at o
        · rename_i hb
          obtain ⟨a1, rfl⟩ := seqOf_ref wf e1 r
          obtain ⟨a2, rfl⟩ := seqOf_ref wf e2 r'
          obtain ⟨us, q1, _⟩ := seqOf_kd wf e1 r
          obtain ⟨ws, q2, _⟩ := seqOf_kd wf e2 r'
          exact ⟨_, _, a1, a2, us, ws, rfl, q1, q2, okA.get o wf ((srcok_zip hb r r').mk fun h μ => by simp only [Bool.and_eq_true] at h; exact ⟨fixD.ck h.1 e1 μ, fixD.ck h.2 e2 μ⟩)⟩
        · exact o.elim
      · exact o.elim
    · exact o.elim
theorem pid_zip {e2 : Expr} (hg : Gl X "zip") (hm : X.mg "zip" = none) (ha : PA X [e, e2] (TDs X.K W fl))
    (hs : starEach [e, e2] X.env = (false, eval e X.env) :: starEach [e2] X.env := by rfl) (hpl : (backTo pos (starEach [e2] X.env)).any (·.1) = false := by rfl) :
    PI X (.Tuple elts kk tpos) (.Call (.Name "zip" p) [e, e2] [] pos) (TIs X.K W (zipSrc false fl)) := PI_imp (pi_zk hg hm ha hs hpl) (zip_imp false)
/-- .. with strict=True -/
theorem callWith_tyKw {M : Model} {A : Around} {E : Value → Shared → Prop} {s : Shared} {env : Env} {T : String} {rest : List Expr} {kws : List Keyword} {Q : Value → Shared → Prop}
    (h : wpAny M A (spliced (backTo pos (starEach (e :: rest) env))) (fun vs s1 => wpAny M A (evalAll ((backToKw pos (keywordEach kws env)).map (·.2)))
      (fun kvs s2 => wpAny M A (call (.type T) vs (((backToKw pos (keywordEach kws env)).filterMap (·.1)).zip kvs)) Q E s2) E s1) E s)
    (he : backTo pos (starEach (e :: rest) env) = (false, eval e env) :: backTo pos (starEach rest env) := by rfl) (hplain : (backTo pos (starEach (e :: rest) env)).any (·.1) = false := by rfl)
    (hall : (backToKw pos (keywordEach kws env)).all (·.1.isSome) = true := by rfl) (hkw : (backToKw pos (keywordEach kws env)).any (·.1.isNone) = false := by rfl) :
    wpAny M A (callWith pos (.type T) [] (backTo pos (starEach (e :: rest) env)) (backToKw pos (keywordEach kws env))) Q E s := by
  unfold callWith
  have h1 : wpAny M A (evalArgs (.type T) true (backTo pos (starEach (e :: rest) env)) (backToKw pos (keywordEach kws env))) (fun a s1 => wpAny M A (call (.type T) a.pos a.kw) Q E s1) E s := by
    rw [he] at h ⊢
    exact PyProof.Rows.evalArgs_kwB hall h
  refine wpAny_bind (wpAny_holding (wpAny_mono h1 (fun a s1 h2 => ?_) fun _ _ x => x))
  apply wpAny_bind
  refine wpAny_standAt ?_
  simp only [hplain, hkw, Bool.or_false]
  apply wpAny_bind
  refine wpAny_pure ?_
  exact wpAny_bind (wpAny_mono h2 (fun r s2 hr => wpAny_bind (wpAny_holding (wpAny_point (wpAny_pure hr)))) fun _ _ x => x)
theorem pid_zipS {e2 : Expr} {j} {p3 kp : Pos} (hg : Gl X "zip") (hm : X.mg "zip" = none) (ha : PA X [e, e2] (TDs X.K W fl))
    (he : backTo pos (starEach [e, e2] X.env) = (false, eval e X.env) :: backTo pos (starEach [e2] X.env) := by rfl) (hpl : (backTo pos (starEach [e, e2] X.env)).any (·.1) = false := by rfl) :
    PI X (.Tuple elts kk tpos) (.Call (.Name "zip" p) [e, e2] [⟨some (Str.ofString "strict"), .Constant (.bool true) j p3, kp⟩] pos) (TIs X.K W (zipSrc true fl)) := by
  refine ⟨fun pins s σ H R I h0 => ?_⟩
  have h := zip_imp true σ H R h0
  refine wpAny_Call_Name_kw (ld_blt I hg hm PyProof.Rows.boot_zip ?_)
  refine callWith_tyKw (thn (ha.run pos pins s σ H _ I h) fun us s1 ⟨vs, H1, I1, r1, t1, t2, a1, a2, xs, ys, ex, qx, qy, q⟩ => ?_) he hpl
  subst ex
  obtain ⟨u1, u2, rfl, e1, e2⟩ := vals2 r1
  obtain rfl : u1 = Value.ref a1 := e1
  obtain rfl : u2 = Value.ref a2 := e2
  refine PyProof.Rows.kws_cons ?_
  refine thn ((pe_bl (X := X) (b := true) (j := j) (pos := p3)).run pins s1 σ H1 (fun v H2 => v = .bl true ∧ H2 = H1) I1 ⟨rfl, rfl⟩) fun v s2 ⟨v', H2, I2, rv, ev, eH⟩ => ?_
  subst ev eH
  obtain rfl : v = Value.bool true := rv
  exact PyProof.Rows.kws_nil (zip_run I2 qx qy (.inr rfl) q)
/-- enumerate -/
theorem pid_en (hg : Gl X "enumerate") (hm : X.mg "enumerate" = none) (ha : PA X [e] (TDs X.K W (oneL fe))) (hs : starEach [e] X.env = [(false, eval e X.env)] := by rfl) :
    PI X (.Tuple elts kk tpos) (.Call (.Name "enumerate" p) [e] [] pos) (TIs X.K W (enSrc fe)) := by
  refine ⟨fun pins s σ H R I h => ?_⟩
  refine PyProof.Rows.Call_ (ld_blt I hg hm PyProof.Rows.boot_enumerate (PyProof.Rows.callWith_type1 (thn (ha.run pos pins s σ H (fun ws H1 => ∃ t a xs, ws = [.ref a] ∧ SqK t X.K H1 a xs ∧ R (Iek X.K t a) H1) I ?_) fun us s1 ⟨vs, H1, I1, r1, t, a, xs, ex, qx, q⟩ => ?_) hs rfl))
  · obtain ⟨G, m, μ, sl, wf, rs, rl, o⟩ := h
    have o : okA (fun G m s J => SrcOk X.K G m s J) X.K W σ H G m μ (bindR (fe sl μ) _) R := o
    have o2 : okA (fun G m s J => SrcOk X.K G m s J) X.K W σ H G m μ (bindR (oneL fe sl μ) fun ds μ1 => match ds with
      | [d] => (match seqOf μ1 d with
        | some ds => ok (mkSrc (fixD d) (enumF 0 ds) (ckS d ds)) μ1
        | none => none)
      | _ => none) R := by
      unfold oneL
      revert o
      cases fe sl μ with
      | none => exact fun z => z
      | some q =>
        cases q with
        | exc x μ1 => exact fun z => z
        | ok d μ1 => exact fun z => z
    refine ⟨G, m, μ, sl, wf, rs, rl, (okA.bind (rep := repL X.K) o2).imp fun ws H1 ⟨ds, G1, m1, μ1, wf1, st1, l1, o3⟩ => ?_⟩
    split at o3
    · rename_i d
      obtain ⟨v, rfl, r⟩ := repL1 l1
      split at o3
      · rename_i ds e2
        obtain ⟨a, rfl⟩ := seqOf_ref wf1 e2 r
        obtain ⟨us, q1, _⟩ := seqOf_kd wf1 e2 r
        exact ⟨_, a, us, rfl, q1, okA.get o3 wf1 ((srcok_en r).mk fun h => fixD.ck h e2)⟩
      · exact o3.elim
    · exact o3.elim
  · subst ex
    obtain ⟨u1, rfl, e1⟩ := vals1 r1
    obtain rfl : u1 = Value.ref a := e1
    obtain ⟨its, rv, p1, la, _⟩ := inv_sq I1 qx
    refine en_call (beginsK t a its.toArray) p1 fun h' he g1 hk => wpAny_pyIter_enum (s := { s1 with heap := h' }) he ?_
    have I2 : Inv X pins σ H1 { s1 with heap := h' } := I1.kept (t' := s1.toks) hk
    refine ⟨s1.heap.objs.size + 1, [s1.heap.objs.size + 1, s1.heap.objs.size], _, _, H1, rfl, I2, turn_ek (Nat.succ_ne_self _) (Nat.ne_of_gt (Nat.lt_succ_of_lt la)) (Nat.ne_of_lt la), ⟨⟨.none, he⟩, objK_it t g1⟩, fun c hcm => ?_, q⟩
    have e' : c = s1.heap.objs.size + 1 ∨ c = s1.heap.objs.size := by simpa using hcm
    have hle : s1.heap.objs.size ≤ c := by
      rcases e' with z | z <;> rw [z] <;> first | exact Nat.le_refl _ | exact Nat.le_add_right _ _
    exact I1.fpOk hle (I1.hok.fresh hle)
end
end Pd
end
section
namespace Pd
open PySem PySem.Spec L2
/-! ### list comprehensions -/
noncomputable def Src.g : Src → Mu → Bool
  | .st _, _ => true
  | .ck _ c, μ => @decide (c μ) (Classical.propDecidable _)
theorem Src.g_chk {s : Src} {μ : Mu} (h : s.g μ = true) : s.chk μ := by
  cases s with
  | st ds => trivial
  | ck ds c => exact @of_decide_eq_true _ (Classical.propDecidable _) h
theorem Src.g_of {ds : List D} {c : Mu → Prop} {μ : Mu} (h : c μ) : (Src.ck ds c).g μ = true := @decide_eq_true _ (Classical.propDecidable _) h
/-- no exception may leave -/
abbrev nW : WX := fun _ _ _ _ => False
def lcL (g : Mu → Bool) (t : Tg) (c : Sl → Mu → R Bool) (e : DE) (sl : Sl) : List D → List D → Mu → R D
  | [], acc, μ => if g μ = true then ok (.lst acc) μ else none
  | d :: ds, acc, μ => if g μ = true then
      (match bindT μ t d sl with
      | some sl1 => (match c sl1 μ with
        | some (.ok true μ1) => (match e sl1 μ1 with
          | some (.ok y μ2) => if acc.length < sizeLine then lcL g t c e sl ds (acc ++ [y]) μ2 else none
          | _ => none)
        | some (.ok false μ1) => lcL g t c e sl ds acc μ1
        | _ => none)
      | none => none)
    else none
def wipeD (sl : Sl) : List Nat → Sl
  | [] => sl
  | v :: vs => (wipeD sl vs).set v none
noncomputable def lcD (own : List Nat) (src : Sl → Mu → R Src) (t : Tg) (c : Sl → Mu → R Bool) (e : DE) : DE := fun sl μ => bindR (src sl μ) fun s μ1 => lcL s.g t c e (wipeD sl own) s.ds [] μ1
def yesB : Sl → Mu → R Bool := fun _ μ => ok true μ
theorem RepS.wipe {K : PySem.W.Frag} {G : Hp} {m : List Addr} {sl : Sl} {σ : L2.St} (h : RepS K G m sl σ) : ∀ vs : List Nat, RepS K G m (wipeD sl vs) (L2.wipe σ vs)
  | [] => h
  | v :: vs => by
    have ih := h.wipe vs
    refine ⟨by simp only [wipeD, L2.wipe, List.length_set]; exact ih.len, fun j d e => ?_⟩
    have e : ((wipeD sl vs).set v none)[j]? = some (some d) := e
    show ∃ u, ((L2.wipe σ vs).set v none)[j]? = some (some u) ∧ _
    by_cases z : v = j
    · subst z
      have hi : v < (wipeD sl vs).length := by
        have := (List.getElem?_eq_some_iff.mp e).1
        simpa using this
      rw [List.getElem?_set_self hi] at e
      cases e
    · rw [List.getElem?_set_ne z] at e ⊢
      exact ih.at_ j d e
/-- a thing taken out of sight -/
def del (H : Hp) (p : Addr) : Hp := fun a => if a = p then none else H a
theorem del_ne {H : Hp} {p a : Addr} (h : a ≠ p) : del H p a = H a := if_neg h
theorem del_same {H : Hp} {p : Addr} : del H p p = none := if_pos rfl
theorem upd_del {H : Hp} {p : Addr} {o : HO} (h : H p = some o) : upd (del H p) p o = H := by
  funext a
  by_cases e : a = p
  · subst e; rw [upd_same, h]
  · rw [upd_ne e, del_ne e]
section
variable {K : PySem.W.Frag} {H G H' G' H0 G0 : Hp} {m m' m0 : List Addr} {μ μ' μ0 : Mu} {p : Addr} {o : HO}
theorem Wf.del (wf : Wf K H G m μ) (g : G p = none) (nl : ¬ Live m μ p) : Wf K (del H p) G m μ := by
  refine ⟨fun a x e => ?_, wf.len, fun l c a h1 h2 => ?_, wf.inj⟩
  · rw [del_ne (fun z => by rw [z, g] at e; cases e)]
    exact wf.sub _ _ e
  · obtain ⟨q1, q2⟩ := wf.cell l c a h1 h2
    have ne : a ≠ p := fun z => nl ⟨l, c, h1, z ▸ h2⟩
    refine ⟨q1, ?_⟩
    have := q2.mono (r := []) (H' := Pd.del H p) (Le.refl G) (fun _ e => by rw [del_ne ne]; exact e)
    simpa using this
/-- the hidden thing at p through a step -/
structure Hid (K : PySem.W.Frag) (H G : Hp) (m : List Addr) (μ : Mu) (p : Addr) (o : HO) : Prop where
  g : G p = none
  nl : ¬ Live m μ p
  h : H p = some o
theorem Hid.step (x : Hid K H G m μ p o) (st : Step H G m μ H' G' m' μ') : Hid K H' G' m' μ' p o := by
  have hp := st.frame p o x.h x.nl
  refine ⟨?_, fun l => ?_, hp⟩
  · cases e : G' p with
    | none => rfl
    | some u =>
      rcases st.gnew p (by rw [e]; exact fun z => nomatch z) with q | q | q
      · exact absurd x.g q
      · rw [x.h] at q; cases q
      · exact absurd q x.nl
  · rcases st.lnew p l with q | q
    · exact x.nl q
    · rw [x.h] at q; cases q
/-- from before p was there to its being out of sight -/
theorem Step.del (h0 : H0 p = none) (st : Step H0 G0 m0 μ0 H G m μ) : Step H0 G0 m0 μ0 (Pd.del H p) G m μ := by
  refine ⟨st.gsub, fun a x e n => ?_, st.gnew, st.lnew, st.mext, fun a z => ?_⟩
  rotate_left
  · by_cases q : a = p
    · rw [q]; exact h0
    · rw [del_ne q] at z; exact st.kp a z
  have ne : a ≠ p := fun z => by rw [z, h0] at e; cases e
  rw [del_ne ne]; exact st.frame a x e n
theorem Wf.hset (wf : Wf K H G m μ) (x : Hid K H G m μ p o) (o' : HO) : Wf K (upd H p o') G m μ := by
  refine ⟨fun a y e => ?_, wf.len, fun l c a h1 h2 => ?_, wf.inj⟩
  · have ne : a ≠ p := fun z => by rw [z, x.g] at e; cases e
    rw [upd_ne ne]; exact wf.sub _ _ e
  · obtain ⟨q1, q2⟩ := wf.cell l c a h1 h2
    have ne : a ≠ p := fun z => x.nl ⟨l, c, h1, z ▸ h2⟩
    refine ⟨q1, ?_⟩
    have := q2.mono (r := []) (H' := upd H p o') (Le.refl G) (fun _ e => by rw [upd_ne ne]; exact e)
    simpa using this
theorem Step.hset (h0 : H0 p = none) (st : Step H0 G0 m0 μ0 H G m μ) (o' : HO) : Step H0 G0 m0 μ0 (upd H p o') G m μ := by
  refine ⟨st.gsub, fun a x e n => ?_, st.gnew, st.lnew, st.mext, fun a z => st.kp a (upd_none a z)⟩
  have ne : a ≠ p := fun z => by rw [z, h0] at e; cases e
  rw [upd_ne ne]; exact st.frame a x e n
end
theorem set_none_of_wipe {σ : L2.St} {vs : List Nat} {i : Nat} (h : i ∈ vs) (v : Option V) : L2.wipe (σ.set i v) vs = L2.wipe σ vs := wipe_set h
theorem wipe_idem {σ : L2.St} : ∀ {vs : List Nat} {i : Nat}, i ∈ vs → (L2.wipe σ vs).set i none = L2.wipe σ vs
  | [], _, h => by simp at h
  | v :: vs, i, h => by
    by_cases e : i = v
    · subst e
      show ((L2.wipe σ vs).set i none).set i none = _
      rw [List.set_set]; rfl
    · have h : i ∈ vs := by
        rcases List.mem_cons.mp h with h | h
        · exact absurd h e
        · exact h
      show ((L2.wipe σ vs).set v none).set i none = (L2.wipe σ vs).set v none
      rw [List.set_comm _ _ (fun q => e q.symm), wipe_idem h]
theorem wipe_wipe {σ : L2.St} {vs : List Nat} : ∀ {us : List Nat}, (∀ i ∈ us, i ∈ vs) → L2.wipe (L2.wipe σ vs) us = L2.wipe σ vs
  | [], _ => rfl
  | u :: us, h => by
    show (L2.wipe (L2.wipe σ vs) us).set u none = _
    rw [wipe_wipe (fun i hi => h i (List.mem_cons_of_mem _ hi)), wipe_idem (h u (List.mem_cons_self ..))]
section
variable {X : Cx} {W : WX} {elt tg iter : Expr} {ifs : List Expr} {scope : Scope} {own : List (Str × Nat)} {pos : Pos} {src : Sl → Mu → R Src} {t : Tg} {c : Sl → Mu → R Bool} {e : DE}
/-- the turns of a comprehension -/
theorem lc_turns {K : PySem.W.Frag} {Q : VK} {vs : List Nat} {σ : L2.St} {sl : Sl} {s : Src} {J : It} {H1 G1 : Hp} {m1 : List Addr} {μ1 : Mu} {p : Addr} (hv : ∀ i ∈ namesT t, i ∈ vs)
    (wf1 : Wf K H1 G1 m1 μ1) (rs1 : RepS K G1 m1 sl σ) (sr : SrcOk K G1 m1 s J) (hp : H1 p = none) (o : okF K W σ H1 G1 m1 μ1 (lcL s.g t c e (wipeD sl vs) s.ds [] μ1) Q) :
    ∃ Wn : Nat → Nat → Hp → Prop, (∃ n, Wn 0 n (upd H1 p (.lst []))) ∧ ∀ i n H, Wn i n H →
      (J.stop i H ∧ Q (.ref p) H) ∨ (J.go i H ∧ ∃ Nx : Hp → Prop, (∀ H', Nx H' → ∃ n', n' < n ∧ Wn (i + 1) n' H') ∧ ∀ x H', J.yld i H x H' → TG' K t x (L2.wipe σ vs) H' fun σ2 H2 => L2.wipe σ2 vs = L2.wipe σ vs ∧ TB K nW c σ2 H2 fun b H3 =>
        if b = true then TD K nW e σ2 H3 fun y H4 => ∃ acc, H4 p = some (.lst acc) ∧ acc.length < sizeLine ∧ Nx (upd H4 p (.lst (acc ++ [y]))) else Nx H3) := by
  let Inv := fun (i n : Nat) (H : Hp) => ∃ G m μ acc vacc, n = s.ds.length - i ∧ i ≤ s.ds.length ∧ Wf K H G m μ ∧ Step H1 G1 m1 μ1 H G m μ ∧ Hid K H G m μ p (.lst vacc) ∧ RepL K G m acc vacc ∧ okF K W σ H1 G1 m1 μ1 (lcL s.g t c e (wipeD sl vs) (s.ds.drop i) acc μ) Q
  refine ⟨Inv, ⟨s.ds.length, G1, m1, μ1, [], [], by simp, Nat.zero_le _, wf1.hid hp, Step.hid hp, ⟨wf1.gnone hp, wf1.dead hp, upd_same⟩, rfl, by simpa using o⟩, ?_⟩
  rintro i n H ⟨G, m, μ, acc, vacc, rfl, hi, wf, st, hd, la, o⟩
  have chk : s.g μ = true := by
    cases hg : s.g μ with
    | true => rfl
    | false =>
      exfalso
      revert o
      cases s.ds.drop i with
      | nil => unfold lcL; rw [hg]; exact fun z => z
      | cons d ds => unfold lcL; rw [hg]; exact fun z => z
  obtain ⟨s1, s2⟩ := sr H G m μ wf st.gsub st.mext (Src.g_chk chk)
  by_cases hlt : i < s.ds.length
  · have hx : s.ds[i]? = some s.ds[i] := List.getElem?_eq_getElem hlt
    obtain ⟨go, yl⟩ := s1 i _ hx
    have ed : s.ds.drop i = s.ds[i] :: s.ds.drop (i + 1) := List.drop_eq_getElem_cons hlt
    rw [ed] at o
    unfold lcL at o
    rw [if_pos chk] at o
    refine .inr ⟨go, fun H' => ∃ n', Inv (i + 1) n' H' ∧ n' < s.ds.length - i, fun H' ⟨n', q, l⟩ => ⟨n', l, q⟩, fun x H' y => ?_⟩
    obtain ⟨G2, wf2, st2, r2⟩ := yl x H' y
    have hd2 := hd.step st2
    have st12 := st.trans st2
    refine ⟨G2, m, μ, wipeD sl vs, s.ds[i], wf2, (st12.repS rs1).wipe vs, r2, ?_⟩
    cases eb : bindT μ t s.ds[i] (wipeD sl vs) with
    | none => rw [eb] at o; exact o.elim
    | some sl1 =>
      rw [eb] at o
      intro σ2 rs2 hw
      dsimp only at o
      refine ⟨by rw [hw vs hv, wipe_wipe fun i h => h], G2, m, μ, sl1, wf2, rs2, rfl, ?_⟩
      have fin : ∀ {Gx : Hp} {mx : List Addr} {μx : Mu} {Hx : Hp} {acc' : List D} {vacc' : List V}, Wf K Hx Gx mx μx → Step H1 G1 m1 μ1 Hx Gx mx μx → Hid K Hx Gx mx μx p (.lst vacc') → RepL K Gx mx acc' vacc' → okF K W σ H1 G1 m1 μ1 (lcL s.g t c e (wipeD sl vs) (s.ds.drop (i + 1)) acc' μx) Q → ∃ n', Inv (i + 1) n' Hx ∧ n' < s.ds.length - i :=
        fun {Gx mx μx Hx acc' vacc'} a b c d e => ⟨_, ⟨Gx, mx, μx, acc', vacc', rfl, hlt, a, b, c, d, e⟩, by omega⟩
      revert o
      cases c sl1 μ with
      | none => exact fun z => z
      | some ob =>
        cases ob with
        | exc x μ2 => exact fun z => z.elim
        | ok b μ2 =>
          cases b with
          | false =>
            intro o b' H3 G3 m3 wf3 st3 eb'
            have eb' : false = b' := eb'
            subst eb'
            exact iteF (fin wf3 (st12.trans st3) (hd2.step st3) ((st2.trans st3).repL la) o)
          | true =>
            intro o b' H3 G3 m3 wf3 st3 eb'
            have eb' : true = b' := eb'
            subst eb'
            refine iteT ⟨G3, m3, μ2, sl1, wf3, st3.repS rs2, rfl, ?_⟩
            dsimp only at o
            revert o
            cases e sl1 μ2 with
            | none => exact fun z => z
            | some oe =>
              cases oe with
              | exc x μ3 => exact fun z => z.elim
              | ok y μ3 =>
                intro o v H4 G4 m4 wf4 st4 ry
                dsimp only at o
                have hd4 := (hd2.step st3).step st4
                have la4 := ((st2.trans st3).trans st4).repL la
                split at o
                · rename_i hz
                  refine ⟨vacc, hd4.h, by rw [la4.length]; exact hz, ?_⟩
                  have wf5 := wf4.hset hd4 (.lst (vacc ++ [v]))
                  have st5 := ((st12.trans st3).trans st4).hset hp (.lst (vacc ++ [v]))
                  exact fin wf5 st5 ⟨hd4.g, hd4.nl, upd_same⟩ (la4.app (es := [y]) ⟨v, [], rfl, ry, rfl⟩) o
                · exact o.elim
  · have e' : i = s.ds.length := by omega
    subst e'
    have ed : s.ds.drop s.ds.length = [] := List.drop_length
    rw [ed] at o
    unfold lcL at o
    rw [if_pos chk] at o
    refine .inl ⟨s2, ?_⟩
    have := o p vacc (del H p) G m (wf.del hd.g hd.nl) (st.del hp) del_same la
    rw [upd_del hd.h] at this
    exact this
theorem lc_imp (hv : ∀ i ∈ namesT t, i ∈ own.map (·.2)) (σ : L2.St) (H : Hp) (Q : VK) (h : TF X.K W (lcD (own.map (·.2)) src t c e) σ H Q) : tLc (TIs X.K W src) (TG' X.K t) (TB X.K nW c) (TD X.K nW e) (own.map (·.2)) σ H Q := by
  obtain ⟨G, m, μ, sl, wf, rs, o⟩ := h
  refine ⟨G, m, μ, sl, wf, rs, rfl, (okF.bind (rep := fun G m s J => SrcOk X.K G m s J) o).imp fun J H1 ⟨s, G1, m1, μ1, wf1, st1, sr, o1⟩ => fun p hp => ?_⟩
  exact lc_turns hv wf1 (st1.repS rs) sr hp o1
theorem pef_lc (hc : X.calm = true) (hN : X.N.Nodup) (hi : PI X tg iter (TIs X.K W src)) (okb : BlkOk X.N X.env.scope scope own) (hv : ∀ i ∈ namesT t, i ∈ own.map (·.2))
    (hg : ∀ (s : Shared) (H : Hp) (C : Addr) (cl : List (Str × Addr)) (fp : List Addr), PG (X.blk s H scope (compEnvC scope cl C X.env) fp) tg (TG' X.K t)) (ht : ∀ (s : Shared) (H : Hp) (C : Addr) (cl : List (Str × Addr)) (fp : List Addr), PTs (X.blk s H scope (compEnvC scope cl C X.env) fp) ifs (TB X.K nW c))
    (he : ∀ (s : Shared) (H : Hp) (C : Addr) (cl : List (Str × Addr)) (fp : List Addr), PE (X.blk s H scope (compEnvC scope cl C X.env) fp) elt (TD X.K nW e)) (hs : ∀ x, foldedSetIterable iter X.env x = pure x := by intro _; rfl) :
    PE X (.ListComp elt [⟨tg, iter, ifs, 0⟩] scope pos) (TF X.K W (lcD (own.map (·.2)) src t c e)) := PE_imp (pe_lc hc hN hi okb hg ht he hs) (lc_imp hv)
theorem ptsd_nil : PTs X [] (TB X.K W yesB) := ⟨fun pins s σ H Q I ⟨G, m, μ, sl, wf, rs, rl, o⟩ => pts_nil.run pins s σ H Q I (okA.get (a := true) o wf rfl)⟩
theorem ptsd_one {x : Expr} (h : PT X x (TB X.K W c)) : PTs X [x] (TB X.K W c) := pts_one h
end
end Pd
end
section
namespace Pd
open PySem PySem.Spec L2
/-! ### statements -/
def okS (K : PySem.W.Frag) (W : WX) (D : Ends) (H G : Hp) (m : List Addr) (μ : Mu) (r : Option OutS) : Prop := match r with
  | some (.nx sl μ') => ∀ σ H' G' m', Wf K H' G' m' μ' → Step H G m μ H' G' m' μ' → RepS K G' m' sl σ → D.nx σ H'
  | some (.bk sl μ') => ∀ σ H' G' m', Wf K H' G' m' μ' → Step H G m μ H' G' m' μ' → RepS K G' m' sl σ → D.bk σ H'
  | some (.ct sl μ') => ∀ σ H' G' m', Wf K H' G' m' μ' → Step H G m μ H' G' m' μ' → RepS K G' m' sl σ → D.ct σ H'
  | some (.rt d μ') => ∀ v H' G' m', Wf K H' G' m' μ' → Step H G m μ H' G' m' μ' → RepV K G' m' d v → D.rt v H'
  | some (.exc x sl μ') => ∀ c dd σ H' G' m', Wf K H' G' m' μ' → Step H G m μ H' G' m' μ' → RepS K G' m' sl σ → ExcRep K H' G' m' x c dd → W c dd σ H'
  | none => False
def TDS (K : PySem.W.Frag) (W : WX) (f : DS) : TS := fun D σ H => ∃ G m μ sl, Wf K H G m μ ∧ RepS K G m sl σ ∧ okS K W D H G m μ (f sl μ)
/-- an expression first -/
def lifA {α : Type} (f : Sl → Mu → R α) (k : Sl → α → Mu → Option OutS) : DS := fun sl μ => match f sl μ with
  | some (.ok a μ1) => k sl a μ1
  | some (.exc x μ1) => some (.exc x sl μ1)
  | none => none
section
variable {K : PySem.W.Frag} {W : WX} {D D' : Ends} {σ : L2.St} {H G H1 G1 : Hp} {m m1 : List Addr} {μ μ1 : Mu} {α β : Type}
theorem okS.step {r : Option OutS} (h : okS K W D H G m μ r) (st : Step H G m μ H1 G1 m1 μ1) : okS K W D H1 G1 m1 μ1 r := by
  cases r with
  | none => exact h
  | some o =>
    cases o with
    | nx sl μ' => exact fun σ H' G' m' a b c => h σ H' G' m' a (st.trans b) c
    | bk sl μ' => exact fun σ H' G' m' a b c => h σ H' G' m' a (st.trans b) c
    | ct sl μ' => exact fun σ H' G' m' a b c => h σ H' G' m' a (st.trans b) c
    | rt d μ' => exact fun v H' G' m' a b c => h v H' G' m' a (st.trans b) c
    | exc x sl μ' => exact fun c dd σ H' G' m' a b e f => h c dd σ H' G' m' a (st.trans b) e f
theorem okS.lif {rep : Hp → List Addr → α → β → Prop} {f : Sl → Mu → R α} {k : Sl → α → Mu → Option OutS} {sl : Sl} (h : okS K W D H G m μ (lifA f k sl μ)) (rs : RepS K G m sl σ) :
    okA rep K W σ H G m μ (f sl μ) (fun b H1 => ∃ a G1 m1 μ1, Wf K H1 G1 m1 μ1 ∧ Step H G m μ H1 G1 m1 μ1 ∧ RepS K G1 m1 sl σ ∧ rep G1 m1 a b ∧ okS K W D H1 G1 m1 μ1 (k sl a μ1)) := by
  unfold lifA at h
  revert h
  cases f sl μ with
  | none => exact fun z => z
  | some o =>
    cases o with
    | exc x μ1 => exact fun z c dd H' G' m' wf st er => z c dd σ H' G' m' wf st (st.repS rs) er
    | ok a μ1 => exact fun z b H1 G1 m1 wf st r => ⟨a, G1, m1, μ1, wf, st, st.repS rs, r, okS.step z st⟩
theorem TDS.lif {rep : Hp → List Addr → α → β → Prop} {f : Sl → Mu → R α} {k : Sl → α → Mu → Option OutS} (h : TDS K W (lifA f k) D σ H) :
    T rep K W [] [] f σ H (fun b H1 => ∃ a G m μ sl, Wf K H1 G m μ ∧ RepS K G m sl σ ∧ rep G m a b ∧ okS K W D H1 G m μ (k sl a μ)) := by
  obtain ⟨G, m, μ, sl, wf, rs, o⟩ := h
  exact ⟨G, m, μ, sl, wf, rs, rfl, (okS.lif (rep := rep) o rs).imp fun b H1 ⟨a, G1, m1, μ1, wf1, st, rs1, r, o1⟩ => ⟨a, G1, m1, μ1, sl, wf1, rs1, r, o1⟩⟩
theorem okS.nx {sl : Sl} (h : okS K W D H G m μ (some (.nx sl μ))) (wf : Wf K H G m μ) (rs : RepS K G m sl σ) : D.nx σ H := h σ H G m wf Step.refl rs
/-- later statements -/
def seqS (f g : DS) : DS := fun sl μ => match f sl μ with
  | some (.nx sl1 μ1) => g sl1 μ1
  | o => o
def nxS : DS := fun sl μ => some (.nx sl μ)
theorem TDS.seq {f g : DS} (h : TDS K W (seqS f g) D σ H) : tSeq (TDS K W f) (TDS K W g) D σ H := by
  obtain ⟨G, m, μ, sl, wf, rs, o⟩ := h
  refine ⟨G, m, μ, sl, wf, rs, ?_⟩
  unfold seqS at o
  revert o
  cases f sl μ with
  | none => exact fun z => z
  | some q =>
    cases q with
    | nx sl1 μ1 => exact fun o σ1 H1 G1 m1 wf1 st1 rs1 => ⟨G1, m1, μ1, sl1, wf1, rs1, okS.step o st1⟩
    | bk sl1 μ1 => exact fun o => o
    | ct sl1 μ1 => exact fun o => o
    | rt d μ1 => exact fun o => o
    | exc x sl1 μ1 => exact fun o => o
theorem TDS.nxt (h : TDS K W nxS D σ H) : D.nx σ H := by
  obtain ⟨G, m, μ, sl, wf, rs, o⟩ := h
  exact okS.nx o wf rs
end
section
variable {X : Cx} {W : WX} {st : Stmt} {rest a b : List Stmt} {f g : DS} {e : Expr} {fe : DE} {pos : Pos} {bt : Sl → Mu → R Bool} {tg : Expr} {t : Tg}
theorem pssd_nil : PSs X [] (TDS X.K W nxS) := PSs_imp pss_nil fun D σ H h => TDS.nxt h
theorem pssd_cons (h1 : PS X st (TDS X.K W f)) (h2 : PSs X rest (TDS X.K W g)) : PSs X (st :: rest) (TDS X.K W (seqS f g)) := PSs_imp (pss_cons h1 h2) fun D σ H h => TDS.seq h
theorem pssd_one (h1 : PS X st (TDS X.K W f)) : PSs X [st] (TDS X.K W f) := pss_one h1
theorem psd_pass : PS X (.Pass pos) (TDS X.K W nxS) := PS_imp ps_pass fun D σ H h => TDS.nxt h
def bkS : DS := fun sl μ => some (.bk sl μ)
def ctS : DS := fun sl μ => some (.ct sl μ)
theorem psd_break : PS X (.Break pos) (TDS X.K W bkS) := PS_imp ps_break fun D σ H ⟨G, m, μ, sl, wf, rs, o⟩ => o σ H G m wf Step.refl rs
theorem psd_cont : PS X (.Continue pos) (TDS X.K W ctS) := PS_imp ps_continue fun D σ H ⟨G, m, μ, sl, wf, rs, o⟩ => o σ H G m wf Step.refl rs
theorem psd_doc {x j pos pos'} : PS X (.Expr (.Constant (.str x) j pos) pos') (TDS X.K W nxS) := PS_imp ps_doc fun D σ H h => TDS.nxt h
def retS (e : DE) : DS := lifA e fun _ d μ => some (.rt d μ)
def retN : DS := fun _ μ => some (.rt .non μ)
theorem psd_ret (he : PE X e (TD X.K W fe)) : PS X (.Return (some e) pos) (TDS X.K W (retS fe)) :=
  PS_imp (ps_ret he) fun D σ H h => (TDS.lif (rep := repV X.K) h).imp fun v H1 ⟨d, G, m, μ, sl, wf, rs, r, o⟩ => o v H1 G m wf Step.refl r
theorem psd_retN : PS X (.Return none pos) (TDS X.K W retN) := PS_imp ps_retN fun D σ H ⟨G, m, μ, sl, wf, rs, o⟩ => o .non H G m wf Step.refl rfl
def expS (e : DE) : DS := lifA e fun sl _ μ => some (.nx sl μ)
theorem psd_expr (he : PE X e (TD X.K W fe)) (hs : swapsWith e none pos.line X.env = pure false := by rfl) : PS X (.Expr e pos) (TDS X.K W (expS fe)) :=
  PS_imp (ps_expr he hs) fun D σ H h => (TDS.lif (rep := repV X.K) h).imp fun v H1 ⟨d, G, m, μ, sl, wf, rs, r, o⟩ => okS.nx o wf rs
def ifS (c : Sl → Mu → R Bool) (f g : DS) : DS := lifA c fun sl b μ => if b = true then f sl μ else g sl μ
theorem psd_if {c : Expr} (hc : PT X c (TB X.K W bt)) (ha : PSs X a (TDS X.K W f)) (hb : PSs X b (TDS X.K W g)) : PS X (.If c a b pos) (TDS X.K W (ifS bt f g)) :=
  PS_imp (ps_if hc ha hb) fun D σ H h => (TDS.lif (rep := repB) h).imp fun k H1 ⟨d, G, m, μ, sl, wf, rs, r, o⟩ => by
    have r : d = k := r
    subst r
    cases d with
    | true => exact iteT ⟨G, m, μ, sl, wf, rs, o⟩
    | false => exact iteF ⟨G, m, μ, sl, wf, rs, o⟩
/-! assignments -/
def asgS (e : DE) (t : Tg) : DS := lifA e fun sl d μ => match bindT μ t d sl with
  | some sl1 => some (.nx sl1 μ)
  | none => none
theorem asg_imp {te : TE} {tt : TG} (hg : ∀ v σ H Q, TG' X.K t v σ H Q → tt v σ H Q) (he : ∀ σ H Q, TD X.K W fe σ H Q → te σ H Q) (D : Ends) (σ : L2.St) (H : Hp) (h : TDS X.K W (asgS fe t) D σ H) : tAsg te tt D σ H := by
  refine he σ H _ ((TDS.lif (rep := repV X.K) h).imp fun v H1 ⟨d, G, m, μ, sl, wf, rs, r, o⟩ => hg _ _ _ _ ⟨G, m, μ, sl, d, wf, rs, r, ?_⟩)
  cases eb : bindT μ t d sl with
  | none => rw [eb] at o; exact o.elim
  | some sl1 =>
    rw [eb] at o
    exact fun σ' rs' _ => okS.nx o wf rs'
theorem psd_asg (he : PE X e (TD X.K W fe)) (hg : PG X tg (TG' X.K t)) (hs : swapsWithSole [tg] e pos.line X.env = pure false := by rfl) (hw : swappedStores [tg] e X.env = pure none := by rfl)
    (h1 : (assignEach [tg] X.env).map (·.2) = [assign tg X.env] := by rfl) : PS X (.Assign [tg] e pos) (TDS X.K W (asgS fe t)) := PS_imp (ps_asg he hg hs hw h1) (asg_imp (fun _ _ _ _ h => h) fun _ _ _ h => h)
theorem gName_imp {K : PySem.W.Frag} {i : Nat} (v : V) (σ : L2.St) (H : Hp) (Q : L2.St → Hp → Prop) (h : TG' K (.nm i) v σ H Q) : gName i v σ H Q := by
  obtain ⟨G, m, μ, sl, d, wf, rs, r, q⟩ := h
  exact q _ (rs.set r i) fun vs h => wipe_set (h i (by simp [namesT]))
theorem psd_set {i : Nat} {x : Str} {pos' : Pos} (hN : X.N.Nodup) (hi : X.N[i]? = some x) (hx : Loc X.env.scope x) (he : PE X e (TD X.K W fe)) (hf : X.fn x = true ∨ X.env.scope.names.lookup x = some .local) (hs : swapsWith e (some (.Name x pos')) pos.line X.env = pure false := by rfl) :
    PS X (.Assign [.Name x pos'] e pos) (TDS X.K W (asgS fe (.nm i))) := PS_imp (ps_set hN hi hx he hs hf) (asg_imp (fun _ _ _ _ h => gName_imp _ _ _ _ h) fun _ _ _ h => h)
/-- name = [.. for ..], the name a plain local -/
theorem psd_setLc {i : Nat} {y : Str} {py spos : Pos} {elt tgc iter : Expr} {ifs : List Expr} {scope : Scope} {own : List (Str × Nat)} {src : Sl → Mu → R Src} {tc : Tg} {c : Sl → Mu → R Bool} {ee : DE} {md : DE → DE} (hc : X.calm = true) (hN : X.N.Nodup) (hy : X.N[i]? = some y) (hyl : X.env.scope.names.lookup y = some .local)
    (hmd : ∀ f σ H Q, TD X.K W (md f) σ H Q → TF X.K W f σ H Q)
    (hsw : swapsWith (.ListComp elt [⟨tgc, iter, ifs, 0⟩] scope pos) (some (.Name y py)) spos.line X.env = pure true) (hi : PI X tgc iter (TIs X.K W src)) (ok : BlkOk X.N X.env.scope scope own) (hv : ∀ i ∈ namesT tc, i ∈ own.map (·.2))
    (hg : ∀ (s : Shared) (H : Hp) (C : Addr) (cl : List (Str × Addr)) (fp : List Addr), PG (X.blk s H scope (compEnvC scope cl C X.env) fp) tgc (TG' X.K tc)) (ht : ∀ (s : Shared) (H : Hp) (C : Addr) (cl : List (Str × Addr)) (fp : List Addr), PTs (X.blk s H scope (compEnvC scope cl C X.env) fp) ifs (TB X.K nW c))
    (he : ∀ (s : Shared) (H : Hp) (C : Addr) (cl : List (Str × Addr)) (fp : List Addr), PE (X.blk s H scope (compEnvC scope cl C X.env) fp) elt (TD X.K nW ee)) (hs : ∀ x, foldedSetIterable iter X.env x = pure x := by intro _; rfl) :
    PS X (.Assign [.Name y py] (.ListComp elt [⟨tgc, iter, ifs, 0⟩] scope pos) spos) (TDS X.K W (asgS (md (lcD (own.map (·.2)) src tc c ee)) (.nm i))) :=
  PS_imp (ps_setLc hc hN hy hyl hsw hi ok hg ht he hs) (asg_imp (fun _ _ _ _ h => gName_imp _ _ _ _ h) fun σ H Q h => lc_imp hv σ H Q (hmd _ σ H Q h))
/-! a, b = .. with plain locals: stored from the right -/
def parS (is : List Nat) (f : DL) : DS := lifA f fun sl ds μ => match bindTs μ (is.map Tg.nm) ds sl with
  | some sl1 => some (.nx sl1 μ)
  | none => none
theorem psd_par {i j : Nat} {x y : Str} {a b : Expr} {fl : DL} {px py pt : Pos} {kt k2 pt2} (hc : X.calm = true) (hN : X.N.Nodup) (hi : X.N[i]? = some x) (hj : X.N[j]? = some y) (hij : i ≠ j)
    (hx : X.env.scope.names.lookup x = some .local) (hy : X.env.scope.names.lookup y = some .local) (ha : PA X [a, b] (TDs X.K W fl))
    (hw : swappedStores [.Tuple [.Name x px, .Name y py] kt pt] (.Tuple [a, b] k2 pt2) X.env = pure (some [x, y]))
    (hs : swapsWithSole [.Tuple [.Name x px, .Name y py] kt pt] (.Tuple [a, b] k2 pt2) pos.line X.env = pure false := by rfl) :
    PS X (.Assign [.Tuple [.Name x px, .Name y py] kt pt] (.Tuple [a, b] k2 pt2) pos) (TDS X.K W (parS [i, j] fl)) :=
  PS_imp (ps_par hc hN hi hj hij hx hy ha hw hs) fun D σ H h => (TDS.lif (rep := repL X.K) h).imp fun ws H1 ⟨ds, G, m, μ, sl, wf, rs, l, o⟩ => by
    cases ds with
    | nil => exact o.elim
    | cons d ds =>
      cases ds with
      | nil => exact o.elim
      | cons d' ds =>
        cases ds with
        | nil =>
          obtain ⟨v, w, rfl, r1, r2⟩ := repL2 l
          exact ⟨v, w, rfl, okS.nx o wf ((rs.set r1 i).set r2 j)⟩
        | cons _ _ => exact o.elim
theorem psd_par3 {i j l : Nat} {x y z : Str} {a b c : Expr} {fl : DL} {px py pz pt : Pos} {kt k2 pt2} (hc : X.calm = true) (hN : X.N.Nodup) (hi : X.N[i]? = some x) (hj : X.N[j]? = some y) (hl : X.N[l]? = some z) (hij : i ≠ j) (hil : i ≠ l) (hjl : j ≠ l)
    (hx : X.env.scope.names.lookup x = some .local) (hy : X.env.scope.names.lookup y = some .local) (hz : X.env.scope.names.lookup z = some .local) (ha : PA X [a, b, c] (TDs X.K W fl))
    (hw : swappedStores [.Tuple [.Name x px, .Name y py, .Name z pz] kt pt] (.Tuple [a, b, c] k2 pt2) X.env = pure (some [x, y, z]))
    (hs : swapsWithSole [.Tuple [.Name x px, .Name y py, .Name z pz] kt pt] (.Tuple [a, b, c] k2 pt2) pos.line X.env = pure false := by rfl) :
    PS X (.Assign [.Tuple [.Name x px, .Name y py, .Name z pz] kt pt] (.Tuple [a, b, c] k2 pt2) pos) (TDS X.K W (parS [i, j, l] fl)) :=
  PS_imp (ps_par3 hc hN hi hj hl hij hil hjl hx hy hz ha hw hs) fun D σ H h => (TDS.lif (rep := repL X.K) h).imp fun ws H1 ⟨ds, G, m, μ, sl, wf, rs, l, o⟩ => by
    match ds, l, o with
    | [], _, o => exact o.elim
    | [_], _, o => exact o.elim
    | [_, _], _, o => exact o.elim
    | [d1, d2, d3], l, o =>
      obtain ⟨v1, w, rfl, r1, l⟩ := l
      obtain ⟨v2, v3, rfl, r2, r3⟩ := repL2 l
      exact ⟨v1, v2, v3, rfl, okS.nx o wf (((rs.set r1 _).set r2 _).set r3 _)⟩
    | _ :: _ :: _ :: _ :: _, _, o => exact o.elim
/-! name op= e -/
def IpD (X : Cx) (W : WX) (op : Operator) (g : D2) : Prop := ∃ r : TIp, PIp X op r ∧ ∀ dx dy vx vy σ H G m μ Q, Wf X.K H G m μ → RepV X.K G m dx vx → RepV X.K G m dy vy → okA (repV X.K) X.K W σ H G m μ (g dx dy μ) Q → r vx vy H Q
/-- the name's value is read first -/
def augS (i : Nat) (g : D2) (e : DE) : DS := lifA (fun sl μ => bindR (varD i sl μ) fun x μ0 => bindR (e sl μ0) fun y μ1 => g x y μ1) fun sl d μ => some (.nx (sl.set i (some d)) μ)
theorem psd_aug {i : Nat} {x : Str} {op : Operator} {g : D2} {pos' : Pos} (hN : X.N.Nodup) (hi : X.N[i]? = some x) (hx : Loc X.env.scope x) (he : PE X e (TD X.K W fe)) (ho : IpD X W op g) (hf : X.fn x = true ∨ X.env.scope.names.lookup x = some .local) :
    PS X (.AugAssign (.Name x pos') op e pos) (TDS X.K W (augS i g fe)) :=
  let ⟨_, h1, h2⟩ := ho
  PS_imp (ps_aug hN hi hx he h1 hf) fun D σ H h => by
    obtain ⟨G, m, μ, sl, wf, rs, o⟩ := h
    have o1 := okS.lif (rep := repV X.K) (f := fun sl μ => bindR (varD i sl μ) fun x μ0 => bindR (fe sl μ0) fun y μ1 => g x y μ1) o rs
    unfold varD at o1
    cases ei : sl[i]? with
    | none => rw [ei] at o1; exact o1.elim
    | some od =>
      cases od with
      | none => rw [ei] at o1; exact o1.elim
      | some d =>
        rw [ei] at o1
        obtain ⟨v, hv, rv⟩ := rs.at_ i d ei
        refine ⟨v, hv, G, m, μ, sl, wf, rs, rfl, ?_⟩
        have o2 : okA (repV X.K) X.K W σ H G m μ (bindR (fe sl μ) fun y μ1 => g d y μ1) _ := o1
        refine (okA.bind (rep := repV X.K) o2).imp fun y H1 ⟨dy, G1, m1, μ1, wf1, st1, r1, o3⟩ => ?_
        refine h2 d dy v y σ H1 G1 m1 μ1 _ wf1 (st1.repV rv) r1 (o3.imp fun z H2 ⟨dz, G2, m2, μ2, wf2, st2, rs2, rz, o4⟩ => ?_)
        exact okS.nx o4 wf2 (rs2.set rz i)
/-! loops -/
def forL (g : Mu → Bool) (t : Tg) (body : DS) : List D → DS
  | [], sl, μ => if g μ = true then some (.nx sl μ) else none
  | d :: ds, sl, μ => if g μ = true then
      (match bindT μ t d sl with
      | some sl1 => (match body sl1 μ with
        | some (.nx sl2 μ2) => forL g t body ds sl2 μ2
        | some (.ct sl2 μ2) => forL g t body ds sl2 μ2
        | some (.bk sl2 μ2) => some (.nx sl2 μ2)
        | o => o)
      | none => none)
    else none
noncomputable def forS (src : Sl → Mu → R Src) (t : Tg) (body : DS) : DS := lifA src fun sl s μ => forL s.g t body s.ds sl μ
theorem forL_g {K : PySem.W.Frag} {E : Ends} {H G : Hp} {m : List Addr} {μ : Mu} {g : Mu → Bool} {ds : List D} {t : Tg} {body : DS} {sl : Sl} (o : okS K W E H G m μ (forL g t body ds sl μ)) : g μ = true := by
  cases hg : g μ with
  | true => rfl
  | false =>
    exfalso
    revert o
    cases ds with
    | nil => unfold forL; rw [hg]; exact fun z => z
    | cons d ds => unfold forL; rw [hg]; exact fun z => z
theorem psd_for {iter : Expr} {body : List Stmt} {src : Sl → Mu → R Src} (hp : PassesOwn (model X.prog X.w) X.A X.env X.xe) (hc : X.calm = true) (hi : PI X tg iter (TIs X.K W src)) (hg : PG X tg (TG' X.K t)) (hb : PSs X body (TDS X.K W f))
    (hs : ∀ x, foldedSetIterable iter X.env x = pure x := by intro _; rfl) : PS X (.For tg iter body [] pos) (TDS X.K W (forS src t f)) :=
  PS_imp (ps_for hp hc hi hg hb hs) fun D σ H h => (TDS.lif (rep := fun G m s J => SrcOk X.K G m s J) h).imp fun J H1 ⟨s, G1, m1, μ1, sl, wf1, rs1, sr, o⟩ => by
    refine ⟨fun i n σ H => ∃ G m μ sl, n = s.ds.length - i ∧ i ≤ s.ds.length ∧ Wf X.K H G m μ ∧ Step H1 G1 m1 μ1 H G m μ ∧ RepS X.K G m sl σ ∧ okS X.K W D H G m μ (forL s.g t f (s.ds.drop i) sl μ), ⟨s.ds.length, G1, m1, μ1, sl, by simp, Nat.zero_le _, wf1, Step.refl, rs1, by simpa using o⟩, ?_⟩
    rintro i n σ H ⟨G, m, μ, sl, rfl, hi, wf, st, rs, o⟩
    have chk := forL_g o
    obtain ⟨s1, s2⟩ := sr H G m μ wf st.gsub st.mext (Src.g_chk chk)
    by_cases hlt : i < s.ds.length
    · have hx : s.ds[i]? = some s.ds[i] := List.getElem?_eq_getElem hlt
      obtain ⟨go, yl⟩ := s1 i _ hx
      have ed : s.ds.drop i = s.ds[i] :: s.ds.drop (i + 1) := List.drop_eq_getElem_cons hlt
      rw [ed] at o
      unfold forL at o
      rw [if_pos chk] at o
      refine .inr ⟨go, fun σ' H' => ∃ G m μ sl, Wf X.K H' G m μ ∧ Step H1 G1 m1 μ1 H' G m μ ∧ RepS X.K G m sl σ' ∧ okS X.K W D H' G m μ (forL s.g t f (s.ds.drop (i + 1)) sl μ), fun σ' H' ⟨G', m', μ', sl', a, b, c, d⟩ => ⟨_, by omega, G', m', μ', sl', rfl, hlt, a, b, c, d⟩, fun x H' y => ?_⟩
      obtain ⟨G2, wf2, st2, r2⟩ := yl x H' y
      refine ⟨G2, m, μ, sl, s.ds[i], wf2, st2.repS rs, r2, ?_⟩
      cases eb : bindT μ t s.ds[i] sl with
      | none => rw [eb] at o; exact o.elim
      | some sl1 =>
        rw [eb] at o
        intro σ2 rs2 _
        dsimp only at o
        refine ⟨G2, m, μ, sl1, wf2, rs2, ?_⟩
        have o := okS.step o st2
        revert o
        cases f sl1 μ with
        | none => exact fun z => z
        | some q =>
          cases q with
          | nx sl3 μ3 => exact fun o σ3 H3 G3 m3 wf3 st3 rs3 => ⟨G3, m3, μ3, sl3, wf3, (st.trans st2).trans st3, rs3, okS.step o st3⟩
          | ct sl3 μ3 => exact fun o σ3 H3 G3 m3 wf3 st3 rs3 => ⟨G3, m3, μ3, sl3, wf3, (st.trans st2).trans st3, rs3, okS.step o st3⟩
          | bk sl3 μ3 => exact fun o => o
          | rt d μ3 => exact fun o => o
          | exc x sl3 μ3 => exact fun o => o
    · have e' : i = s.ds.length := by omega
      subst e'
      have ed : s.ds.drop s.ds.length = [] := List.drop_length
      rw [ed] at o
      unfold forL at o
      rw [if_pos chk] at o
      exact .inl ⟨s2, okS.nx o wf rs⟩
def whF (c : Sl → Mu → R Bool) (body : DS) : Nat → DS
  | 0, _, _ => none
  | n + 1, sl, μ => match c sl μ with
    | some (.ok true μ1) => (match body sl μ1 with
      | some (.nx sl2 μ2) => whF c body n sl2 μ2
      | some (.ct sl2 μ2) => whF c body n sl2 μ2
      | some (.bk sl2 μ2) => some (.nx sl2 μ2)
      | o => o)
    | some (.ok false μ1) => some (.nx sl μ1)
    | some (.exc x μ1) => some (.exc x sl μ1)
    | none => none
theorem whF_succ {c : Sl → Mu → R Bool} {body : DS} : ∀ {n : Nat} {sl : Sl} {μ : Mu} {o : OutS}, whF c body n sl μ = some o → whF c body (n + 1) sl μ = some o
  | 0, _, _, _, h => by cases h
  | n + 1, sl, μ, o, h => by
    unfold whF at h ⊢
    revert h
    cases c sl μ with
    | none => exact fun h => h
    | some ob =>
      cases ob with
      | exc x μ1 => exact fun h => h
      | ok b μ1 =>
        cases b with
        | false => exact fun h => h
        | true =>
          dsimp only
          cases body sl μ1 with
          | none => exact fun h => h
          | some q =>
            cases q with
            | nx sl2 μ2 => exact fun h => whF_succ h
            | ct sl2 μ2 => exact fun h => whF_succ h
            | bk sl2 μ2 => exact fun h => h
            | rt d μ2 => exact fun h => h
            | exc x sl2 μ2 => exact fun h => h
theorem whF_add {c : Sl → Mu → R Bool} {body : DS} {n : Nat} {sl : Sl} {μ : Mu} {o : OutS} (h : whF c body n sl μ = some o) : ∀ k, whF c body (n + k) sl μ = some o
  | 0 => h
  | k + 1 => whF_succ (whF_add h k)
theorem whF_inj {c : Sl → Mu → R Bool} {body : DS} {n n' : Nat} {sl : Sl} {μ : Mu} {o o' : OutS} (h : whF c body n sl μ = some o) (h' : whF c body n' sl μ = some o') : o = o' := by
  have a := whF_add h n'
  have b := whF_add h' n
  rw [Nat.add_comm] at b
  rw [a] at b
  exact Option.some.inj b
open Classical in
/-- the loop, however long it takes -/
noncomputable def whS (c : Sl → Mu → R Bool) (body : DS) : DS := fun sl μ => if h : ∃ o, ∃ n, whF c body n sl μ = some o then some h.choose else none
theorem whS_of {c : Sl → Mu → R Bool} {body : DS} {n : Nat} {sl : Sl} {μ : Mu} {o : OutS} (h : whF c body n sl μ = some o) : whS c body sl μ = some o := by
  have ex : ∃ o, ∃ n, whF c body n sl μ = some o := ⟨o, n, h⟩
  unfold whS
  rw [dif_pos ex]
  obtain ⟨n', h'⟩ := ex.choose_spec
  rw [whF_inj h' h]
theorem whS_some {c : Sl → Mu → R Bool} {body : DS} {sl : Sl} {μ : Mu} {o : OutS} (h : whS c body sl μ = some o) : ∃ n, whF c body n sl μ = some o := by
  unfold whS at h
  split at h
  · rename_i ex
    obtain ⟨n, h'⟩ := ex.choose_spec
    exact ⟨n, by rw [h']; exact h⟩
  · cases h
theorem psd_while {c : Expr} {body : List Stmt} (hp : PassesOwn (model X.prog X.w) X.A X.env X.xe) (hc : PT X c (TB X.K W bt)) (hb : PSs X body (TDS X.K W f)) : PS X (.While c body [] pos) (TDS X.K W (whS bt f)) :=
  PS_imp (ps_while hp hc hb) fun D σ H ⟨G, m, μ, sl, wf, rs, o⟩ => by
    cases e : whS bt f sl μ with
    | none => rw [e] at o; exact o.elim
    | some oo =>
      obtain ⟨n, hn⟩ := whS_some e
      rw [e] at o
      rw [← hn] at o
      refine ⟨fun k σ H => ∃ G m μ sl, Wf X.K H G m μ ∧ RepS X.K G m sl σ ∧ okS X.K W D H G m μ (whF bt f k sl μ), ⟨n, G, m, μ, sl, wf, rs, o⟩, ?_⟩
      rintro k σ H ⟨G, m, μ, sl, wf, rs, o⟩
      cases k with
      | zero => exact o.elim
      | succ k =>
        have o1 : okS X.K W D H G m μ (lifA bt (fun sl b μ1 => if b = true then (match f sl μ1 with
            | some (.nx sl2 μ2) => whF bt f k sl2 μ2
            | some (.ct sl2 μ2) => whF bt f k sl2 μ2
            | some (.bk sl2 μ2) => some (.nx sl2 μ2)
            | o => o) else some (.nx sl μ1)) sl μ) := by
          unfold whF at o
          unfold lifA
          revert o
          cases bt sl μ with
          | none => exact fun z => z
          | some ob =>
            cases ob with
            | exc x μ1 => exact fun z => z
            | ok b μ1 => cases b <;> exact fun z => z
        refine ⟨G, m, μ, sl, wf, rs, rfl, (okS.lif (rep := repB) o1 rs).imp fun b H1 ⟨b', G1, m1, μ1, wf1, st1, rs1, eb, o2⟩ => ?_⟩
        have eb : b' = b := eb
        subst eb
        cases b' with
        | false => exact iteF (okS.nx o2 wf1 rs1)
        | true =>
          refine iteT ⟨fun σ' H' => ∃ G m μ sl, Wf X.K H' G m μ ∧ RepS X.K G m sl σ' ∧ okS X.K W D H' G m μ (whF bt f k sl μ), fun σ' H' q => ⟨k, Nat.lt_succ_self _, q⟩, G1, m1, μ1, sl, wf1, rs1, ?_⟩
          have o2 : okS X.K W D H1 G1 m1 μ1 (match f sl μ1 with
            | some (.nx sl2 μ2) => whF bt f k sl2 μ2
            | some (.ct sl2 μ2) => whF bt f k sl2 μ2
            | some (.bk sl2 μ2) => some (.nx sl2 μ2)
            | o => o) := o2
          revert o2
          cases f sl μ1 with
          | none => exact fun z => z
          | some q =>
            cases q with
            | nx sl3 μ3 => exact fun o σ3 H3 G3 m3 wf3 st3 rs3 => ⟨G3, m3, μ3, sl3, wf3, rs3, okS.step o st3⟩
            | ct sl3 μ3 => exact fun o σ3 H3 G3 m3 wf3 st3 rs3 => ⟨G3, m3, μ3, sl3, wf3, rs3, okS.step o st3⟩
            | bk sl3 μ3 => exact fun o => o
            | rt d μ3 => exact fun o => o
            | exc x sl3 μ3 => exact fun o => o
end
end Pd
end
section
namespace Pd
open PySem PySem.Spec L2
/-! ### methods of built-in types -/
inductive Ty where
  | str | int | lst | dic
def Ty.nm : Ty → String
  | .str => "str"
  | .int => "int"
  | .lst => "list"
  | .dic => "dict"
def rawDic (μ : Mu) : D → Bool
  | .ref l => match μ[l]? with
    | some (some (.dic _ _)) => true
    | some (some (.dit _ _)) => true
    | _ => false
  | _ => false
def tyD (t : Ty) (μ : Mu) (d : D) : Bool := match t with
  | .str => match d with
    | .str _ => true
    | _ => false
  | .int => match d with
    | .int _ => true
    | _ => false
  | .lst => (lstOf μ d).isSome
  | .dic => rawDic μ d
theorem tyD_ok {K : PySem.W.Frag} {H G : Hp} {m : List Addr} {μ : Mu} (wf : Wf K H G m μ) {t : Ty} {d : D} {v : V} (h : tyD t μ d = true) (r : RepV K G m d v) : tyV K t.nm v H := by
  cases t with
  | str => cases d <;> first | (cases h; done) | (cases r; rfl)
  | int => cases d <;> first | (cases h; done) | (cases r; rfl)
  | lst =>
    have h : (lstOf μ d).isSome = true := h
    cases e : lstOf μ d with
    | none => rw [e] at h; cases h
    | some ds =>
      obtain ⟨a, vs, rfl, q, _⟩ := lstOf_rep wf e r
      exact .inl ⟨rfl, vs, q⟩
  | dic =>
    have h : rawDic μ d = true := h
    cases d with
    | ref l =>
      unfold rawDic at h
      dsimp only at h
      split at h
      · rename_i ks xs e
        obtain ⟨a, rfl, _, _, vs, q, _⟩ := wf.live_get e r
        exact .inr (.inr (.inl ⟨rfl, .inl ⟨_, q⟩⟩))
      · rename_i ks xs e
        obtain ⟨a, rfl, _, _, vs, q, _⟩ := wf.live_get e r
        exact .inr (.inr (.inl ⟨rfl, .inr ⟨_, q⟩⟩))
      · cases h
    | _ => cases h
abbrev DM := D → DC
/-- a method's rule, for plain data -/
def MethD (X : Cx) (W : WX) (id : String) (g : DM) : Prop := ∃ r, MtR X id r ∧ ∀ dx ds vx vs σ H G m μ Q, Wf X.K H G m μ → RepV X.K G m dx vx → RepL X.K G m ds vs → okA (repV X.K) X.K W σ H G m μ (g dx ds μ) Q → r vx vs H Q
def MethF (X : Cx) (W : WX) (id : String) (g : DM) : Prop := ∃ r, MtR X id r ∧ ∀ dx ds vx vs σ H G m μ Q, Wf X.K H G m μ → RepV X.K G m dx vx → RepL X.K G m ds vs → okF X.K W σ H G m μ (g dx ds μ) Q → r vx vs H Q
def methB (t : Ty) (g : DM) (fo : DE) (fl : DL) : DE := fun sl μ => bindR (fo sl μ) fun d μ1 => if tyD t μ1 d = true then bindR (fl sl μ1) fun ds μ2 => g d ds μ2 else none
def meth0 (t : Ty) (g : DM) (fo : DE) : DE := fun sl μ => bindR (fo sl μ) fun d μ1 => if tyD t μ1 d = true then g d [] μ1 else none
section
variable {X : Cx} {W : WX} {o e : Expr} {es : List Expr} {fo : DE} {fl : DL} {name : Str} {apos cpos : Pos} {id : String} {g : DM} {t : Ty}
theorem meth0_imp {r : V → List V → Hp → VK → Prop} (hr : ∀ dx ds vx vs σ H G m μ Q, Wf X.K H G m μ → RepV X.K G m dx vx → RepL X.K G m ds vs → okA (repV X.K) X.K W σ H G m μ (g dx ds μ) Q → r vx vs H Q) (σ : L2.St) (H : Hp) (Q : VK) (h : TD X.K W (meth0 t g fo) σ H Q) : tBM0 X.K t.nm r (TD X.K W fo) σ H Q :=
  (T.bindV h).imp fun v H1 ⟨d, G, m, μ, sl, wf, rs, rd, o⟩ => by
    split at o
    · rename_i ht
      exact ⟨tyD_ok wf ht rd, hr d [] v [] σ H1 G m μ Q wf rd rfl o⟩
    · exact o.elim
theorem methB_imp {r : V → List V → Hp → VK → Prop} (hr : ∀ dx ds vx vs σ H G m μ Q, Wf X.K H G m μ → RepV X.K G m dx vx → RepL X.K G m ds vs → okA (repV X.K) X.K W σ H G m μ (g dx ds μ) Q → r vx vs H Q) (σ : L2.St) (H : Hp) (Q : VK) (h : TD X.K W (methB t g fo fl) σ H Q) : tBM X.K t.nm r (TD X.K W fo) (TDs X.K W fl) σ H Q :=
  (T.bindV h).imp fun v H1 ⟨d, G, m, μ, sl, wf, rs, rd, o⟩ => by
    split at o
    · rename_i ht
      refine ⟨tyD_ok wf ht rd, G, m, μ, sl, wf, rs, rfl, (okA.bind (rep := repL X.K) o).imp fun ws H2 ⟨ds, G2, m2, μ2, wf2, st2, l2, o2⟩ => ?_⟩
      exact hr d ds v ws σ H2 G2 m2 μ2 Q wf2 (st2.repV rd) l2 o2
    · exact o.elim
theorem ped_m0 (pa : PlainAttrs t.nm) (slot : Slot t.nm name id) (hty : typeOf (.builtin id) = pure (.type "method_descriptor")) (hm : MethD X W id g) (ho : PE X o (TD X.K W fo))
    (hbase : attributeBase o name X.env (eval o X.env) = eval o X.env := by rfl) (hline : (apos.endLine == cpos.line) = true := by rfl) : PE X (.Call (.Attribute o name apos) [] [] cpos) (TD X.K W (meth0 t g fo)) :=
  let ⟨_, h1, h2⟩ := hm
  PE_imp (pe_bm0 pa slot hty h1 ho hbase hline) (meth0_imp h2)
theorem ped_m (pa : PlainAttrs t.nm) (slot : Slot t.nm name id) (hty : typeOf (.builtin id) = pure (.type "method_descriptor")) (hm : MethD X W id g) (ho : PE X o (TD X.K W fo)) (ha : PA X (e :: es) (TDs X.K W fl))
    (hbase : attributeBase o name X.env (eval o X.env) = eval o X.env := by rfl)
    (hfew : ((backTo cpos (starEach (e :: es) X.env)).all (fun x => !x.1) && (backToKw cpos (keywordEach [] X.env)).all (fun x => x.1.isSome)
      && decide ((e :: es).length + ([] : List Keyword).length + (if ([] : List Keyword).isEmpty then 0 else 1) < 30)) = true := by rfl)
    (hline : (apos.endLine == cpos.line) = true := by rfl) (hs : starEach (e :: es) X.env = (false, eval e X.env) :: starEach es X.env := by rfl) (hplain : (backTo cpos (starEach es X.env)).any (·.1) = false := by rfl) :
    PE X (.Call (.Attribute o name apos) (e :: es) [] cpos) (TD X.K W (methB t g fo fl)) :=
  let ⟨_, h1, h2⟩ := hm
  PE_imp (pe_bm pa slot hty h1 ho ha hbase hfew hline hs hplain) (methB_imp h2)
end
/-! lists that change -/
def setL (μ : Mu) (l : Nat) (ds : List D) : Mu := μ.set l (some (.lst ds))
def rawL (μ : Mu) : D → Option (Nat × List D)
  | .ref l => match μ[l]? with
    | some (some (.lst ds)) => some (l, ds)
    | _ => none
  | _ => none
section
variable {K : PySem.W.Frag} {W : WX} {σ : L2.St} {H G : Hp} {m : List Addr} {μ : Mu}
theorem rawL_rep (wf : Wf K H G m μ) {d : D} {v : V} {l : Nat} {ds : List D} (h : rawL μ d = some (l, ds)) (r : RepV K G m d v) : μ[l]? = some (some (.lst ds)) ∧ ∃ a vs, v = .ref a ∧ m[l]? = some a ∧ H a = some (.lst vs) ∧ RepL K G m ds vs := by
  cases d with
  | ref k =>
    unfold rawL at h
    dsimp only at h
    split at h
    · rename_i xs e
      cases h
      obtain ⟨a, e1, e2, _, vs, q, rl⟩ := wf.live_get e r
      exact ⟨e, a, vs, e1, e2, q, rl⟩
    · cases h
  | _ => cases h
/-- a list of the store has got other items -/
theorem okA.setL {α β : Type} {rep : Hp → List Addr → α → β → Prop} {Q : β → Hp → Prop} {a : α} {b : β} {l : Nat} {c : Cell} {p : Addr} {ds : List D} {vs : List V} (h : okA rep K W σ H G m μ (ok a (setL μ l ds)) Q) (wf : Wf K H G m μ) (h1 : μ[l]? = some (some c)) (h2 : m[l]? = some p) (r : RepL K G m ds vs) (rb : rep G m a b) : Q b (upd H p (.lst vs)) :=
  h b _ G m (wf.changed h1 h2 (c' := .lst ds) ⟨vs, upd_same, r⟩) (Step.changed h1 h2) rb
end
def dmAppend : DM := fun x ds μ => match rawL μ x, ds with
  | some (l, xs), [d] => if xs.length < sizeLine then ok .non (setL μ l (xs ++ [d])) else none
  | _, _ => none
def dmPop : DM := fun x ds μ => match rawL μ x, ds with
  | some (l, xs), [] => match xs[xs.length - 1]? with
    | some y => ok y (setL μ l xs.dropLast)
    | none => none
  | _, _ => none
def dmPopAt : DM := fun x ds μ => match rawL μ x, ds with
  | some (l, xs), [.int i] => match seqIndex? i xs.length with
    | some k => match xs[k]? with
      | some y => if -(2 ^ 63) ≤ i ∧ i < 2 ^ 63 then ok y (setL μ l (xs.eraseIdx k)) else none
      | none => none
    | none => none
  | _, _ => none
theorem RepL.dropLast {K : PySem.W.Frag} {G : Hp} {m : List Addr} {ds : List D} {vs : List V} (h : RepL K G m ds vs) : RepL K G m ds.dropLast vs.dropLast := by
  rw [List.dropLast_eq_take, List.dropLast_eq_take, h.length]; exact h.take _
theorem RepL.eraseIdx {K : PySem.W.Frag} {G : Hp} {m : List Addr} {ds : List D} {vs : List V} (h : RepL K G m ds vs) (i : Nat) : RepL K G m (ds.eraseIdx i) (vs.eraseIdx i) := by
  rw [List.eraseIdx_eq_take_drop_succ, List.eraseIdx_eq_take_drop_succ]; exact (h.take i).app (h.drop (i + 1))
section
variable {X : Cx} {W : WX}
theorem md_append : MethD X W "list.append" dmAppend := ⟨_, mt_append, fun dx ds vx vs σ H G m μ Q wf rx rl o => by
  unfold dmAppend at o
  split at o
  · rename_i l xs d e
    obtain ⟨h1, a, ws, rfl, h2, q, r⟩ := rawL_rep wf e rx
    obtain ⟨v, rfl, rv⟩ := repL1 rl
    split at o
    · rename_i hz
      exact ⟨a, ws, v, rfl, rfl, q, by rw [r.length]; exact hz, o.setL wf h1 h2 (r.app (es := [d]) ⟨v, [], rfl, rv, rfl⟩) rfl⟩
    · exact o.elim
  · exact o.elim⟩
theorem md_pop : MethD X W "list.pop" dmPop := ⟨_, mt_pop, fun dx ds vx vs σ H G m μ Q wf rx rl o => by
  unfold dmPop at o
  split at o
  · rename_i l xs e
    obtain ⟨h1, a, ws, rfl, h2, q, r⟩ := rawL_rep wf e rx
    cases rl
    split at o
    · rename_i y ey
      obtain ⟨v, hv, rv⟩ := r.get ey
      exact ⟨a, ws, v, rfl, rfl, q, by rw [r.length]; exact hv, o.setL wf h1 h2 r.dropLast rv⟩
    · exact o.elim
  · exact o.elim⟩
theorem md_popAt : MethD X W "list.pop" dmPopAt := ⟨_, mt_popAt, fun dx ds vx vs σ H G m μ Q wf rx rl o => by
  unfold dmPopAt at o
  split at o
  · rename_i l xs i e
    obtain ⟨h1, a, ws, rfl, h2, q, r⟩ := rawL_rep wf e rx
    obtain ⟨vi, rfl, ri⟩ := repL1 rl
    cases ri
    split at o
    · rename_i k ek
      split at o
      · rename_i y ey
        split at o
        · rename_i hz
          obtain ⟨v, hv, rv⟩ := r.get ey
          exact ⟨a, ws, i, k, v, rfl, rfl, q, hz.1, hz.2, by rw [r.length]; exact ek, hv, o.setL wf h1 h2 (r.eraseIdx k) rv⟩
        · exact o.elim
      · exact o.elim
    · exact o.elim
  · exact o.elim⟩
/-! index of an equal item -/
def findPy (ps : List PyData) (d : PyData) : Option Nat := ps.findIdx? fun z => PyData.eqv z d
def pysOf (μ : Mu) (d : D) : Option (List PyData) := match toPy μ 9 d with
  | some (.list ps) => some ps
  | _ => none
def dmIndex : DM := fun x ds μ => match ds with
  | [y] => match pysOf μ x, toPy μ 9 y with
    | some ps, some d => match findPy ps d with
      | some j => if SeqAt.shaped (.list ps) && SeqAt.shaped d then ok (.int (j : Nat)) μ else none
      | none => none
    | _, _ => none
  | _ => none
theorem pysOf_dp {K : PySem.W.Frag} {H G : Hp} {m : List Addr} {μ : Mu} (wf : Wf K H G m μ) {d : D} {v : V} {ps : List PyData} (h : pysOf μ d = some ps) (r : RepV K G m d v) : Dp K H v (.list ps) := by
  unfold pysOf at h
  split at h
  · rename_i qs e
    cases h
    exact toPy_dp wf _ _ _ _ e r
  · cases h
theorem md_index (hu : X.A.units + 65 < cLine) : MethD X W "list.index" dmIndex := ⟨_, mt_indexD hu, fun dx ds vx vs σ H G m μ Q wf rx rl o => by
  unfold dmIndex at o
  split at o
  · rename_i y
    obtain ⟨v, rfl, rv⟩ := repL1 rl
    split at o
    · rename_i ps d e1 e2
      split at o
      · rename_i j ej
        split at o
        · rename_i hz
          have hz := Bool.and_eq_true_iff.mp hz
          have dp := pysOf_dp wf e1 rx
          unfold findPy at ej
          obtain ⟨hj, h3, h4⟩ := List.findIdx?_eq_some_iff_getElem.mp ej
          cases dp with
          | lst hs ha =>
            rename_i a zs
            refine ⟨a, v, d, ps, j, ps[j], rfl, rfl, .lst hs ha, toPy_dp wf _ _ _ _ e2 rv, hz.1, hz.2, List.getElem?_eq_getElem hj, h3, fun n z hn hz' => ?_, okA.get (a := D.int (j : Nat)) o wf rfl⟩
            obtain ⟨hn2, e3⟩ := List.getElem?_eq_some_iff.mp hz'
            rw [← e3]
            simpa using h4 n hn
        · exact o.elim
      · exact o.elim
    · exact o.elim
  · exact o.elim⟩
end
/-! ### in, not in -/
def flatD : D → Bool
  | .non => true
  | .bl _ => true
  | .int _ => true
  | .str _ => true
  | _ => false
def eqF : D → D → Bool
  | .non, .non => true
  | .bl a, .bl b => a == b
  | .int a, .int b => a == b
  | .str a, .str b => a == b
  | .bl a, .int b => (if a then 1 else 0) == b
  | .int a, .bl b => a == (if b then 1 else 0)
  | _, _ => false
def inD (neg : Bool) : D2 := fun x y μ => match y with
  | .str z => match x with
    | .str w => ok (.bl (if neg then !(!(Builtin.Str.occurrences z w 0 z.length 1).isEmpty) else !(Builtin.Str.occurrences z w 0 z.length 1).isEmpty)) μ
    | _ => none
  | d => match seqOf μ d with
    | some ds => if flatD x && ds.all flatD then ok (.bl (if neg then !ds.any fun z => eqF z x else ds.any fun z => eqF z x)) μ
        else match pysOf μ d, toPy μ 9 x with
          | some ps, some e => if SeqAt.shaped e && SeqAt.shaped (.list ps) then ok (.bl (if neg then !ps.any fun z => PyData.eqv z e else ps.any fun z => PyData.eqv z e)) μ else none
          | _, _ => none
    | none => match dicOf μ d, keyOf x with
      | some (ks, ds), some k => ok (.bl (if neg then !(dgetA ks ds k).isSome else (dgetA ks ds k).isSome)) μ
      | _, _ => none
end Pd
end
section
namespace Pd
open PySem PySem.Spec L2
/-! ### in, not in -/
theorem eqF_eqV {K : PySem.W.Frag} {G : Hp} {m : List Addr} {x y : D} {v w : V} (fx : flatD x = true) (fy : flatD y = true) (rx : RepV K G m x v) (ry : RepV K G m y w) : eqV v w = eqF x y := by
  cases x <;> first | (cases fx; done) | (cases rx; cases y <;> first | (cases fy; done) | (cases ry; rfl))
theorem flat_rep {K : PySem.W.Frag} {G : Hp} {m : List Addr} {x : D} {v : V} (fx : flatD x = true) (rx : RepV K G m x v) : flatV v = true := by
  cases x <;> first | (cases fx; done) | (cases rx; rfl)
theorem flats_rep {K : PySem.W.Frag} {G : Hp} {m : List Addr} {x : D} {w : V} (fx : flatD x = true) (rx : RepV K G m x w) : ∀ {ds : List D} {vs : List V}, ds.all flatD = true → RepL K G m ds vs → vs.all flatV = true ∧ (vs.any fun z => eqV z w) = ds.any fun z => eqF z x
  | [], _, _, r => by cases r; exact ⟨rfl, rfl⟩
  | d :: ds, _, h, r => by
    obtain ⟨v, ws, rfl, r1, r2⟩ := r
    rw [List.all_cons, Bool.and_eq_true] at h
    obtain ⟨a, b⟩ := flats_rep fx rx h.2 r2
    refine ⟨by rw [List.all_cons, flat_rep h.1 r1, a]; rfl, ?_⟩
    rw [List.any_cons, List.any_cons, eqF_eqV h.1 fx r1 rx, b]
def rDin (neg : Bool) : R2 := fun x y H Q => ∃ a o, y = .ref a ∧ DGet H a x o ∧ Q (.bl (if neg then !o.isSome else o.isSome)) H
theorem op_din {X : Cx} (hu : X.A.units + 1 < cLine) : OpR X (compareOp .In) (rDin false) := by
  intro pins s σ H x y v u Q I rx ry ⟨a, o, ey, g, q⟩
  subst ey
  obtain rfl : u = Value.ref a := ry
  exact d_in hu I g rx fun s' I' => ⟨.bl o.isSome, H, I', rfl, q⟩
theorem op_dnin {X : Cx} (hu : X.A.units + 1 < cLine) : OpR X (compareOp .NotIn) (rDin true) := by
  intro pins s σ H x y v u Q I rx ry ⟨a, o, ey, g, q⟩
  subst ey
  obtain rfl : u = Value.ref a := ry
  exact d_notIn hu I g rx fun s' I' => ⟨.bl (!o.isSome), H, I', rfl, q⟩
section
variable {X : Cx} {W : WX}
theorem in_cases {neg : Bool} {r1 r2 r3 r4 : R2} (h1 : ∀ x y H Q, (∃ p xs, y = .ref p ∧ (SqL X.K H p xs ∨ SqT X.K H p xs) ∧ flatV x = true ∧ xs.all flatV = true ∧ Q (.bl (if neg then !inV x xs else inV x xs)) H) → r1 x y H Q)
    (h2 : ∀ x y H Q, (∃ d ds, Dp X.K H x d ∧ Dp X.K H y (.list ds) ∧ SeqAt.shaped d = true ∧ SeqAt.shaped (.list ds) = true ∧ Q (.bl (if neg then !ds.any fun z => PyData.eqv z d else ds.any fun z => PyData.eqv z d)) H) → r2 x y H Q)
    (h3 : ∀ x y H Q, (∃ i j, x = .str i ∧ y = .str j ∧ Q (.bl (if neg then !(!(Builtin.Str.occurrences j i 0 j.length 1).isEmpty) else !(Builtin.Str.occurrences j i 0 j.length 1).isEmpty)) H) → r3 x y H Q)
    (h4 : ∀ x y H Q, rDin neg x y H Q → r4 x y H Q)
    (dx dy : D) (vx vy : V) (σ : L2.St) (H G : Hp) (m : List Addr) (μ : Mu) (Q : VK) (wf : Wf X.K H G m μ) (rx : RepV X.K G m dx vx) (ry : RepV X.K G m dy vy) (o : okA (repV X.K) X.K W σ H G m μ (inD neg dx dy μ) Q) :
    r1 vx vy H Q ∨ r2 vx vy H Q ∨ r3 vx vy H Q ∨ r4 vx vy H Q := by
  unfold inD at o
  split at o
  · rename_i z
    split at o
    · rename_i w
      exact .inr (.inr (.inl (h3 _ _ _ _ ⟨w, z, rx, ry, okA.get (a := D.bl _) o wf rfl⟩)))
    · exact o.elim
  · split at o
    · rename_i ds e
      split at o
      · rename_i hf
        have hf := Bool.and_eq_true_iff.mp hf
        obtain ⟨a, vs, rfl, q, l⟩ := seqOf_rep wf e ry
        obtain ⟨f1, f2⟩ := flats_rep hf.1 rx hf.2 l
        refine .inl (h1 _ _ _ _ ⟨a, vs, rfl, q, flat_rep hf.1 rx, f1, ?_⟩)
        unfold inV
        rw [f2]
        exact okA.get (a := D.bl _) o wf rfl
      · split at o
        · rename_i ps pe e1 e2
          split at o
          · rename_i hz
            have hz := Bool.and_eq_true_iff.mp hz
            exact .inr (.inl (h2 _ _ _ _ ⟨pe, ps, toPy_dp wf _ _ _ _ e2 rx, pysOf_dp wf e1 ry, hz.1, hz.2, okA.get (a := D.bl _) o wf rfl⟩))
          · exact o.elim
        · exact o.elim
    · split at o
      · rename_i ks ds k e1 e2
        obtain ⟨a, vs, rfl, q, hz, l⟩ := dicOf_rep wf e1 ry
        have ek := keyOf_rep e2 rx
        refine .inr (.inr (.inr (h4 _ _ _ _ ⟨a, dgetA ks vs k, rfl, .inl ⟨_, k, q, ek, (valV_zip k ks vs).symm⟩, ?_⟩)))
        have g := dget_rep (K := X.K) (G := G) (m := m) k (ks := ks) l
        have es : (dgetA ks vs k).isSome = (dgetA ks ds k).isSome := by
          cases e3 : dgetA ks ds k with
          | none => rw [e3] at g; rw [g]; rfl
          | some d => rw [e3] at g; obtain ⟨v, h, _⟩ := g; rw [h]; rfl
        rw [es]
        exact okA.get (a := D.bl _) o wf rfl
      · exact o.elim
theorem od_in (hu : X.A.units + 65 < cLine) : OpD X W (compareOp .In) (inD false) := .mk (OpR.or op_in_seq (OpR.or (op_inD hu) (OpR.or op_in_str (op_din (by omega))))) (in_cases (neg := false) (fun _ _ _ _ h => h) (fun _ _ _ _ h => h) (fun _ _ _ _ h => h) fun _ _ _ _ h => h)
theorem od_notin (hu : X.A.units + 65 < cLine) : OpD X W (compareOp .NotIn) (inD true) := .mk (OpR.or op_notIn_seq (OpR.or (op_notInD hu) (OpR.or op_notin_str (op_dnin (by omega))))) (in_cases (neg := true) (fun _ _ _ _ h => h) (fun _ _ _ _ h => h) (fun _ _ _ _ h => h) fun _ _ _ _ h => h)
end

/-! ### x[i] = v -/
def setD : D → D → D → Mu → Option Mu := fun o i v μ => match o with
  | .ref l => match μ[l]? with
    | some (some (.lst ds)) => match i with
      | .int k => match ixN ds.length k with
        | some j => some (μ.set l (some (.lst (ds.set j v))))
        | none => none
      | _ => none
    | some (some (.dic ks ds)) => match keyOf i with
      | some k => if ks.length < sizeLine then some (μ.set l (some (.dic (putKs ks k) (putXs ks ds k v)))) else none
      | none => none
    | _ => none
  | _ => none
def setS (e o i : DE) : DS := lifA (fun sl μ => bindR (e sl μ) fun v μ1 => bindR (o sl μ1) fun x μ2 => bindR (i sl μ2) fun y μ3 => match setD x y v μ3 with
    | some μ4 => ok D.non μ4
    | none => none) fun sl _ μ => some (.nx sl μ)
theorem repL_zipLen {K : PySem.W.Frag} {G : Hp} {m : List Addr} {ks : List Key} {ds : List D} {vs : List V} (h : ks.length = ds.length) (l : RepL K G m ds vs) : ks.length = vs.length := by rw [l.length]; exact h
def gSet (K : PySem.W.Frag) (W : WX) (o i : DE) : TG := fun v σ H Q => ∃ G m μ sl d, Wf K H G m μ ∧ RepS K G m sl σ ∧ RepV K G m d v ∧
  okA (fun _ _ (_ : Unit) (_ : Unit) => True) K W σ H G m μ (bindR (o sl μ) fun x μ2 => bindR (i sl μ2) fun y μ3 => match setD x y d μ3 with
    | some μ4 => ok () μ4
    | none => none) (fun _ H' => Q σ H')
section
variable {X : Cx} {W : WX} {o i e : Expr} {fo fi fe : DE} {pos spos : Pos}
theorem ptset (hu : X.A.units + 1 < cLine) : PSet X (fun o i v H Q => rSetL o i v H Q ∨ rSetD o i v H Q) := fun pins s σ H o i v ov iv u Q I r1 r2 r3 h => h.elim (set_list pins s σ H o i v ov iv u Q I r1 r2 r3) (set_dict hu pins s σ H o i v ov iv u Q I r1 r2 r3)
theorem set_imp {K : PySem.W.Frag} {H G : Hp} {m : List Addr} {μ μ' : Mu} {x y d : D} {vx vy v : V} {Q : Hp → Prop} (wf : Wf K H G m μ) (rx : RepV K G m x vx) (ry : RepV K G m y vy) (rd : RepV K G m d v) (e : setD x y d μ = some μ')
    (q : ∀ H' G' m', Wf K H' G' m' μ' → Step H G m μ H' G' m' μ' → Q H') : rSetL vx vy v H Q ∨ rSetD vx vy v H Q := by
  unfold setD at e
  split at e
  · rename_i l
    split at e
    · rename_i ds e1
      split at e
      · rename_i k
        split at e
        · rename_i j ej
          cases e
          obtain ⟨a, rfl, h2, _, vs, hq, rl⟩ := wf.live_get e1 rx
          refine .inl ⟨a, vs, k, j, rfl, ry, hq, by rw [rl.length]; exact ej, ?_⟩
          exact q _ G m (wf.changed e1 h2 (c' := .lst (ds.set j d)) ⟨_, upd_same, rl.set rd⟩) (Step.changed e1 h2)
        · cases e
      · cases e
    · rename_i ks ds e1
      split at e
      · rename_i k ek
        split at e
        · rename_i hz
          cases e
          obtain ⟨a, rfl, h2, _, vs, hq, hl, rl⟩ := wf.live_get e1 rx
          have hl2 := repL_zipLen hl rl
          have lz : (ks.zip vs).length < sizeLine := by rw [List.length_zip, ← hl2, Nat.min_self]; exact hz
          refine .inr ⟨a, _, rfl, .inl ⟨_, k, hq, keyOf_rep ek ry, lz, rfl⟩, ?_⟩
          rw [putK_zip k v ks vs hl2]
          exact q _ G m (wf.changed e1 h2 (c' := .dic (putKs ks k) (putXs ks ds k d)) ⟨_, upd_same, putLen hl k d, put_rep k rd rl⟩) (Step.changed e1 h2)
        · cases e
      · cases e
    · cases e
  · cases e
theorem gSet_imp (v : V) (σ : L2.St) (H : Hp) (Q : L2.St → Hp → Prop) (h : gSet X.K W fo fi v σ H Q) : gSub (TD X.K W fo) (TD X.K W fi) (fun o i v H Q => rSetL o i v H Q ∨ rSetD o i v H Q) v σ H Q := by
  obtain ⟨G, m, μ, sl, d, wf, rs, rd, o⟩ := h
  refine ⟨G, m, μ, sl, wf, rs, rfl, (okA.bind (rep := repV X.K) o).imp fun x H1 ⟨dx, G1, m1, μ1, wf1, st1, r1, o1⟩ => ?_⟩
  refine ⟨G1, m1, μ1, sl, wf1, st1.repS rs, rfl, (okA.bind (rep := repV X.K) o1).imp fun y H2 ⟨dy, G2, m2, μ2, wf2, st2, r2, o2⟩ => ?_⟩
  cases es : setD dx dy d μ2 with
  | none => rw [es] at o2; exact o2.elim
  | some μ4 =>
    rw [es] at o2
    exact set_imp wf2 (st2.repV r1) r2 (st2.repV (st1.repV rd)) es fun H' G' m' wf' st' => o2 () H' G' m' wf' st' trivial
theorem pg_set (hu : X.A.units + 1 < cLine) (ho : PE X o (TD X.K W fo)) (hi : PE X i (TD X.K W fi)) (ha : ∀ v, assign (.Subscript o i pos) X.env v = (do
      let ov ← holding [v] (eval o X.env)
      let iv ← holding [v, ov] (eval i X.env)
      standAt pos
      holding [v, ov, iv] (setItem ov iv v)
      release [v, ov, iv] []) := by intro _; rfl) : PG X (.Subscript o i pos) (gSet X.K W fo fi) := PG_imp (pg_sub ho hi (ptset hu) ha) gSet_imp
theorem psd_sub (hu : X.A.units + 1 < cLine) (he : PE X e (TD X.K W fe)) (ho : PE X o (TD X.K W fo)) (hi : PE X i (TD X.K W fi)) (ha : ∀ v, assign (.Subscript o i pos) X.env v = (do
      let ov ← holding [v] (eval o X.env)
      let iv ← holding [v, ov] (eval i X.env)
      standAt pos
      holding [v, ov, iv] (setItem ov iv v)
      release [v, ov, iv] []) := by intro _; rfl) (hs : swapsWithSole [.Subscript o i pos] e spos.line X.env = pure false := by rfl) (hw : swappedStores [.Subscript o i pos] e X.env = pure none := by rfl)
    (h1 : (assignEach [.Subscript o i pos] X.env).map (·.2) = [assign (.Subscript o i pos) X.env] := by rfl) : PS X (.Assign [.Subscript o i pos] e spos) (TDS X.K W (setS fe fo fi)) :=
  PS_imp (ps_asg he (pg_set hu ho hi ha) hs hw h1) fun D σ H h => by
    obtain ⟨G, m, μ, sl, wf, rs, o⟩ := h
    refine ⟨G, m, μ, sl, wf, rs, rfl, ?_⟩
    unfold setS at o
    have o1 := okS.lif (rep := repV X.K) o rs
    refine (okA.bind (rep := repV X.K) o1).imp fun v H1 ⟨d, G1, m1, μ1, wf1, st1, r1, o2⟩ => ⟨G1, m1, μ1, sl, d, wf1, st1.repS rs, r1, ?_⟩
    revert o2
    cases fo sl μ1 with
    | none => exact fun z => z
    | some q =>
      cases q with
      | exc x μ2 => exact fun z => z
      | ok dx μ2 =>
        dsimp only [bindR]
        cases fi sl μ2 with
        | none => exact fun z => z
        | some q =>
          cases q with
          | exc x μ3 => exact fun z => z
          | ok dy μ3 =>
            dsimp only [bindR]
            cases setD dx dy d μ3 with
            | none => exact fun z => z
            | some μ4 =>
              intro o2 u H' G' m' wf' st' _
              obtain ⟨a, G5, m5, μ5, wf5, st5, rs5, _, o5⟩ := o2 V.non H' G' m' wf' st' rfl
              exact okS.nx o5 wf5 rs5
end
end Pd
end
section
namespace Pd
open PySem PySem.Spec L2
/-! ### defs -/
/-- a def's promise, by its plain function of the arguments and the store -/
def spD (K : PySem.W.Frag) (F : DC) (n : Nat) : Sp := fun vs H Q E => vs.length = n ∧ ∃ G m μ ds, Wf K H G m μ ∧ RepL K G m ds vs ∧ okA (repV K) K (fun c d _ H' => E c d H') [] H G m μ (F ds μ) Q
/-- what a body gives, from the arguments -/
def bodyR (b : DS) (n : Nat) : DC := fun ds μ => match b (ds.map some ++ List.replicate (n - ds.length) none) μ with
  | some (.rt d μ') => ok d μ'
  | some (.nx _ μ') => ok .non μ'
  | some (.exc x _ μ') => some (.exc x μ')
  | _ => none
structure FnG (P : Program) (w : World) (K : PySem.W.Frag) (mg : Str → Option Value) (base : Heap) (k : Nat) (f : Addr) (fd : FuncData) (ps : List Str) (F : DC) : Prop where
  run : ∀ (A : Around) (outer : List Env) (s : Shared) (H : Hp) (args : Args) (us : List Value) (vs : List V) (Q : VK) (E : XK), Room k A → A.guards = some [] → Env0 P w K mg base A outer s H → BindsTo s fd args (ps.zip us) → Vals vs us → spD K F ps.length vs H Q E →
    codeAny (model P w) A (.call (.ref f) args) (CR (L2.CX P w) outer P w H s Q E) s
theorem FnG.mono {P : Program} {w : World} {K : PySem.W.Frag} {mg : Str → Option Value} {base : Heap} {j k : Nat} {f : Addr} {fd : FuncData} {ps : List Str} {F : DC} (h : FnG P w K mg base j f fd ps F) (hk : j ≤ k) : FnG P w K mg base k f fd ps F :=
  ⟨fun A outer s H args us vs Q E hr => h.run A outer s H args us vs Q E (hr.mono hk)⟩
abbrev wE (E : XK) : WX := fun c d _ H' => E c d H'
theorem start_rep {K : PySem.W.Frag} {G : Hp} {m : List Addr} {N : List Str} {ds : List D} {vs : List V} (l : RepL K G m ds vs) : RepS K G m (ds.map some ++ List.replicate (N.length - ds.length) none) (L2.start N vs) := by
  unfold L2.start
  refine ⟨by simp [l.length], fun i d e => ?_⟩
  have hi : i < ds.length := by
    by_cases hi : i < ds.length
    · exact hi
    · rw [List.getElem?_append_right (by simpa using hi), List.getElem?_replicate] at e
      split at e <;> cases e
  rw [List.getElem?_append_left (by simpa using hi), List.getElem?_map] at e
  cases e2 : ds[i]? with
  | none => rw [e2] at e; cases e
  | some d' =>
    rw [e2] at e; cases e
    obtain ⟨v, hv, rv⟩ := l.get e2
    have hl := l.length
    exact ⟨v, by rw [List.getElem?_append_left (by simp [hl]; exact hi), List.getElem?_map, hv]; rfl, rv⟩
theorem body_ok {K : PySem.W.Frag} {bD : DS} {N : List Str} {vs : List V} {H : Hp} {Q : VK} {E : XK} {n : Nat} (h : spD K (bodyR bD N.length) n vs H Q E) : TDS K (wE E) bD { nx := fun _ H' => Q .non H', rt := Q } (L2.start N vs) H := by
  obtain ⟨_, G, m, μ, ds, wf, l, o⟩ := h
  refine ⟨G, m, μ, _, wf, start_rep (N := N) l, ?_⟩
  unfold bodyR at o
  revert o
  cases bD (ds.map some ++ List.replicate (N.length - ds.length) none) μ with
  | none => exact fun z => z
  | some q =>
    cases q with
    | nx sl μ' => exact fun o σ H' G' m' wf' st rs => o .non H' G' m' wf' st rfl
    | rt d μ' => exact fun o => o
    | bk sl μ' => exact fun z => z.elim
    | ct sl μ' => exact fun z => z.elim
    | exc x sl μ' => exact fun o c dd σ H' G' m' wf' st rs er => o c dd H' G' m' wf' st er
section
variable {P : Program} {w : World} {K : PySem.W.Frag} {mg : Str → Option Value} {base : Heap}
/-- what a body may use of its context -/
structure Ctx (k : Nat) (W : WX) (X : Cx) : Prop where
  room : Room k X.A
  gd : X.A.guards = some []
  tk : Takes X W
  ps : PassesOwn (model X.prog X.w) X.A X.env X.xe
  calm : X.calm = true
theorem fnG_of {k : Nat} {f : Addr} {name qual : Str} {params : Arguments} {body : List Stmt} {scope : Scope} {dV kV doc pm cdv ct oc : Value} {an od : Option Addr}
    {osl : Array (Option Value)} {N ps : List Str} {bD : DS} (lk : K.lookup f = some ⟨oc, od, .func (PySem.W.fnOf name qual params body scope dV kV doc pm an cdv ct), osl⟩) (hcd : PySem.W.codeIn K cdv qual = true) (S : FnScope N ps scope)
    (hbody : ∀ (A : Around) (outer : List Env) (s : Shared) (H : Hp) (E : XK), Ctx k (wE E) (cxOf (L2.CX P w) P w K mg base N qual scope f cdv A outer s H E) → PSs (cxOf (L2.CX P w) P w K mg base N qual scope f cdv A outer s H E) body (TDS K (wE E) bD)) :
    FnG P w K mg base (k + 1) f (PySem.W.fnOf name qual params body scope dV kV doc pm an cdv ct) ps (bodyR bD N.length) := by
  refine ⟨fun A outer s H args us vs Q E hr hgd e0 hb rl hsp => ?_⟩
  have hlen := hsp.1
  have kIn : K.In s.heap := e0.mod.kin.keeps fun b o e => (e0.bs b o e).1
  have noLim : s.heap.NoLimit := e0.mod.nolimit.keeps fun b o e => (e0.bs b o e).1
  have kinds : ∀ y ∈ ps.zip us, scope.names.lookup y.1 = some .local ∨ (scope.names.lookup y.1 = some .cell ∧ ((cellsFrom (s.heap.objs.size + 1) scope.names []).lookup y.1).isSome = true) := fun ⟨n, v⟩ hy =>
    (S.par n (List.of_mem_zip hy).1).imp (fun q => q) fun q => ⟨q, PySem.W.cellsFrom_some _ _ _ (.inl q)⟩
  refine codeAny_call_function hr.depth (kIn _ _ lk) rfl S.co S.gen rfl (PySem.W.codeRec_of kIn hcd) (hb _ _ _ _ ?_)
  refine wpAny_newFunctionEnv_cells S.kind kinds fun env he s1 inC => ?_
  subst he
  refine ⟨noLim.keeps inC.toInCall.keep, codeAny_func ?_⟩
  have tk := takes_of (X := cxOf (L2.CX P w) P w K mg base N qual scope f cdv A outer s H E) (E := E) rfl rfl rfl rfl
  have ht := hbody A outer s H E ⟨hr.deeper _, hgd, tk, passes_of rfl, rfl⟩
  have J0 : Inv (cxOf (L2.CX P w) P w K mg base N qual scope f cdv A outer s H E) [] (L2.start N vs) H s1 := inv_start S hr.hd e0 hlen rl inC
  refine wpAny_mono (ht.run [] s1 (L2.start N vs) H _ J0 (body_ok hsp)) (fun fl s2 hs => ?_) fun e s2 hs => hs
  have fin : ∀ {σ2 : L2.St} {H2 : Hp} {v : V} {u : Value}, Inv (cxOf (L2.CX P w) P w K mg base N qual scope f cdv A outer s H E) [] σ2 H2 s2 → RelV v u → Q v H2 → CE outer P w H s Q u s2 :=
    fun {σ2 H2 v u} J rv q => ⟨v, H2, J.os, J.bare, J.base, J.hok, rv, q⟩
  cases fl with
  | ret u => obtain ⟨v, σ2, H2, J, rv, q⟩ := hs; exact fin J rv q
  | next => obtain ⟨σ2, H2, J, q⟩ := hs; exact fin (v := V.non) (u := Value.none) J rfl q
  | brk => obtain ⟨_, _, _, q⟩ := hs; exact q.elim
  | cont => obtain ⟨_, _, _, q⟩ := hs; exact q.elim
theorem fnG {x qual : Str} {params : Arguments} {body : List Stmt} {scope : Scope} {dvs : List V} {kws : List (Str × V)} {f : Addr} {fd : FuncData} {N ps : List Str} {k : Nat} {bD : DS} (F : FunD K x qual params body scope dvs kws f fd) (S : FnScope N ps scope)
    (hbody : ∀ (cdv : Value) (A : Around) (outer : List Env) (s : Shared) (H : Hp) (E : XK), Ctx k (wE E) (cxOf (L2.CX P w) P w K mg base N qual scope f cdv A outer s H E) → PSs (cxOf (L2.CX P w) P w K mg base N qual scope f cdv A outer s H E) body (TDS K (wE E) bD)) :
    FnG P w K mg base (k + 1) f fd ps (bodyR bD N.length) := by
  obtain ⟨oc, od, dV, kV, doc, pm, an, cdv, ct, osl, rfl, lk, hcd, _, _⟩ := F.ex
  exact fnG_of lk hcd S fun A outer s H E c => hbody cdv A outer s H E c
end
theorem Ctx.blk {k : Nat} {W : WX} {X : Cx} (c : Ctx k W X) (s : Shared) (H : Hp) (scope : Scope) (cenv : Env) (fp : List Addr) : Ctx k nW (X.blk s H scope cenv fp) :=
  ⟨c.room, c.gd, takes0, PassesOwn.never, c.calm⟩
/-! calls of them -/
section
variable {X : Cx} {W : WX} {k k' : Nat} {f : Addr} {fd : FuncData} {ps : List Str} {F : DC} {x : Str} {p pos : Pos} {e : Expr} {es : List Expr} {fl : DL}
theorem callG {pins : List (Addr × Obj)} {σ : L2.St} {H : Hp} {s : Shared} {Q : VK} {us : List Value} {vs : List V} (h : FnG X.prog X.w X.K X.mg X.base k f fd ps F) (c : Ctx k W X) (hb : Binds X.K fd ps [])
    (I : Inv X pins σ H s) (r : Vals vs us) (hq : vs.length = ps.length → spD X.K F ps.length vs H Q (WE W σ)) (hl : vs.length = ps.length) : wpAny (model X.prog X.w) X.A (call (.ref f) us) (EP X pins σ Q) X.xe s := by
  have hul : us.length = ps.length := by rw [← r.length]; exact hl
  have b := hb s us I.kIn (by rw [List.append_nil]; exact hul)
  rw [List.append_nil] at b
  refine wpAny_call (codeAny_mono (h.run X.A X.stack s H ⟨us, []⟩ us vs Q (WE W σ) c.room c.gd I.env0 b r (hq hl)) fun r s' hc => ?_)
  cases r with
  | error e => exact passAt c.tk σ pins H s e s' I hc
  | ok fl =>
    cases fl with
    | ret u => exact I.after hc
    | next => exact hc.elim
    | brk => exact hc.elim
    | cont => exact hc.elim
/-- the number of arguments is looked at -/
def callN (n : Nat) (F : DC) : DC := fun ds μ => if ds.length = n then F ds μ else none
theorem ped_call (h : FnG X.prog X.w X.K X.mg X.base k' f fd ps F) (c : Ctx k W X) (hk : k' ≤ k) (hg : Gl X x) (hm : X.mg x = some (.ref f)) (kp : PySem.W.keepIn X.K (.ref f) = true) (hb : Binds X.K fd ps []) (ha : PA X (e :: es) (TDs X.K W fl))
    (hdb : (x == ("__debug__" : Str)) = false := by decide) (he : starEach (e :: es) X.env = (false, eval e X.env) :: starEach es X.env := by rfl) (hpl : (backTo pos (starEach es X.env)).any (·.1) = false := by rfl) :
    PE X (.Call (.Name x p) (e :: es) [] pos) (TD X.K W (callB (callN ps.length F) fl)) := by
  refine ⟨fun pins s σ H Q I h0 => ?_⟩
  refine wpAny_Call_Name_kw (ld_glob I hg hm ?_ hdb)
  refine PySem.W.callWith_K (h₀ := X.base) I.ok.mod.kin kp (thn (ha.run pos pins s σ H _ I (T.bindL h0)) fun us s1 ⟨vs, H1, I1, r, ds, G, m, μ, sl, wf, rs, _, rl, o⟩ => ⟨I1.kIn, ?_⟩) he hpl
  unfold callN at o
  split at o
  · rename_i hz
    refine callG (h.mono hk) c hb I1 r (fun hl => ⟨hl, G, m, μ, ds, wf, rl, ?_⟩) (by rw [rl.length]; exact hz)
    revert o
    cases F ds μ with
    | none => exact fun z => z
    | some q => cases q <;> exact fun z => z
  · exact o.elim
theorem ped_call0 (h : FnG X.prog X.w X.K X.mg X.base k' f fd [] F) (c : Ctx k W X) (hk : k' ≤ k) (hg : Gl X x) (hm : X.mg x = some (.ref f)) (kp : PySem.W.keepIn X.K (.ref f) = true) (hb : Binds X.K fd [] [])
    (hdb : (x == ("__debug__" : Str)) = false := by decide) : PE X (.Call (.Name x p) [] [] pos) (TD X.K W (fun _ μ => F [] μ)) := by
  refine ⟨fun pins s σ H Q I ⟨G, m, μ, sl, wf, rs, _, o⟩ => ?_⟩
  refine wpAny_Call_Name_kw (ld_glob I hg hm ?_ hdb)
  refine PySem.W.callWith_K0 I.kIn kp (callG (us := []) (vs := []) (h.mono hk) c hb I .nil (fun hl => ⟨hl, G, m, μ, [], wf, rfl, ?_⟩) rfl)
  have o : okA (repV X.K) X.K W σ H G m μ (F [] μ) Q := o
  revert o
  cases F [] μ with
  | none => exact fun z => z
  | some q => cases q <;> exact fun z => z
end
/-! ### the law's own call -/
/-- what the law's function must do: at every script, whatever the store, it gives True -/
def LawD (n : Nat) (F : DC) : Prop := ∀ ns : List Int, ns.length ≤ n → (∀ z ∈ ns, Builtin.Int.intBits z ≤ 1048576) → ∃ μ', F [.lst (ns.map D.int)] [] = ok (.bl true) μ'
theorem ints_rep {K : PySem.W.Frag} {G : Hp} {m : List Addr} : ∀ ns : List Int, RepL K G m (ns.map D.int) (ns.map V.int)
  | [] => rfl
  | n :: ns => ⟨.int n, ns.map V.int, rfl, rfl, ints_rep ns⟩
theorem lawD_sp {K : PySem.W.Frag} {F : DC} {n : Nat} (h : LawD n F) {H : Hp} {a : Addr} {ns : List Int} (hn : ns.length ≤ n) (hz : ∀ z ∈ ns, Builtin.Int.intBits z ≤ 1048576) (hS : SqL K H a (ns.map V.int)) : spD K F 1 [.ref a] H (fun v _ => v = .bl true) fun _ _ _ => False := by
  refine ⟨rfl, H, [], [], [.lst (ns.map D.int)], ⟨Le.refl _, rfl, fun l c a e => by simp at e, fun l l' a c c' e => by simp at e⟩, ⟨.ref a, [], rfl, ⟨a, _, rfl, hS, ints_rep ns⟩, rfl⟩, ?_⟩
  obtain ⟨μ', e⟩ := h ns hn hz
  rw [e]
  exact fun v H' G' m' _ _ r => r
theorem lawG0 {P : Program} {w : World} {K : PySem.W.Frag} {mg mb : Str → Option Value} {k n : Nat} {fa a : Addr} {fd : FuncData} {x : Str} {F : DC} {s1 : Shared} {us : List Value} {ns : List Int} {ob : Obj} {H : Hp}
    (kIn : K.In s1.heap) (ng : s1.heap.Ns mainGlobals mg) (nb : s1.heap.Ns builtinsNs mb) (bb : ∀ x : Str, x ≠ "__name__" → mb x = bootBuiltins x) (noLim : s1.heap.NoLimit) (noGen : s1.gens = #[])
    (eob : ob = { cls := .type "list", data := .seq us.toArray }) (ha : s1.heap.get? a = some ob) (vs : Vals (ns.map V.int) us) (hn : ns.length ≤ n) (hn2 : n ≤ sizeLine) (hz : ∀ z ∈ ns, Builtin.Int.intBits z ≤ 1048576) (hr : Room k callerA)
    (h : ∀ base : Heap, K.In base → base.Ns mainGlobals mg → FnG P w K mg base k fa fd [x] F) (hb : ∀ (s : Shared) (u : Value), BindsTo s fd ⟨[u], []⟩ [(x, u)]) (hF : LawD n F)
    (hS : SqL K H a (ns.map V.int)) (Hs : ∀ {b : Addr} {u : HO}, H b = some u → b = a ∧ u = .frz ob (.lst (ns.map V.int)) ∧ K.lookup a = none) :
    codeAny (model P w) callerA (.call (.ref fa) ⟨[.ref a], []⟩) (fun r s2 => r = .ok (.ret (.bool true)) ∧ OldK s1.heap s2.heap ∧ s2.os = s1.os ∧ PyProof.Rows.AllBare s2.gens) s1 := by
  have hl : ns.length ≤ sizeLine := Nat.le_trans hn hn2
  have Hn : ∀ {b : Addr}, (∀ u, H b ≠ some u) → H b = none := fun {b} h => by
    cases e : H b with
    | none => rfl
    | some u => exact absurd e (h u)
  have hok : HOk P w H s1.heap := fun b u e => by
    obtain ⟨rfl, rfl, _⟩ := Hs e
    exact ⟨ha, by rw [List.length_map]; exact hl, us, _, vs, eob ▸ ha⟩
  have baseOf : ∀ {b : Addr} {o : Obj}, s1.heap.get? b = some o → H b = none → (hidT s1.heap H).get? b = some o := fun e n => hidT_get e n
  have notDict : ∀ {b : Addr} {o : Obj} {es : Array DictEntry} {ep : Nat}, s1.heap.get? b = some o → o.data = .dict es ep → H b = none := fun {b o es ep} e d => Hn fun u q => by
    obtain ⟨rfl, _, _⟩ := Hs q
    rw [ha] at e; cases e
    subst eob
    exact nomatch (show Data.seq us.toArray _ = Data.dict es ep from d)
  have nsOf : ∀ {b : Addr} {mm : Str → Option Value}, s1.heap.Ns b mm → (hidT s1.heap H).Ns b mm := fun {b mm} ⟨o, es, ep, e, d, r⟩ => ⟨o, es, ep, baseOf e (notDict e d), d, r⟩
  have kB : K.In (hidT s1.heap H) := fun b o e => baseOf (kIn b o e) (Hn fun u q => by
    obtain ⟨rfl, _, z⟩ := Hs q
    rw [z] at e; cases e)
  have hM : Mod K mg (hidT s1.heap H) := ⟨kB, nsOf ng, ⟨mb, nsOf nb, bb⟩, let ⟨mc, h1, h2⟩ := noLim; ⟨mc, nsOf h1, h2⟩⟩
  have e0 : Env0 P w K mg (hidT s1.heap H) callerA [] s1 H := ⟨rfl, hM, fun b o e => of_hidT e, Nat.le_of_eq (hidT_size _ _), trivial, fun b hb => absurd (show b ∈ ([] : List Addr) from hb) (by simp), hok, .of_eq noGen⟩
  refine codeAny_mono ((h _ kB (nsOf ng)).run callerA [] s1 H ⟨[.ref a], []⟩ [.ref a] [.ref a] _ _ hr rfl e0 (hb s1 (.ref a)) (.cons rfl .nil) (lawD_sp hF hn hz hS)) fun r s2 hc => ?_
  cases r with
  | error e =>
    obtain ⟨_, _, _, _, _, _, _, _, _, _, _, _, z⟩ := hc
    exact z.elim
  | ok fl =>
    cases fl with
    | next => exact hc.elim
    | brk => exact hc.elim
    | cont => exact hc.elim
    | ret u =>
      obtain ⟨v, H', os, bare, un, hok', r', q⟩ := hc
      have q : v = .bl true := q
      subst q
      obtain rfl : u = Value.bool true := r'
      refine ⟨rfl, OldK.of_keep fun b o e => ?_, os, bare⟩
      cases z : H b with
      | some u =>
        obtain ⟨rfl, rfl, _⟩ := Hs z
        obtain ⟨e2, _⟩ := hok' b _ (un.frzs b ob _ z)
        rw [ha] at e; cases e
        exact e2
      | none => exact un.keep b o e z (by intro z; exact absurd (show b ∈ ([] : List Addr) from z) (by simp)) (by simp)
theorem lawG {P : Program} {w : World} {K : PySem.W.Frag} {mg mb : Str → Option Value} {k n : Nat} {fa a : Addr} {fd : FuncData} {x : Str} {F : DC} {s1 : Shared} {us : List Value} {ns : List Int}
    (kIn : K.In s1.heap) (ng : s1.heap.Ns mainGlobals mg) (nb : s1.heap.Ns builtinsNs mb) (bb : ∀ x : Str, x ≠ "__name__" → mb x = bootBuiltins x) (noLim : s1.heap.NoLimit) (noGen : s1.gens = #[])
    (ha : s1.heap.get? a = some { cls := .type "list", data := .seq us.toArray }) (hi : PyProof.Rows.IntsAre us ns) (hn : ns.length ≤ n) (hn2 : n ≤ sizeLine) (hz : ∀ z ∈ ns, Builtin.Int.intBits z ≤ 1048576) (hr : Room k callerA)
    (h : ∀ base : Heap, K.In base → base.Ns mainGlobals mg → FnG P w K mg base k fa fd [x] F) (hb : ∀ (s : Shared) (u : Value), BindsTo s fd ⟨[u], []⟩ [(x, u)]) (hF : LawD n F) :
    codeAny (model P w) callerA (.call (.ref fa) ⟨[.ref a], []⟩) (fun r s2 => r = .ok (.ret (.bool true)) ∧ OldK s1.heap s2.heap ∧ s2.os = s1.os ∧ PyProof.Rows.AllBare s2.gens) s1 := by
  have vs := vals_ints hi
  have lenV := hi.length
  cases hk : K.lookup a with
  | some o =>
    have e := kIn a o hk
    rw [ha] at e
    cases e
    refine lawG0 (H := fun _ => none) kIn ng nb bb noLim noGen rfl ha vs hn hn2 hz hr h hb hF (.inr ⟨_, us.toArray, _, hk, rfl, rfl, rfl, ?_, by simpa using vs⟩) fun e => by cases e
    rw [List.size_toArray, lenV]; exact Nat.le_trans hn hn2
  | none =>
    refine lawG0 (H := fun b => if b = a then some (.frz { cls := .type "list", data := .seq us.toArray } (.lst (ns.map V.int))) else none) kIn ng nb bb noLim noGen rfl ha vs hn hn2 hz hr h hb hF (.inl (.inr ⟨_, if_pos rfl⟩)) fun {b u} e => ?_
    by_cases q : b = a
    · subst q
      rw [if_pos rfl] at e; cases e
      exact ⟨rfl, rfl, hk⟩
    · rw [if_neg q] at e; cases e
/-- .. as the head's end wants it -/
theorem walkG {l : PySem.W.OpenLaw} {n k : Nat} {q : Program} {loose : List Str} {XP : (Str → Option Value) → Heap → Prop} {YP : World → Heap → Prop} {d : DefRec} {x : Str}
    (hn : l.most = some n) (hn2 : n ≤ sizeLine) (hdf : d.params.defaults = []) (hr : Room k callerA)
    (F : ∀ (w : World) (mg : Str → Option Value) (fa : Addr) (h : Heap), YP w h → h.Ns mainGlobals mg → mg d.name = some (.ref fa) →
      ∃ (K : PySem.W.Frag) (fd : FuncData) (Fd : DC), K.In h ∧ (∀ (s : Shared) (u : Value), BindsTo s fd ⟨[u], []⟩ [(x, u)]) ∧ LawD n Fd ∧
        ∀ base : Heap, K.In base → base.Ns mainGlobals mg → FnG l.prog w K mg base k fa fd [x] Fd) :
    PySem.W.WalkO q loose XP YP l.row.toRowW d [] (fun f vs => PySem.call f vs) := by
  refine Att.attach_callB hn hdf fun w s0 s1 mg mb fa o pm cd doc a us ns G Y ho hd hcd hmg hobj hints hlen hbits hg => ?_
  obtain ⟨K, fd, Fd, kIn, hb, hL, hF⟩ := F w mg fa _ Y G.T.g hmg
  exact lawG kIn G.T.g G.T.b G.T.builtins G.T.nolimit hg hobj hints hlen hn2 hbits hr hF hb hL
end Pd
end
section
namespace Pd
open PySem PySem.Spec L2 StX
/-! ### starred items -/
def stL (f : DE) (g : DL) : DL := fun sl μ => bindR (f sl μ) fun d μ1 => match seqOf μ1 d with
  | some xs => bindR (g sl μ1) fun es μ2 => ok (xs ++ es) μ2
  | none => none
section
variable {X : Cx} {W : WX} {e : Expr} {es : List Expr} {fe : DE} {fl : DL} {p pos p2 p3 : Pos}
theorem pad_star (he : PE X e (TD X.K W fe)) (hr : PA X es (TDs X.K W fl)) (hs : starEach (.Starred e p :: es) X.env = (true, eval e X.env) :: starEach es X.env := by rfl) : PA X (.Starred e p :: es) (TDs X.K W (stL fe fl)) :=
  PA_imp (pa_star he hr hs) fun σ H Q h => (T.bindV h).imp fun v H1 ⟨d, G, m, μ, sl, wf, rs, r, o⟩ => by
    split at o
    · rename_i xs e2
      obtain ⟨a, vs, rfl, q, l⟩ := seqOf_rep wf e2 r
      refine ⟨a, vs, rfl, q.symm, G, m, μ, sl, wf, rs, rfl, (okA.bind (rep := repL X.K) o).imp fun ws H2 ⟨ds, G2, m2, μ2, wf2, st2, l2, o2⟩ => ?_⟩
      exact okA.get (a := xs ++ ds) o2 wf2 ((st2.repL l).app l2)
    · exact o.elim
end
/-! ### xs[::-1] -/
def revL (f : DE) : DE := fun sl μ => bindR (f sl μ) fun d μ1 => match lstOf μ1 d with
  | some ds => ok (.lst ds.reverse) μ1
  | none => none
section
variable {X : Cx} {W : WX} {e : Expr} {fe : DE} {p1 p2 p3 pos : Pos} {k : Nat}
theorem pef_rev (he : PE X e (TD X.K W fe)) : PE X (.Subscript e (.Slice none none (some (.UnaryOp .USub (.Constant (.int 1) k p1) p2)) p3) pos) (TF X.K W (revL fe)) :=
  PE_imp (pe_revL he) fun σ H Q h => (TFs.bindD h.s).imp fun v H1 ⟨d, G, m, μ, sl, wf, rs, ⟨w1, l1, e1, r, e2⟩, o⟩ => by
    cases e1; cases e2
    dsimp only at o
    split at o
    · rename_i ds e2
      obtain ⟨a, vs, rfl, q, l⟩ := lstOf_rep wf e2 r
      exact ⟨a, vs, rfl, q, okF.lst o wf l.rev⟩
    · exact o.elim
end
/-! ### a list that changes no more: as data -/
def frzD (f : DE) : DE := fun sl μ => bindR (f sl μ) fun d μ1 => match d with
  | .ref l => match μ1[l]? with
    | some (some (.lst ds)) => ok (.lst ds) (μ1.set l none)
    | _ => none
  | _ => none
theorem frz_imp {K : PySem.W.Frag} {W : WX} {f : DE} (σ : L2.St) (H : Hp) (Q : VK) (h : TD K W (frzD f) σ H Q) : TD K W f σ H Q :=
  (T.bindV h).imp fun v H1 ⟨d, G, m, μ, sl, wf, rs, r, o⟩ => by
    split at o
    · rename_i l
      split at o
      · rename_i ds e
        obtain ⟨a, rfl, h2, g, vs, hq, rl⟩ := wf.live_get e r
        refine o (.ref a) H1 (upd G a (.lst vs)) m (wf.frozen e h2 hq) (Step.frozen wf e h2) ⟨a, vs, rfl, .inl (.inl upd_same), ?_⟩
        exact rl.laid g
      · exact o.elim
    · exact o.elim
theorem ped_frz {X : Cx} {W : WX} {e : Expr} {f : DE} (h : PE X e (TD X.K W f)) : PE X e (TD X.K W (frzD f)) := PE_imp h frz_imp
/-! ### {k: v, ..} -/
/-- the pairs, from the left -/
def pairD : List (DE × DE) → Sl → Mu → R (List (Key × D))
  | [], _, μ => ok [] μ
  | (fk, fv) :: r, sl, μ => bindR (fk sl μ) fun x μ1 => bindR (fv sl μ1) fun y μ2 => match keyOf x with
    | some k => bindR (pairD r sl μ2) fun ps μ3 => ok ((k, y) :: ps) μ3
    | none => none
def mergD : List Key → List D → List (Key × D) → List Key × List D
  | ks, xs, [] => (ks, xs)
  | ks, xs, (k, y) :: ps => mergD (putKs ks k) (putXs ks xs k y) ps
def dispD (ps : List (DE × DE)) : DE := fun sl μ => bindR (pairD ps sl μ) fun qs μ1 => if qs.length ≤ 15 then ok (.dic (mergD [] [] qs).1 (mergD [] [] qs).2) μ1 else none
theorem merg_rep {K : PySem.W.Frag} {G : Hp} {m : List Addr} : ∀ (qs : List (Key × D)) (us : List V) (ks : List Key) (xs : List D) (vs : List V), RepL K G m (qs.map (·.2)) us → ks.length = xs.length → RepL K G m xs vs →
    ∃ ws, mergeK (ks.zip vs) ((qs.map (·.1)).zip us) = (mergD ks xs qs).1.zip ws ∧ (mergD ks xs qs).1.length = (mergD ks xs qs).2.length ∧ RepL K G m (mergD ks xs qs).2 ws
  | [], us, ks, xs, vs, r, h, l => by
    cases r
    exact ⟨vs, rfl, h, l⟩
  | (k, y) :: qs, us, ks, xs, vs, r, h, l => by
    obtain ⟨v, us', rfl, r1, r2⟩ := r
    have hl : ks.length = vs.length := by rw [l.length]; exact h
    obtain ⟨ws, e1, e2, e3⟩ := merg_rep qs us' (putKs ks k) (putXs ks xs k y) (putXs ks vs k v) r2 (putLen h k y) (put_rep k r1 l)
    refine ⟨ws, ?_, e2, e3⟩
    show mergeK (putK (ks.zip vs) k v) ((qs.map (·.1)).zip us') = _
    rw [putK_zip k v ks vs hl]
    exact e1
section
variable {X : Cx} {W : WX} {pos : Pos}
/-- the pairs' rules -/
inductive Prs (X : Cx) (W : WX) (pos : Pos) : List (Option Expr) → List Expr → List (DE × DE) → Prop
  | nil : Prs X W pos [] [] []
  | cons {k v : Expr} {ks : List (Option Expr)} {vs : List Expr} {fk fv : DE} {ps : List (DE × DE)} : PE X k (TD X.K W fk) → PE X v (TD X.K W fv) → Prs X W pos ks vs ps → Prs X W pos (some k :: ks) (v :: vs) ((fk, fv) :: ps)
theorem Prs.pps {ks : List (Option Expr)} {vs : List Expr} {ps : List (DE × DE)} (h : Prs X W pos ks vs ps) : PPs X pos ks vs (ps.map fun p => (TD X.K W p.1, TD X.K W p.2)) := by
  induction h with
  | nil => exact pps_nil
  | cons h1 h2 h3 ih => exact pps_cons h1 h2 ih
theorem pair_imp {K : PySem.W.Frag} {W : WX} {p : Addr} {σ : L2.St} {H0 G0 : Hp} {m0 : List Addr} {μ0 : Mu} : ∀ (ps : List (DE × DE)) (Q : List (V × V) → Hp → Prop) (H G : Hp) (m : List Addr) (μ : Mu) (sl : Sl) (k : List (Key × D) → Mu → R D) (Qd : VK),
    Wf K H G m μ → RepS K G m sl σ → Hid K H G m μ p (.dK []) → Step H0 G0 m0 μ0 H G m μ →
    okF K W σ H0 G0 m0 μ0 (bindR (pairD ps sl μ) k) Qd → 
    (∀ qs us H' G' m' μ', Wf K H' G' m' μ' → Hid K H' G' m' μ' p (.dK []) → Step H G m μ H' G' m' μ' → RepL K G' m' (qs.map (·.2)) us → okF K W σ H0 G0 m0 μ0 (k qs μ') Qd → Q ((qs.map fun q => kV q.1).zip us) H') →
    tPairs (ps.map fun p => (TD K W p.1, TD K W p.2)) σ H Q := by
  intro ps
  induction ps with
  | nil =>
    intro Q H G m μ sl k Qd wf rs hd st o fin
    exact fin [] [] H G m μ wf hd Step.refl rfl o
  | cons q ps ih =>
    intro Q H G m μ sl k Qd wf rs hd st o fin
    obtain ⟨fk, fv⟩ := q
    unfold pairD at o
    refine ⟨G, m, μ, sl, wf, rs, rfl, ?_⟩
    show okA (repV K) K W σ H G m μ (fk sl μ) _
    revert o
    cases fk sl μ with
    | none => exact fun z => z.elim
    | some q1 =>
      cases q1 with
      | exc x μ1 => exact fun o c dd H' G' m' wf' st' e => o c dd H' G' m' wf' (st.trans st') e
      | ok dx μ1 =>
        intro o vx H1 G1 m1 wf1 st1 rx
        refine ⟨G1, m1, μ1, sl, wf1, st1.repS rs, rfl, ?_⟩
        show okA (repV K) K W σ H1 G1 m1 μ1 (fv sl μ1) _
        dsimp only [bindR] at o
        revert o
        cases fv sl μ1 with
        | none => exact fun z => z.elim
        | some q2 =>
          cases q2 with
          | exc x μ2 => exact fun o c dd H' G' m' wf' st' e => o c dd H' G' m' wf' ((st.trans st1).trans st') e
          | ok dy μ2 =>
            intro o vy H2 G2 m2 wf2 st2 ry
            dsimp only [bindR] at o
            cases ek : keyOf dx with
            | none => rw [ek] at o; exact o.elim
            | some kk =>
              rw [ek] at o
              have evx := keyOf_rep ek rx
              refine ih _ H2 G2 m2 μ2 sl (fun qs μ' => k ((kk, dy) :: qs) μ') Qd wf2 ((st1.trans st2).repS rs) (hd.step (st1.trans st2)) (st.trans (st1.trans st2)) ?_ fun qs us H' G' m' μ' wf' hd' st' l' o' => ?_
              · have o : okF K W σ H0 G0 m0 μ0 (bindR (bindR (pairD ps sl μ2) fun ps μ3 => ok ((kk, dy) :: ps) μ3) k) Qd := o
                revert o
                cases pairD ps sl μ2 with
                | none => exact fun z => z
                | some q3 => cases q3 <;> exact fun z => z
              · subst evx
                exact fin ((kk, dy) :: qs) (vy :: us) H' G' m' μ' wf' hd' ((st1.trans st2).trans st') ⟨vy, us, rfl, st'.repV ry, l'⟩ o'
theorem zip_map {qs : List (Key × D)} {us : List V} : ((qs.map fun q => kV q.1).zip us) = ((qs.map (·.1)).zip us).map fun kv => (kV kv.1, kv.2) := by
  rw [List.zip_map_left, List.zip_map_left, List.map_map]
  rfl
theorem disp_imp {ps : List (DE × DE)} (σ : L2.St) (H : Hp) (Q : VK) (h : TF X.K W (dispD ps) σ H Q) : tDisp (ps.map fun p => (TD X.K W p.1, TD X.K W p.2)) σ H Q := by
  obtain ⟨G, m, μ, sl, wf, rs, o⟩ := h
  intro p hp
  refine pair_imp (K := X.K) (W := W) (p := p) (H0 := H) (G0 := G) (m0 := m) (μ0 := μ) ps _ (upd H p (.dK [])) G m μ sl _ Q (wf.hid hp) rs ⟨wf.gnone hp, wf.dead hp, upd_same⟩ (Step.hid hp) o fun qs us H' G' m' μ' wf' hd' st' l' o' => ?_
  split at o'
  · rename_i hz
    refine ⟨hd'.h, (qs.map (·.1)).zip us, zip_map, ?_, ?_⟩
    · rw [List.length_zip, List.length_map, l'.length, List.length_map, Nat.min_self]; exact hz
    · obtain ⟨ws, e1, e2, e3⟩ := merg_rep qs us [] [] [] l' rfl rfl
      have e1 : mergeK [] ((qs.map (·.1)).zip us) = (mergD [] [] qs).1.zip ws := e1
      rw [e1]
      have st0 : Step H G m μ (del H' p) G' m' μ' := ((Step.hid hp).trans st').del hp
      have := o' p ws (del H' p) G' m' (wf'.del hd'.g hd'.nl) st0 del_same e2 e3
      have eu : ∀ o, upd (del H' p) p o = upd H' p o := fun o => by
        funext a
        by_cases e : a = p
        · subst e; rw [upd_same, upd_same]
        · rw [upd_ne e, upd_ne e, del_ne e]
      rw [eu] at this
      exact this
  · exact o'.elim
theorem pef_disp {ks : List (Option Expr)} {vs : List Expr} {ps : List (DE × DE)} (h : Prs X W pos ks vs ps) (hall : ks.all (·.isSome) = true) (hl : ks.length = vs.length) (h0 : ks ≠ []) (h15 : ks.length ≤ 15) : PE X (.Dict ks vs pos) (TF X.K W (dispD ps)) :=
  PE_imp (pe_disp h.pps hall hl h0 h15) disp_imp
end
end Pd
end
section
namespace Pd
open PySem PySem.Spec L2
/-! ### times -/
theorem op_repX {X : Cx} : OpR X (binaryOp .Mult) (fun x y H Q => ∃ l k xs, x = .ref l ∧ y = .int k ∧ SqL X.K H l xs ∧ -(2 ^ 63) ≤ k ∧ k < 2 ^ 63 ∧ xs.length * k.toNat ≤ sizeLine ∧ ∀ p, H p = none → Q (.ref p) (upd H p (.lst (List.replicate k.toNat xs).flatten))) := by
  intro pins s σ H x y v u Q I rx ry ⟨l, k, xs, ex, ey, h1, ha, hb, hz, q⟩
  subst ex; subst ey
  cases rx
  obtain ⟨tk, rfl⟩ := ry
  obtain ⟨is, r1, ⟨⟨c1, d1, t1, sl1⟩, n1, o1, k1, _, g1⟩, _⟩ := I.list h1
  simp only at k1 g1
  subst k1 g1
  have hl1 := r1.length
  have z2 : is.toArray.size * k.toNat ≤ sizeLine := by rw [List.size_toArray, ← hl1]; exact hz
  have zs := sizeLine_eq
  refine wpAny_binaryOp_repeat_ref (T := "list") (U := "int") (by decide) ⟨_, o1, rfl⟩ (fun s' => typeIs_int s' k tk) noFill_list_mul PySem.F.fills_int_mul PySem.F.slot_int_rmul repeat_list PySem.F.slot_int_index.lookup
    (call_meets PySem.F.slot_int_rmul (typeIs_int s k tk) PySem.F.entry_int_rmul (PySem.F.args_int_rmul_2 _ _) (lm_int_rmul_list_any k tk l is.toArray n1 d1 sl1)
      ⟨o1, rfl, ⟨_, o1, rfl⟩, call_meets PySem.F.slot_list_mul ⟨_, o1, rfl⟩ PySem.F.entry_list_mul (PySem.F.args_list_mul_2 _ _)
        (lm_list_mul_any l is.toArray n1 d1 sl1 k tk (by simp [Builtin.List.listFitsIndex]; omega) (by omega) (by simp [Builtin.List.listTooLong]; omega)) ⟨o1, ?_⟩⟩)
  rw [PyProof.Rows.listMul_foldl_if]
  exact ⟨.ref _, _, I.lnew (t' := s.toks) (r1.rep k.toNat) (by rw [PyProof.Rows.lm_len_rep_flat, Nat.mul_comm]; exact hz), rfl, q _ I.fresh⟩
theorem tup_mul_same (l : Addr) (items : Array Value) (n : Nat) (dd : Option Addr) (sl : Array (Option Value)) (x : Int) (u : Tok) (c0 : (decide (x < -(2 ^ 63)) || decide (x ≥ 2 ^ 63)) = false) (c1 : (items.isEmpty || x == 1) = true) :
    Meets (Builtin.«tuple.__mul__» ⟨[.ref l, .int x u], []⟩) (fun _ R s => s.heap.get? l = some { cls := .type "tuple", dict := dd, data := .seq items n, slots := sl } ∧ R (.ok (.ret (Value.ref l))) s) :=
  .of_wp fun prog w A R s h => by
    obtain ⟨hp, g, d, tk, os⟩ := s
    obtain ⟨hl, h⟩ := h
    have f1 := AutoSeq1.idx_int
    wp_walk using PySem.AutoSeq1.wpAny_loadPart' hl
    repeat (first
      | (refine wpAny_ite_false (decide_eq_false (by rw [c0]; exact Bool.false_ne_true)) ?_; wp_walk using PySem.AutoSeq1.wpAny_loadPart' hl)
      | (refine wpAny_ite_true (decide_eq_true (by rw [c1])) ?_; wp_walk using PySem.AutoSeq1.wpAny_loadPart' hl))
    exact ⟨_, rfl, h⟩
theorem tup_mul_none (l : Addr) (items : Array Value) (n : Nat) (dd : Option Addr) (sl : Array (Option Value)) (x : Int) (u : Tok) (c0 : (decide (x < -(2 ^ 63)) || decide (x ≥ 2 ^ 63)) = false) (c1 : (items.isEmpty || x == 1) = false) (c2 : (decide (x ≤ 0) || items.isEmpty) = true) :
    Meets (Builtin.«tuple.__mul__» ⟨[.ref l, .int x u], []⟩) (fun _ R s => s.heap.get? l = some { cls := .type "tuple", dict := dd, data := .seq items n, slots := sl } ∧ R (.ok (.ret (Value.ref s.heap.objs.size))) { s with heap := s.heap.push { cls := Value.type "tuple", data := Data.seq #[] } }) :=
  .of_wp fun prog w A R s h => by
    obtain ⟨hp, g, d, tk, os⟩ := s
    obtain ⟨hl, h⟩ := h
    have f1 := AutoSeq1.idx_int
    wp_walk using PySem.AutoSeq1.wpAny_loadPart' hl
    repeat (first
      | (refine wpAny_ite_false (decide_eq_false (by rw [c0]; exact Bool.false_ne_true)) ?_; wp_walk using PySem.AutoSeq1.wpAny_loadPart' hl)
      | (refine wpAny_ite_false (decide_eq_false (by rw [c1]; exact Bool.false_ne_true)) ?_; wp_walk using PySem.AutoSeq1.wpAny_loadPart' hl)
      | (refine wpAny_ite_true (decide_eq_true (by rw [c2])) ?_; wp_walk using PySem.AutoSeq1.wpAny_loadPart' hl))
    exact ⟨_, rfl, h⟩

def rMulT (K : PySem.W.Frag) : R2 := fun x y H Q => ∃ l k xs, x = .ref l ∧ y = .int k ∧ SqT K H l xs ∧ -(2 ^ 63) ≤ k ∧ k < 2 ^ 63 ∧ ((xs = [] ∨ k = 1) ∧ Q (.ref l) H ∨ (xs ≠ [] ∧ k ≤ 0) ∧ ∀ p, H p = none → Q (.ref p) (upd H p (.tup [])))
theorem op_mulT {X : Cx} : OpR X (binaryOp .Mult) (rMulT X.K) := by
  intro pins s σ H x y v u Q I rx ry ⟨l, k, xs, ex, ey, h1, ha, hb, q⟩
  subst ex; subst ey
  cases rx
  obtain ⟨tk, rfl⟩ := ry
  obtain ⟨is, r1, ⟨⟨c1, d1, t1, sl1⟩, o1, k1, n1, g1⟩, hz⟩ := I.tuple h1
  simp only at k1 g1
  subst k1 g1
  have hl := r1.length
  have c0 : (decide (k < -(2 ^ 63)) || decide (k ≥ 2 ^ 63)) = false := by
    rw [decide_eq_false (by omega), decide_eq_false (by omega)]; rfl
  have hem : is.toArray.isEmpty = decide (xs = []) := by
    cases is with
    | nil => cases xs with
      | nil => rfl
      | cons _ _ => simp at hl
    | cons _ _ => cases xs with
      | nil => simp at hl
      | cons _ _ => simp
  refine wpAny_binaryOp_repeat_ref (T := "tuple") (U := "int") (by decide) ⟨_, o1, rfl⟩ (fun s' => typeIs_int s' k tk) noFill_tuple_mul PySem.F.fills_int_mul PySem.F.slot_int_rmul repeat_tuple PySem.F.slot_int_index.lookup
    (call_meets PySem.F.slot_int_rmul (typeIs_int s k tk) PySem.F.entry_int_rmul (PySem.F.args_int_rmul_2 _ _) (int_rmul_tuple k tk l is.toArray n1 d1 sl1) ⟨o1, rfl, ⟨_, o1, rfl⟩, ?_⟩)
  rcases q with ⟨hk, q⟩ | ⟨⟨hne, hk⟩, q⟩
  · refine call_meets PySem.F.slot_tuple_mul ⟨_, o1, rfl⟩ PySem.F.entry_tuple_mul (PySem.F.args_tuple_mul_2 _ _) (tup_mul_same l is.toArray n1 d1 sl1 k tk c0 ?_) ⟨o1, .ref l, H, I, rfl, q⟩
    rw [hem]
    rcases hk with h | h
    · simp [h]
    · simp [h]
  · refine call_meets PySem.F.slot_tuple_mul ⟨_, o1, rfl⟩ PySem.F.entry_tuple_mul (PySem.F.args_tuple_mul_2 _ _) (tup_mul_none l is.toArray n1 d1 sl1 k tk c0 ?_ ?_) ⟨o1, .ref s.heap.objs.size, _, I.laid (t' := s.toks) (o := .tup []) (fun b ob q => Heap.get?_push_of_some _ q) (Nat.le_refl _) ?_, rfl, q _ (I.hok.fresh (Nat.le_refl _))⟩
    · rw [hem, decide_eq_false hne, Bool.false_or]; exact beq_eq_false_iff_ne.mpr (by omega)
    · rw [decide_eq_true hk]; rfl
    · exact ⟨Nat.zero_le _, [], .nil, PyProof.Rows.IsTup.new _ _⟩
def mulL2 : D2 := fun x y μ => match lstOf μ x, y with
  | some ds, .int k => if -(2 ^ 63) ≤ k ∧ k < 2 ^ 63 ∧ ds.length * k.toNat ≤ sizeLine then ok (.lst (List.replicate k.toNat ds).flatten) μ else none
  | _, _ => none
def mulT : D2 := fun x y μ => match x, y with
  | .tup ds, .int k => if -(2 ^ 63) ≤ k ∧ k ≤ 1000 ∧ ds.length ≤ 1000 then ok (.tup (List.replicate k.toNat ds).flatten) μ else none
  | _, _ => none
def mulD : D2 := fun x y μ => match x with
  | .int _ => mulI x y μ
  | .tup _ => mulT x y μ
  | _ => mulL2 x y μ
section
variable {X : Cx} {W : WX}
theorem od_mulL : OpD X W (binaryOp .Mult) mulL2 := .mk op_repX fun dx dy vx vy σ H G m μ Q wf rx ry o => by
  unfold mulL2 at o
  split at o
  · rename_i ds k e
    split at o
    · rename_i hz
      obtain ⟨a, vs, rfl, q, l⟩ := lstOf_rep wf e rx
      refine ⟨a, k, vs, rfl, ry, q, hz.1, hz.2.1, by rw [l.length]; exact hz.2.2, fun p hp => ?_⟩
      exact o (.ref p) _ (upd G p (.lst _)) m (wf.laid hp) (Step.laid wf hp) ⟨p, _, rfl, .inl (.inl upd_same), (l.rep k.toNat).laid (wf.gnone hp)⟩
    · exact o.elim
  · exact o.elim
theorem od_mulT : OpD X W (binaryOp .Mult) mulT := .mk (OpR.or op_mulT op_repT) fun dx dy vx vy σ H G m μ Q wf rx ry o => by
  unfold mulT at o
  split at o
  · rename_i ds k
    split at o
    · rename_i hz
      have rx0 := rx
      obtain ⟨a, vs, rfl, q, l⟩ := rx
      have q := wf.sub.sqT q
      have hl := l.length
      by_cases hk : ds = [] ∨ k = 1
      · have e : (List.replicate k.toNat ds).flatten = ds := by
          rcases hk with h | h
          · subst h; simp [PyProof.Rows.lm_rep_nil]
          · subst h; simp
        rw [e] at o
        refine .inl ⟨a, k, vs, rfl, ry, q, hz.1, by omega, .inl ⟨hk.imp (fun h => ?_) fun h => h, okA.get (a := D.tup ds) o wf rx0⟩⟩
        subst h; cases l; rfl
      · have h1 : ds ≠ [] := fun h => hk (.inl h)
        have h2 : k ≠ 1 := fun h => hk (.inr h)
        have h3 : vs ≠ [] := fun h => by subst h; cases ds with
          | nil => exact h1 rfl
          | cons _ _ => simp at hl
        by_cases hk0 : k ≤ 0
        · have e : (List.replicate k.toNat ds).flatten = [] := by rw [show k.toNat = 0 by omega]; rfl
          rw [e] at o
          exact .inl ⟨a, k, vs, rfl, ry, q, hz.1, by omega, .inr ⟨⟨h3, hk0⟩, fun p hp => o (.ref p) _ (upd G p (.tup [])) m (wf.laid hp) (Step.laid wf hp) ⟨p, [], rfl, .inl (.inl upd_same), rfl⟩⟩⟩
        · exact .inr ⟨a, k, vs, rfl, ry, q, h3, by omega, hz.2.1, by omega, fun p hp => o (.ref p) _ (upd G p (.tup _)) m (wf.laid hp) (Step.laid wf hp) ⟨p, _, rfl, .inl (.inl upd_same), (l.rep k.toNat).laid (wf.gnone hp)⟩⟩
    · exact o.elim
  · exact o.elim
def isIntD : D → Bool
  | .int _ => true
  | _ => false
theorem od_mul : OpD X W (binaryOp .Mult) mulD := by
  refine (OpD.or (fun x _ _ => isIntD x) od_mulI (OpD.or (fun x _ _ => isT x) od_mulT od_mulL)).imp fun x y μ => .inl ?_
  cases x <;> rfl
/-- a list times: a new list -/
theorem pef_mul {a b : Expr} {fa fb : DE} {pos : Pos} (ha : PE X a (TD X.K W fa)) (hb : PE X b (TD X.K W fb)) : PE X (.BinOp a .Mult b pos) (TF X.K W (binD mulL2 fa fb)) :=
  PE_imp (pe_op op_repX ha hb) fun σ H Q h => (TFs.bindD h.s).imp fun v H1 ⟨d, h1⟩ => (TFs.bindD h1).imp fun v2 H2 ⟨d2, G, m, μ, sl, wf, rs, ⟨w1, l1, e1, r2, w2, l2, e2, r1, e3⟩, o⟩ => by
    cases e1; cases e2
    dsimp only at o
    unfold mulL2 at o
    split at o
    · rename_i ds k e
      split at o
      · rename_i hz
        obtain ⟨a, vs, rfl, q, l⟩ := lstOf_rep wf e r1
        exact ⟨a, k, vs, rfl, r2, q, hz.1, hz.2.1, by rw [l.length]; exact hz.2.2, okF.lst o wf (l.rep k.toNat)⟩
      · exact o.elim
    · exact o.elim
end
end Pd
end
section
namespace Pd
open PySem PySem.Spec L2
/-! ### rules with their side conditions found -/
section
variable {X : Cx} {W : WX} {k : Nat} {pos p p2 p3 apos cpos : Pos} {a b c e o : Expr} {fa fb fc fe fo : DE} {es : List Expr} {fl : DL} {x : Str}
theorem Ctx.u64 (c : Ctx k W X) : X.A.units + 64 < cLine := by have := c.room.un; omega
theorem Ctx.u65 (c : Ctx k W X) : X.A.units + 65 < cLine := by have := c.room.un; omega
theorem Ctx.u1 (c : Ctx k W X) : X.A.units + 1 < cLine := by have := c.room.un; omega
theorem eV (i : Nat) (hN : X.N[i]? = some x := by rfl) (hv : Vis X.env.scope x := by first | exact .inl rfl | exact .inr (.inl rfl) | exact .inr (.inr rfl)) (hd : (x == ("__debug__" : Str)) = false := by decide) (hcd : (x == ("__classdict__" : Str)) = false := by decide) :
    PE X (.Name x pos) (TD X.K W (varD i)) := ped_var hN hv hd hcd
/-- a module's number, text -/
theorem eGI {i : Int} (hm : ∃ t, X.mg x = some (.int i t)) (hg : Gl X x := by rfl) (hd : (x == ("__debug__" : Str)) = false := by decide) : PE X (.Name x pos) (TD X.K W (cD (.int i))) :=
  let ⟨t, h⟩ := hm
  ped_glob (v := .int i) hg h ⟨t, rfl⟩ (fun _ _ => rfl) hd
theorem eGS {z : Str} (hm : ∃ t, X.mg x = some (.str z t)) (hg : Gl X x := by rfl) (hd : (x == ("__debug__" : Str)) = false := by decide) : PE X (.Name x pos) (TD X.K W (cD (.str z))) :=
  let ⟨t, h⟩ := hm
  ped_glob (v := .str z) hg h ⟨t, rfl⟩ (fun _ _ => rfl) hd
theorem eEq (c : Ctx k W X) (ha : PE X a (TD X.K W fa)) (hb : PE X b (TD X.K W fb)) (hm : behindInMarks .Eq b = false := by rfl) : PE X (.Compare a [.Eq] [b] pos) (TD X.K W (binD eqD fa fb)) := ped_cmp (od_eq c.u64) ha hb hm
theorem eNe (c : Ctx k W X) (ha : PE X a (TD X.K W fa)) (hb : PE X b (TD X.K W fb)) (hm : behindInMarks .NotEq b = false := by rfl) : PE X (.Compare a [.NotEq] [b] pos) (TD X.K W (binD neD fa fb)) := ped_cmp (od_ne c.u64) ha hb hm
theorem eLt (ha : PE X a (TD X.K W fa)) (hb : PE X b (TD X.K W fb)) (hm : behindInMarks .Lt b = false := by rfl) : PE X (.Compare a [.Lt] [b] pos) (TD X.K W (binD (cmpI fun i j => decide (i < j)) fa fb)) := ped_cmp od_lt ha hb hm
theorem eLe (ha : PE X a (TD X.K W fa)) (hb : PE X b (TD X.K W fb)) (hm : behindInMarks .LtE b = false := by rfl) : PE X (.Compare a [.LtE] [b] pos) (TD X.K W (binD (cmpI fun i j => decide (i ≤ j)) fa fb)) := ped_cmp od_le ha hb hm
theorem eGt (ha : PE X a (TD X.K W fa)) (hb : PE X b (TD X.K W fb)) (hm : behindInMarks .Gt b = false := by rfl) : PE X (.Compare a [.Gt] [b] pos) (TD X.K W (binD (cmpI fun i j => decide (j < i)) fa fb)) := ped_cmp od_gt ha hb hm
theorem eGe (ha : PE X a (TD X.K W fa)) (hb : PE X b (TD X.K W fb)) (hm : behindInMarks .GtE b = false := by rfl) : PE X (.Compare a [.GtE] [b] pos) (TD X.K W (binD (cmpI fun i j => decide (j ≤ i)) fa fb)) := ped_cmp od_ge ha hb hm
theorem eIn (c : Ctx k W X) (ha : PE X a (TD X.K W fa)) (hb : PE X b (TD X.K W fb)) (hm : behindInMarks .In b = false := by rfl) : PE X (.Compare a [.In] [b] pos) (TD X.K W (binD (inD false) fa fb)) := ped_cmp (od_in c.u65) ha hb hm
theorem eNin (c : Ctx k W X) (ha : PE X a (TD X.K W fa)) (hb : PE X b (TD X.K W fb)) (hm : behindInMarks .NotIn b = false := by rfl) : PE X (.Compare a [.NotIn] [b] pos) (TD X.K W (binD (inD true) fa fb)) := ped_cmp (od_notin c.u65) ha hb hm
theorem eIs (ha : PE X a (TD X.K W fa)) (hb : PE X b (TD X.K W fb)) (hm : behindInMarks .Is b = false := by rfl) : PE X (.Compare a [.Is] [b] pos) (TD X.K W (binD isD fa fb)) := ped_cmp od_is ha hb hm
theorem eIsn (ha : PE X a (TD X.K W fa)) (hb : PE X b (TD X.K W fb)) (hm : behindInMarks .IsNot b = false := by rfl) : PE X (.Compare a [.IsNot] [b] pos) (TD X.K W (binD isnotD fa fb)) := ped_cmp od_isnot ha hb hm
/-! tests -/
theorem tEq (c : Ctx k W X) (ha : PE X a (TD X.K W fa)) (hb : PE X b (TD X.K W fb)) (hm : behindInMarks .Eq b = false := by rfl) : PT X (.Compare a [.Eq] [b] pos) (TB X.K W (tstD (binD eqD fa fb))) := ptd_cmp (od_eq c.u64) ha hb hm
theorem tNe (c : Ctx k W X) (ha : PE X a (TD X.K W fa)) (hb : PE X b (TD X.K W fb)) (hm : behindInMarks .NotEq b = false := by rfl) : PT X (.Compare a [.NotEq] [b] pos) (TB X.K W (tstD (binD neD fa fb))) := ptd_cmp (od_ne c.u64) ha hb hm
theorem tLt (ha : PE X a (TD X.K W fa)) (hb : PE X b (TD X.K W fb)) (hm : behindInMarks .Lt b = false := by rfl) : PT X (.Compare a [.Lt] [b] pos) (TB X.K W (tstD (binD (cmpI fun i j => decide (i < j)) fa fb))) := ptd_cmp od_lt ha hb hm
theorem tLe (ha : PE X a (TD X.K W fa)) (hb : PE X b (TD X.K W fb)) (hm : behindInMarks .LtE b = false := by rfl) : PT X (.Compare a [.LtE] [b] pos) (TB X.K W (tstD (binD (cmpI fun i j => decide (i ≤ j)) fa fb))) := ptd_cmp od_le ha hb hm
theorem tGt (ha : PE X a (TD X.K W fa)) (hb : PE X b (TD X.K W fb)) (hm : behindInMarks .Gt b = false := by rfl) : PT X (.Compare a [.Gt] [b] pos) (TB X.K W (tstD (binD (cmpI fun i j => decide (j < i)) fa fb))) := ptd_cmp od_gt ha hb hm
theorem tGe (ha : PE X a (TD X.K W fa)) (hb : PE X b (TD X.K W fb)) (hm : behindInMarks .GtE b = false := by rfl) : PT X (.Compare a [.GtE] [b] pos) (TB X.K W (tstD (binD (cmpI fun i j => decide (j ≤ i)) fa fb))) := ptd_cmp od_ge ha hb hm
theorem tIn (c : Ctx k W X) (ha : PE X a (TD X.K W fa)) (hb : PE X b (TD X.K W fb)) (hm : behindInMarks .In b = false := by rfl) : PT X (.Compare a [.In] [b] pos) (TB X.K W (tstD (binD (inD false) fa fb))) := ptd_cmp (od_in c.u65) ha hb hm
theorem tNin (c : Ctx k W X) (ha : PE X a (TD X.K W fa)) (hb : PE X b (TD X.K W fb)) (hm : behindInMarks .NotIn b = false := by rfl) : PT X (.Compare a [.NotIn] [b] pos) (TB X.K W (tstD (binD (inD true) fa fb))) := ptd_cmp (od_notin c.u65) ha hb hm
theorem tIs (ha : PE X a (TD X.K W fa)) (hb : PE X b (TD X.K W fb)) (hm : behindInMarks .Is b = false := by rfl) : PT X (.Compare a [.Is] [b] pos) (TB X.K W (tstD (binD isD fa fb))) := ptd_cmp od_is ha hb hm
theorem tIsn (ha : PE X a (TD X.K W fa)) (hb : PE X b (TD X.K W fb)) (hm : behindInMarks .IsNot b = false := by rfl) : PT X (.Compare a [.IsNot] [b] pos) (TB X.K W (tstD (binD isnotD fa fb))) := ptd_cmp od_isnot ha hb hm
theorem tTr (ha : PE X a (TD X.K W fa)) (he : ∀ whole, isTrue a X.env whole = (do let v ← whole; standAt a.pos; holding [v] (truthy v)) := by intro _; rfl) : PT X a (TB X.K W (truB fa)) := ptd_tru ha he
/-! built-ins by name -/
theorem eLen (hm : X.mg "len" = none) (ha : PA X (e :: es) (TDs X.K W fl)) (hg : Gl X "len" := by rfl) (he : starEach (e :: es) X.env = (false, eval e X.env) :: starEach es X.env := by rfl) (hpl : (backTo pos (starEach es X.env)).any (·.1) = false := by rfl) : PE X (.Call (.Name "len" p) (e :: es) [] pos) (TD X.K W (callB dcLen fl)) := ped_callB cd_len hg hm (by decide +kernel) ha (by decide) (by decide) he hpl
theorem eAbs (hm : X.mg "abs" = none) (ha : PA X (e :: es) (TDs X.K W fl)) (hg : Gl X "abs" := by rfl) (he : starEach (e :: es) X.env = (false, eval e X.env) :: starEach es X.env := by rfl) (hpl : (backTo pos (starEach es X.env)).any (·.1) = false := by rfl) : PE X (.Call (.Name "abs" p) (e :: es) [] pos) (TD X.K W (callB dcAbs fl)) := ped_callB cd_abs hg hm (by decide +kernel) ha (by decide) (by decide) he hpl
theorem eMax2 (c : Ctx k W X) (hm : X.mg "max" = none) (ha : PA X (e :: es) (TDs X.K W fl)) (hg : Gl X "max" := by rfl) (he : starEach (e :: es) X.env = (false, eval e X.env) :: starEach es X.env := by rfl) (hpl : (backTo pos (starEach es X.env)).any (·.1) = false := by rfl) : PE X (.Call (.Name "max" p) (e :: es) [] pos) (TD X.K W (callB dcMax2 fl)) := ped_callB (cd_max2 c.calm) hg hm (by decide +kernel) ha (by decide) (by decide) he hpl
theorem eMin2 (c : Ctx k W X) (hm : X.mg "min" = none) (ha : PA X (e :: es) (TDs X.K W fl)) (hg : Gl X "min" := by rfl) (he : starEach (e :: es) X.env = (false, eval e X.env) :: starEach es X.env := by rfl) (hpl : (backTo pos (starEach es X.env)).any (·.1) = false := by rfl) : PE X (.Call (.Name "min" p) (e :: es) [] pos) (TD X.K W (callB dcMin2 fl)) := ped_callB (cd_min2 c.calm) hg hm (by decide +kernel) ha (by decide) (by decide) he hpl
theorem eInt (hm : X.mg "int" = none) (ha : PA X (e :: es) (TDs X.K W fl)) (hg : Gl X "int" := by rfl) (he : starEach (e :: es) X.env = (false, eval e X.env) :: starEach es X.env := by rfl) (hpl : (backTo pos (starEach es X.env)).any (·.1) = false := by rfl) : PE X (.Call (.Name "int" p) (e :: es) [] pos) (TD X.K W (callB dcInt fl)) := ped_callTy cd_int hg hm (by decide +kernel) ha (by decide) (by decide) he hpl
theorem eSum (c : Ctx k W X) (hm : X.mg "sum" = none) (ha : PA X (e :: es) (TDs X.K W fl)) (hg : Gl X "sum" := by rfl) (he : starEach (e :: es) X.env = (false, eval e X.env) :: starEach es X.env := by rfl) (hpl : (backTo pos (starEach es X.env)).any (·.1) = false := by rfl) : PE X (.Call (.Name "sum" p) (e :: es) [] pos) (TD X.K W (callB dcSum fl)) := ped_callB (cd_sum c.calm) hg hm (by decide +kernel) ha (by decide) (by decide) he hpl
theorem eAny (c : Ctx k W X) (hm : X.mg "any" = none) (ha : PA X (e :: es) (TDs X.K W fl)) (hg : Gl X "any" := by rfl) (he : starEach (e :: es) X.env = (false, eval e X.env) :: starEach es X.env := by rfl) (hpl : (backTo pos (starEach es X.env)).any (·.1) = false := by rfl) : PE X (.Call (.Name "any" p) (e :: es) [] pos) (TD X.K W (callB dcAny fl)) := ped_callB (cd_any c.calm) hg hm (by decide +kernel) ha (by decide) (by decide) he hpl
theorem eAll (c : Ctx k W X) (hm : X.mg "all" = none) (ha : PA X (e :: es) (TDs X.K W fl)) (hg : Gl X "all" := by rfl) (he : starEach (e :: es) X.env = (false, eval e X.env) :: starEach es X.env := by rfl) (hpl : (backTo pos (starEach es X.env)).any (·.1) = false := by rfl) : PE X (.Call (.Name "all" p) (e :: es) [] pos) (TD X.K W (callB dcAll fl)) := ped_callB (cd_all c.calm) hg hm (by decide +kernel) ha (by decide) (by decide) he hpl
theorem eTuple (hm : X.mg "tuple" = none) (ha : PA X (e :: es) (TDs X.K W fl)) (hg : Gl X "tuple" := by rfl) (he : starEach (e :: es) X.env = (false, eval e X.env) :: starEach es X.env := by rfl) (hpl : (backTo pos (starEach es X.env)).any (·.1) = false := by rfl) : PE X (.Call (.Name "tuple" p) (e :: es) [] pos) (TD X.K W (callB dcTuple fl)) := ped_callTy cd_tuple hg hm (by decide +kernel) ha (by decide) (by decide) he hpl
theorem fList (hm : X.mg "list" = none) (ha : PA X (e :: es) (TDs X.K W fl)) (hg : Gl X "list" := by rfl) (he : starEach (e :: es) X.env = (false, eval e X.env) :: starEach es X.env := by rfl) (hpl : (backTo pos (starEach es X.env)).any (·.1) = false := by rfl) : PE X (.Call (.Name "list" p) (e :: es) [] pos) (TF X.K W (callB dcList fl)) := pef_callTy cf_list hg hm (by decide +kernel) ha (by decide) (by decide) he hpl
/-! methods by name -/
theorem eAppend (ho : PE X o (TD X.K W fo)) (ha : PA X [e] (TDs X.K W fl)) (hbase : attributeBase o "append" X.env (eval o X.env) = eval o X.env := by rfl)
    (hfew : ((backTo cpos (starEach [e] X.env)).all (fun x => !x.1) && (backToKw cpos (keywordEach [] X.env)).all (fun x => x.1.isSome)
      && decide (([e] : List Expr).length + ([] : List Keyword).length + (if ([] : List Keyword).isEmpty then 0 else 1) < 30)) = true := by rfl)
    (hline : (apos.endLine == cpos.line) = true := by rfl) (hs : starEach [e] X.env = (false, eval e X.env) :: starEach [] X.env := by rfl) :
    PE X (.Call (.Attribute o "append" apos) [e] [] cpos) (TD X.K W (methB .lst dmAppend fo fl)) := ped_m (t := .lst) PySem.F.plainAttrs_list PySem.F.slot_list_append PySem.F.type_list_append md_append ho ha hbase hfew hline hs rfl
theorem ePop (ho : PE X o (TD X.K W fo)) (hbase : attributeBase o "pop" X.env (eval o X.env) = eval o X.env := by rfl) (hline : (apos.endLine == cpos.line) = true := by rfl) :
    PE X (.Call (.Attribute o "pop" apos) [] [] cpos) (TD X.K W (meth0 .lst dmPop fo)) := ped_m0 (t := .lst) PySem.F.plainAttrs_list PySem.F.slot_list_pop PySem.F.type_list_pop md_pop ho hbase hline
theorem eIndex (c : Ctx k W X) (ho : PE X o (TD X.K W fo)) (ha : PA X [e] (TDs X.K W fl)) (hbase : attributeBase o "index" X.env (eval o X.env) = eval o X.env := by rfl)
    (hfew : ((backTo cpos (starEach [e] X.env)).all (fun x => !x.1) && (backToKw cpos (keywordEach [] X.env)).all (fun x => x.1.isSome)
      && decide (([e] : List Expr).length + ([] : List Keyword).length + (if ([] : List Keyword).isEmpty then 0 else 1) < 30)) = true := by rfl)
    (hline : (apos.endLine == cpos.line) = true := by rfl) (hs : starEach [e] X.env = (false, eval e X.env) :: starEach [] X.env := by rfl) :
    PE X (.Call (.Attribute o "index" apos) [e] [] cpos) (TD X.K W (methB .lst dmIndex fo fl)) := ped_m (t := .lst) PySem.F.plainAttrs_list PySem.F.slot_list_index PySem.F.type_list_index (md_index c.u65) ho ha hbase hfew hline hs rfl
/-! subscripts -/
theorem eIx (c : Ctx k W X) (ha : PE X a (TD X.K W fa)) (hb : PE X b (TD X.K W fb)) (hs : PlainIx b := by intro _ _; rfl) : PE X (.Subscript a b pos) (TD X.K W (binD ixD fa fb)) := ped_ix c.u1 ha hb hs
/-! targets -/
theorem gN (i : Nat) (hN : X.N.Nodup) (hi : X.N[i]? = some x := by rfl) (hx : Loc X.env.scope x := by first | exact .inl rfl | exact .inr rfl) (hf : X.fn x = true ∨ X.env.scope.names.lookup x = some .local := by first | exact .inl rfl | exact .inr rfl) : PG X (.Name x pos) (TG' X.K (.nm i)) := pgd_name hN hi hx hf
theorem gT {ts : List Tg} {kk : Nat} (c : Ctx k W X) (h : PGs X es (TGs' X.K ts)) (hn : (assignEach es X.env).length = ts.length := by rfl) (hst : (assignEach es X.env).findIdx? (·.1) = none := by rfl) : PG X (.Tuple es kk pos) (TG' X.K (.tp ts)) :=
  pgd_tup c.calm h (fun _ _ _ _ h => bindTs_len h) hn hst
/-! statements -/
theorem sSet (i : Nat) (hN : X.N.Nodup) (he : PE X e (TD X.K W fe)) (hi : X.N[i]? = some x := by rfl) (hx : Loc X.env.scope x := by first | exact .inl rfl | exact .inr rfl) (hf : X.fn x = true ∨ X.env.scope.names.lookup x = some .local := by first | exact .inl rfl | exact .inr rfl)
    (hs : swapsWith e (some (.Name x p)) pos.line X.env = pure false := by rfl) : PS X (.Assign [.Name x p] e pos) (TDS X.K W (asgS fe (.nm i))) := psd_set hN hi hx he hf hs
end
/-! ### defs by name -/
def DefFact (K : PySem.W.Frag) (mg : Str → Option Value) (x : Str) (st : Stmt) : Prop := ∃ f fd, FunD K x x (defArgs st) (defBody st) (defScope st) [] [] f fd ∧ mg x = some (.ref f)
def CalleeG (P : Program) (w : World) (K : PySem.W.Frag) (mg : Str → Option Value) (base : Heap) (x : Str) (k : Nat) (ps : List Str) (F : DC) : Prop :=
  ∃ f fd, FnG P w K mg base k f fd ps F ∧ mg x = some (.ref f) ∧ PySem.W.keepIn K (.ref f) = true ∧ Binds K fd ps []
theorem calleeG {P : Program} {w : World} {K : PySem.W.Frag} {mg : Str → Option Value} {base : Heap} {x : Str} {st : Stmt} {N ps : List Str} {k : Nat} {bD : DS} (d : DefFact K mg x st) (S : FnScope N ps (defScope st))
    (hb : ∀ (kV doc pm : Value) (an : Option Addr) (cdv ct : Value) (us : List Value), us.length = ps.length → bindArgs (PySem.W.fnOf x x (defArgs st) (defBody st) (defScope st) .none kV doc pm an cdv ct) ⟨us, []⟩ = pure (ps.zip us))
    (hbody : ∀ (f : Addr) (cdv : Value) (A : Around) (outer : List Env) (s : Shared) (H : Hp) (E : XK), Ctx k (wE E) (cxOf (L2.CX P w) P w K mg base N x (defScope st) f cdv A outer s H E) → PSs (cxOf (L2.CX P w) P w K mg base N x (defScope st) f cdv A outer s H E) (defBody st) (TDS K (wE E) bD)) :
    CalleeG P w K mg base x (k + 1) ps (bodyR bD N.length) := by
  obtain ⟨f, fd, F, hm⟩ := d
  exact ⟨f, fd, fnG F S fun cdv A outer s H E c => hbody f cdv A outer s H E c, hm, F.kp, F.bindsN hb⟩
theorem eCall {X : Cx} {W : WX} {k k' : Nat} {ps : List Str} {F : DC} {x : Str} {p pos : Pos} {e : Expr} {es : List Expr} {fl : DL} (h : CalleeG X.prog X.w X.K X.mg X.base x k' ps F) (c : Ctx k W X) (ha : PA X (e :: es) (TDs X.K W fl)) (hk : k' ≤ k := by decide) (hg : Gl X x := by rfl)
    (hdb : (x == ("__debug__" : Str)) = false := by decide) (he : starEach (e :: es) X.env = (false, eval e X.env) :: starEach es X.env := by rfl) (hpl : (backTo pos (starEach es X.env)).any (·.1) = false := by rfl) :
    PE X (.Call (.Name x p) (e :: es) [] pos) (TD X.K W (callB (callN ps.length F) fl)) :=
  let ⟨_, _, h1, h2, h3, h4⟩ := h
  ped_call h1 c hk hg h2 h3 h4 ha hdb he hpl
theorem eCall0 {X : Cx} {W : WX} {k k' : Nat} {F : DC} {x : Str} {p pos : Pos} (h : CalleeG X.prog X.w X.K X.mg X.base x k' [] F) (c : Ctx k W X) (hk : k' ≤ k := by decide) (hg : Gl X x := by rfl)
    (hdb : (x == ("__debug__" : Str)) = false := by decide) : PE X (.Call (.Name x p) [] [] pos) (TD X.K W (fun _ μ => F [] μ)) :=
  let ⟨_, _, h1, h2, h3, h4⟩ := h
  ped_call0 h1 c hk hg h2 h3 h4 hdb
end Pd
end
section
namespace Pd
open PySem PySem.Spec L2
section
variable {X : Cx} {W : WX} {k : Nat} {pos p p2 p3 apos cpos : Pos} {a b e o : Expr} {fa fb fc fe fo : DE} {es : List Expr} {fl : DL} {x : Str}
theorem pad_one (he : PE X e (TD X.K W fe)) (hs : starEach [e] X.env = (false, eval e X.env) :: starEach [] X.env := by rfl) : PA X [e] (TDs X.K W (oneL fe)) :=
  PA_imp (pa_cons he pa_nil hs) fun σ H Q h => (T.bindD h).imp fun v H1 ⟨d, G, m, μ, sl, wf, rs, ⟨w1, l1, e1, r1, e2⟩, o⟩ => by
    cases e1; cases e2
    exact okA.get (a := [d]) o wf ⟨v, [], rfl, r1, rfl⟩
/-! name op= e -/
def ipAdd : D2 := int2 (fun _ _ => true) fun i j => .int (i + j)
theorem IpD.int0 {op : Operator} {f : Int → Int → Int} (h : PIp X op (ipI f)) : IpD X W op (int2 (fun _ _ => true) fun i j => .int (f i j)) := ⟨_, h, fun dx dy vx vy σ H G m μ Q wf rx ry o => by
  unfold int2 at o
  split at o
  · rename_i i j
    exact ⟨i, j, rx, ry, okA.get (a := D.int (f i j)) o wf rfl⟩
  · exact o.elim⟩
theorem id_add : IpD X W .Add ipAdd := .int0 ip_add
theorem id_sub : IpD X W .Sub subI := .int0 ip_sub
theorem sAug (i : Nat) {op : Operator} {g : D2} (hN : X.N.Nodup) (he : PE X e (TD X.K W fe)) (ho : IpD X W op g) (hi : X.N[i]? = some x := by rfl) (hx : Loc X.env.scope x := by first | exact .inl rfl | exact .inr rfl) (hf : X.fn x = true ∨ X.env.scope.names.lookup x = some .local := by first | exact .inl rfl | exact .inr rfl) :
    PS X (.AugAssign (.Name x p) op e pos) (TDS X.K W (augS i g fe)) := psd_aug hN hi hx he ho hf
/-! {} -/
def emptyD : DE := fun _ μ => ok (.dic [] []) μ
theorem pef_empty : PE X (.Dict [] [] pos) (TF X.K W emptyD) := PE_imp pe_dnewK fun σ H Q ⟨G, m, μ, sl, wf, rs, o⟩ p hp => o p [] H G m wf Step.refl hp rfl rfl
end
end Pd
end
section
namespace Pd
open PySem PySem.Spec L2
/-! ### repr -/
def rRepr (X : Cx) : List V → Hp → VK → Prop := fun xs H Q => ∃ v d, xs = [v] ∧ Dp X.K H v d ∧ d.showable = true ∧ d.hasDict = false ∧ d.depth ≤ 60 ∧ d.shown.length ≤ sizeLine ∧ Q (.str d.shown) H
theorem cr_repr {X : Cx} (hg : X.A.guards = some []) (hu : X.A.units + 64 < cLine) : CallR X (.builtin "repr") (rRepr X) := by
  intro pins s σ H xs us Q I r ⟨v, d, ex, dp, h1, h2, h3, h4, q⟩
  subst ex
  obtain ⟨u, rfl, ru⟩ := vals1 r
  cases dp with
  | non => cases ru; exact P.repr_of_none ⟨.str (PyData.shown .none), H, I.tok _, ⟨_, rfl⟩, q⟩
  | bl b => cases ru; cases b <;> exact P.repr_of_bool ⟨.str (PyData.shown (.bool _)), H, I.tok _, ⟨_, rfl⟩, q⟩
  | int i =>
    obtain ⟨t, rfl⟩ := ru
    exact P.repr_of_int (by simpa [PyData.showable] using h1) ⟨.str (PyData.shown (.int i)), H, I.tok _, ⟨_, rfl⟩, q⟩
  | str x =>
    obtain ⟨t, rfl⟩ := ru
    exact P.repr_of_str ⟨.str (PyData.shown (.str x)), H, I.tok _, ⟨_, rfl⟩, q⟩ h4
  | lst hs ha =>
    rename_i a vs ds
    obtain rfl : u = Value.ref a := ru
    obtain ⟨as, rd⟩ := Dp.reads I (.list ds) (.ref a) (.ref a) (.lst hs ha) rfl
    exact repr_of_reads' rd h1 (PyData.noDict_hsm h2) hg (by omega) (fun _ _ e => e) (fun h' u tk hk => ⟨.str _, H, I.kept (t' := tk) hk, ⟨u, rfl⟩, q⟩) h4
  | tup hs ha =>
    rename_i a vs ds
    obtain rfl : u = Value.ref a := ru
    obtain ⟨as, rd⟩ := Dp.reads I (.tuple ds) (.ref a) (.ref a) (.tup hs ha) rfl
    exact repr_of_reads' rd h1 (PyData.noDict_hsm h2) hg (by omega) (fun _ _ e => e) (fun h' u tk hk => ⟨.str _, H, I.kept (t' := tk) hk, ⟨u, rfl⟩, q⟩) h4
def dcRepr : DC := fun ds μ => match ds with
  | [d] => match toPy μ 9 d with
    | some e => if e.showable && !e.hasDict && decide (e.depth ≤ 60) && decide (e.shown.length ≤ sizeLine) then ok (.str e.shown) μ else none
    | none => none
  | _ => none
theorem cd_repr {X : Cx} {W : WX} (hg : X.A.guards = some []) (hu : X.A.units + 64 < cLine) : CallD X W (.builtin "repr") dcRepr := ⟨_, cr_repr hg hu, fun ds vs σ H G m μ Q wf rl o => by
  unfold dcRepr at o
  split at o
  · rename_i d
    obtain ⟨v, rfl, r⟩ := repL1 rl
    split at o
    · rename_i e he
      split at o
      · rename_i hz
        simp only [Bool.and_eq_true, Bool.not_eq_true', decide_eq_true_eq] at hz
        exact ⟨v, e, rfl, toPy_dp wf _ _ _ _ he r, hz.1.1.1, hz.1.1.2, hz.1.2, hz.2, okA.get (a := D.str e.shown) o wf rfl⟩
      · exact o.elim
    · exact o.elim
  · exact o.elim⟩
/-! ### sorted of ints -/
def insI (x : Int) : List Int → List Int
  | [] => [x]
  | y :: ys => if x ≤ y then x :: y :: ys else y :: insI x ys
def sortI : List Int → List Int
  | [] => []
  | x :: xs => insI x (sortI xs)
theorem insI_perm (x : Int) : ∀ ys : List Int, (insI x ys).Perm (x :: ys)
  | [] => .refl _
  | y :: ys => by
    unfold insI
    split
    · exact .refl _
    · exact ((insI_perm x ys).cons y).trans (.swap x y ys)
theorem sortI_perm : ∀ xs : List Int, (sortI xs).Perm xs
  | [] => .refl _
  | x :: xs => (insI_perm x _).trans ((sortI_perm xs).cons x)
theorem insI_sorted (x : Int) : ∀ ys : List Int, ys.Pairwise (· ≤ ·) → (insI x ys).Pairwise (· ≤ ·)
  | [], _ => by simp [insI]
  | y :: ys, h => by
    obtain ⟨h1, h2⟩ := List.pairwise_cons.mp h
    unfold insI
    split
    · rename_i hle
      refine List.pairwise_cons.mpr ⟨fun z hz => ?_, h⟩
      rcases List.mem_cons.mp hz with rfl | hz
      · exact hle
      · exact Int.le_trans hle (h1 z hz)
    · rename_i hle
      refine List.pairwise_cons.mpr ⟨fun z hz => ?_, insI_sorted x ys h2⟩
      rcases List.mem_cons.mp ((insI_perm x ys).mem_iff.mp hz) with rfl | hz
      · omega
      · exact h1 z hz
theorem sortI_sorted : ∀ xs : List Int, (sortI xs).Pairwise (· ≤ ·)
  | [] => .nil
  | x :: xs => insI_sorted x _ (sortI_sorted xs)
theorem sorted_unique : ∀ {xs ys : List Int}, xs.Perm ys → xs.Pairwise (· ≤ ·) → ys.Pairwise (· ≤ ·) → xs = ys
  | [], ys, p, _, _ => (List.Perm.nil_eq p)
  | x :: xs, ys, p, h1, h2 => by
    cases ys with
    | nil => exact absurd p (by simp)
    | cons y ys =>
      obtain ⟨a1, a2⟩ := List.pairwise_cons.mp h1
      obtain ⟨b1, b2⟩ := List.pairwise_cons.mp h2
      have e : x = y := by
        have m1 : x ∈ y :: ys := p.mem_iff.mp (List.mem_cons_self ..)
        have m2 : y ∈ x :: xs := p.mem_iff.mpr (List.mem_cons_self ..)
        rcases List.mem_cons.mp m1 with h | h
        · exact h
        · rcases List.mem_cons.mp m2 with h' | h'
          · exact h'.symm
          · have := a1 y h'
            have := b1 x h
            omega
      subst e
      rw [sorted_unique (List.Perm.cons_inv p) a2 b2]
def dcSortI : DC := fun ds μ => match ds with
  | [d] => match (lstOf μ d).bind intsOf with
    | some ns => ok (.lst ((sortI ns).map D.int)) μ
    | none => none
  | _ => none
theorem cf_sortI {X : Cx} {W : WX} : CallF X W (.builtin "sorted") dcSortI := ⟨_, cr_sortedI, fun ds vs σ H G m μ Q wf rl o => by
  unfold dcSortI at o
  split at o
  · rename_i d
    obtain ⟨v, rfl, r⟩ := repL1 rl
    split at o
    · rename_i ns e
      obtain ⟨xs, e1, e2⟩ := lst_bind e
      obtain ⟨a, ws, rfl, q, l⟩ := lstOf_rep wf e1 r
      have := intsOf_rep e2 l
      subst this
      refine ⟨a, ns, rfl, q, fun ns' p hp hs hn => ?_⟩
      have : ns' = sortI ns := sorted_unique (hp.trans (sortI_perm ns).symm) hs (sortI_sorted ns)
      subst this
      exact okF.lst o wf (ints_rep _) p hn
    · exact o.elim
  · exact o.elim⟩
/-! ### x.extend(y) -/
section
open PySem.AutoSeq1 (wpAny_loadPart')
theorem ext_list (l b : Addr) (items items2 : Array Value) (n n2 : Nat) (dd : Option Addr) (sl : Array (Option Value)) (hs0 : ¬(!items.isEmpty && Builtin.List.listTooLong (items.size + items2.size)) = true) (hs1 : items.size ≤ sizeLine) (hs2 : items.size + items2.size ≤ sizeLine + 1) :
    Meets (Builtin.«list.extend» ⟨[.ref l, .ref b], []⟩) (fun _ R s => s.heap.get? l = some { cls := .type "list", dict := none, data := .seq items n, slots := #[] } ∧ s.heap.get? b = some { cls := .type "list", dict := dd, data := .seq items2 n2, slots := sl } ∧ R (.ok (.ret Value.none)) { s with heap := s.heap.update l (Obj.mapSeq fun x => x ++ items2), toks := s.toks }) :=
  .of_wp fun prog w A R s h => by
    obtain ⟨hp, g, d, tk, os⟩ := s; obtain ⟨hl, hb, hh⟩ := h
    have f2 := AutoSeq1.sub_tuple_tuple; have f3 := AutoSeq1.sub_list_list; have f4 := AutoSeq1.sub_tuple_list; have f5 := AutoSeq1.sub_list_tuple
    have hz : (items ++ items2).size ≤ sizeLine + 1 := by rw [Array.size_append]; exact hs2
    wp_walk using (wpAny_updateSeq hl rfl (hz := hs1) (_hz' := hz)), wpAny_loadPart' hl, wpAny_loadPart' hb
    exact ⟨_, rfl, hh⟩
theorem ext_tuple (l b : Addr) (items items2 : Array Value) (n n2 : Nat) (dd : Option Addr) (sl : Array (Option Value)) (hs0 : ¬(!items.isEmpty && Builtin.List.listTooLong (items.size + items2.size)) = true) (hs1 : items.size ≤ sizeLine) (hs2 : items.size + items2.size ≤ sizeLine + 1) :
    Meets (Builtin.«list.extend» ⟨[.ref l, .ref b], []⟩) (fun _ R s => s.heap.get? l = some { cls := .type "list", dict := none, data := .seq items n, slots := #[] } ∧ s.heap.get? b = some { cls := .type "tuple", dict := dd, data := .seq items2 n2, slots := sl } ∧ R (.ok (.ret Value.none)) { s with heap := s.heap.update l (Obj.mapSeq fun x => x ++ items2), toks := s.toks }) :=
  .of_wp fun prog w A R s h => by
    obtain ⟨hp, g, d, tk, os⟩ := s; obtain ⟨hl, hb, hh⟩ := h
    have f2 := AutoSeq1.sub_tuple_tuple; have f3 := AutoSeq1.sub_list_list; have f4 := AutoSeq1.sub_tuple_list; have f5 := AutoSeq1.sub_list_tuple
    have hz : (items ++ items2).size ≤ sizeLine + 1 := by rw [Array.size_append]; exact hs2
    wp_walk using (wpAny_updateSeq hl rfl (hz := hs1) (_hz' := hz)), wpAny_loadPart' hl, wpAny_loadPart' hb
    exact ⟨_, rfl, hh⟩
end
def rExtX (K : PySem.W.Frag) : V → List V → Hp → VK → Prop := fun x vs H Q => ∃ l b xs zs, x = .ref l ∧ vs = [.ref b] ∧ H l = some (.lst xs) ∧ (SqL K H b zs ∨ SqT K H b zs) ∧ xs.length + zs.length ≤ sizeLine ∧ Q .non (upd H l (.lst (xs ++ zs)))
theorem mt_extX {X : Cx} : MtR X "list.extend" (rExtX X.K) := by
  intro pins s σ H x vs v us Q I rx rv ⟨l, b, xs, zs, ex, ev, hH, hB, hz, q⟩
  subst ex; subst ev
  cases rx
  obtain ⟨u, rfl, ru⟩ := rv.one
  cases ru
  obtain ⟨z, its, n, r, hl, e⟩ := I.lstM hH
  have go : ∀ (js : List Value), Vals zs js → wpAny (model X.prog X.w) X.A (call (.builtin "list.extend") [.ref l, .ref b]) (EP X pins σ Q) X.xe s ∨ True := fun _ _ => .inr trivial
  have nl : ∀ js : List Value, Vals zs js → ¬ (!its.toArray.isEmpty && Builtin.List.listTooLong (its.toArray.size + js.toArray.size)) = true := fun js rj => by
    have h2 := rj.length
    have : its.toArray.size + js.toArray.size ≤ sizeLine := by simp only [List.size_toArray]; omega
    rw [notLongL this, Bool.and_false]
    exact Bool.false_ne_true
  have fin : ∀ js : List Value, Vals zs js → EP X pins σ Q Value.none { s with heap := s.heap.update l (Obj.mapSeq fun x => x ++ js.toArray), toks := s.toks } := fun js rj =>
    ⟨.non, _, I.lset (its' := its ++ js) hH e (by simp) (r.append rj) (by simp only [List.length_append]; omega), rfl, q⟩
  rcases hB with hB | hB
  · obtain ⟨js, rj, ⟨⟨c1, d1, t1, sl1⟩, n1, o1, k1, _, g1⟩, _⟩ := I.list hB
    simp only at k1 g1
    subst k1 g1
    have h2 := rj.length
    exact call_meets PySem.F.slot_list_extend ⟨_, e, rfl⟩ PySem.F.entry_list_extend (PySem.F.args_list_extend_2 _ _)
      (ext_list l b its.toArray js.toArray n n1 d1 sl1 (nl js rj) (by simp only [List.size_toArray]; omega) (by simp only [List.size_toArray]; omega)) ⟨e, o1, fin js rj⟩
  · obtain ⟨js, rj, ⟨⟨c1, d1, t1, sl1⟩, o1, k1, n1, g1⟩, _⟩ := I.tuple hB
    simp only at k1 g1
    subst k1 g1
    have h2 := rj.length
    exact call_meets PySem.F.slot_list_extend ⟨_, e, rfl⟩ PySem.F.entry_list_extend (PySem.F.args_list_extend_2 _ _)
      (ext_tuple l b its.toArray js.toArray n n1 d1 sl1 (nl js rj) (by simp only [List.size_toArray]; omega) (by simp only [List.size_toArray]; omega)) ⟨e, o1, fin js rj⟩
def dmExtend : DM := fun x ds μ => match rawL μ x, ds with
  | some (l, xs), [d] => match seqOf μ d with
    | some ys => if xs.length + ys.length ≤ sizeLine then ok .non (setL μ l (xs ++ ys)) else none
    | none => none
  | _, _ => none
theorem md_extend {X : Cx} {W : WX} : MethD X W "list.extend" dmExtend := ⟨_, mt_extX, fun dx ds vx vs σ H G m μ Q wf rx rl o => by
  unfold dmExtend at o
  split at o
  · rename_i l xs d e
    obtain ⟨h1, a, ws, rfl, h2, q, r⟩ := rawL_rep wf e rx
    obtain ⟨v, rfl, rv⟩ := repL1 rl
    split at o
    · rename_i ys e2
      obtain ⟨b, zs, rfl, q2, r2⟩ := seqOf_rep wf e2 rv
      split at o
      · rename_i hz
        exact ⟨a, b, ws, zs, rfl, rfl, q, q2, by rw [r.length, r2.length]; exact hz, o.setL wf h1 h2 (r.app r2) rfl⟩
      · exact o.elim
    · exact o.elim
  · exact o.elim⟩
end Pd
end
section
namespace L2
open PySem PySem.Spec PyProof.Rows

/-- the names of a method that closes over __class__ alone -/
structure SupScope (N P : List Str) (sc : Scope) : Prop where
  kind : sc.kind = .function
  co : sc.isCoroutine = false
  gen : sc.isGenerator = false
  nd : N.Nodup
  pre : N.take P.length = P
  par : ∀ x ∈ P, sc.names.lookup x = some .local
  nocell : ∀ y ∈ sc.names, y.2 ≠ .cell
  free : ∀ y ∈ sc.names, y.2 = .free → y.1 = ("__class__" : Str)
  hsup : sc.names.lookup ("super" : Str) = some .globalImplicit
  hcls : sc.names.lookup ("__class__" : Str) = some .free

def cxS (CX : CXT) (P : Program) (w : World) (K : PySem.W.Frag) (mg : Str → Option Value) (base : Heap) (N : List Str) (qual : Str) (scope : Scope) (f cda cc : Addr) (A : Around) (outer : List Env) (s : Shared) (H : Hp) (E : XK) : Cx where
  prog := P
  w := w
  K := K
  mg := mg
  base := base
  A := A.deeper (PySem.W.ksEnv qual scope s.heap.objs.size f (.ref cda) cc)
  N := N
  s_0 := s
  H_0 := H
  env := PySem.W.ksEnv qual scope s.heap.objs.size f (.ref cda) cc
  outer := outer
  stack := PySem.W.ksEnv qual scope s.heap.objs.size f (.ref cda) cc :: outer
  ex := []
  calm := true
  fn := fun _ => false
  pn := []
  xe := fun e s' => wpAny (model P w) (A.deeper (PySem.W.ksEnv qual scope s.heap.objs.size f (.ref cda) cc)) (leaving (PySem.W.ksEnv qual scope s.heap.objs.size f (.ref cda) cc) e) (fun _ s'' => CX outer H s E e s'') (fun e' s'' => CX outer H s E e' s'') s'

theorem zip_rev_get {x : Str} {u : Value} : ∀ {P : List Str} {us : List Value} {i : Nat}, P.Nodup → P[i]? = some x → us[i]? = some u → (P.zip us).reverse.lookup x = some u := by
  have mem : ∀ {P : List Str} {us : List Value} {i : Nat}, P[i]? = some x → us[i]? = some u → (x, u) ∈ P.zip us := by
    intro P
    induction P with
    | nil => intro us i h; simp at h
    | cons p P ih =>
      intro us i h1 h2
      cases us with
      | nil => simp at h2
      | cons v us =>
        cases i with
        | zero => simp at h1 h2; subst h1; subst h2; simp
        | succ i =>
          simp at h1 h2
          rw [List.zip_cons_cons]
          exact List.mem_cons_of_mem _ (ih h1 h2)
  have key : ∀ (l : List (Str × Value)), (l.map (·.1)).Nodup → (x, u) ∈ l → l.lookup x = some u := by
    intro l
    induction l with
    | nil => intro _ h; cases h
    | cons p l ih =>
      intro nd h
      obtain ⟨a, b⟩ := p
      rw [List.map_cons, List.nodup_cons] at nd
      rcases List.mem_cons.mp h with e | e
      · cases e
        simp [List.lookup]
      · have ne : x ≠ a := by
          rintro rfl
          exact nd.1 (List.mem_map_of_mem (f := (·.1)) e)
        have : (x == a) = false := by simpa using ne
        simp only [List.lookup, this]
        exact ih nd.2 e
  intro P us i nd h1 h2
  refine key _ ?_ (List.mem_reverse.mpr (mem h1 h2))
  rw [List.map_reverse]
  refine List.pairwise_reverse.mpr (List.Pairwise.imp (R := fun a b => a ≠ b) (fun h => Ne.symm h) ?_)
  have : ∀ (P : List Str) (us : List Value), P.Nodup → ((P.zip us).map (·.1)).Nodup := by
    intro P
    induction P with
    | nil => intro us _; simp
    | cons p P ih =>
      intro us nd
      cases us with
      | nil => simp
      | cons v us =>
        rw [List.zip_cons_cons, List.map_cons, List.nodup_cons]
        rw [List.nodup_cons] at nd
        refine ⟨fun z => ?_, ih us nd.2⟩
        obtain ⟨q, hq, e⟩ := List.mem_map.mp z
        have e' : q.1 = p := e
        exact nd.1 (by rw [← e']; exact (List.of_mem_zip (a := q.1) (b := q.2) hq).1)
  exact this P us nd

theorem inv_startS {CX : CXT} {P : Program} {w : World} {K : PySem.W.Frag} {mg : Str → Option Value} {base : Heap} {N ps : List Str} {qual : Str} {scope : Scope} {f cda cc D : Addr} {A : Around} {outer : List Env} {s : Shared} {H : Hp} {E : XK} {us : List Value} {vs : List V} {h1 : Heap} {tk : Nat}
    {cl : Value} {cld : Option Addr} {csl : Array (Option Value)}
    (S : SupScope N ps scope) (hd : A.handled = none) (e0 : Env0 P w K mg base A outer s H) (hl : vs.length = ps.length) (r : Vals vs us) (lc : K.lookup cc = some ⟨cl, cld, .cell (some (.ref D)), csl⟩)
    (hns : h1.Ns s.heap.objs.size (fun x => (ps.zip us).reverse.lookup x)) (hk : ∀ b o, s.heap.get? b = some o → h1.get? b = some o) :
    Inv (cxS CX P w K mg base N qual scope f cda cc A outer s H E) [] (start N vs) H ⟨h1, s.gens, s.drawn, tk, s.os⟩ := by
  have hpl : ps.length ≤ N.length := by have := congrArg List.length S.pre; rw [List.length_take] at this; omega
  have noA : ∀ b : Addr, b ∉ (cxS CX P w K mg base N qual scope f cda cc A outer s H E).ex := fun b z => absurd (show b ∈ ([] : List Addr) from z) (by simp)
  have bcc : base.get? cc = some ⟨cl, cld, .cell (some (.ref D)), csl⟩ := e0.mod.kin _ _ lc
  have scc := e0.bs _ _ bcc
  have one : ∀ {y : Str} {c : Addr}, (cxS CX P w K mg base N qual scope f cda cc A outer s H E).env.cells.lookup y = some c → y = "__class__" ∧ c = cc := fun {y c} h => by
    have h' : List.lookup y [(("__class__" : Str), cc)] = some c := h
    by_cases e : y = "__class__"
    · subst e
      simp [List.lookup] at h'
      exact ⟨rfl, h'.symm⟩
    · have : (y == ("__class__" : Str)) = false := by simpa using e
      simp [List.lookup, this] at h'
  refine ⟨⟨e0.mod, S.kind, rfl, rfl, Nat.le_refl _, fun y z c h1 h2 => (one h1).1.trans (one h2).1.symm, fun y hy => ?_, fun y c z _ => Bool.noConfusion (show false = true from z), fun _ => hd, Around.frames_deeper e0.frames, .inr ⟨rfl, rfl⟩, fun b z => absurd z (noA b), e0.bs, e0.bsz, fun b _ _ => noA b, fun b z => absurd z (noA b), e0.funs, e0.frf⟩,
    rfl, e0.bare, Un.kept hk, ⟨_, hns, fun i y v h1 h2 h3 => ?_⟩, fun y c h => ?_, e0.hok.fresh (Nat.le_refl _), fun y c h => ?_, fun p hp => absurd (show p ∈ ([] : List (Addr × Obj)) from hp) (by simp), e0.hok.kept hk, ?_⟩
  · have hy : scope.names.lookup y = some .cell ∨ scope.names.lookup y = some .free := hy
    rcases hy with hy | hy
    · exact absurd rfl (S.nocell _ (PySem.mem_of_lookup hy))
    · have e := S.free _ (PySem.mem_of_lookup hy) rfl
      have e : y = "__class__" := e
      subst e
      exact ⟨cc, by show List.lookup _ [(("__class__" : Str), cc)] = some cc; simp [List.lookup]⟩
  · have hi : i < vs.length := by
      unfold start at h2
      by_cases hi : i < vs.length
      · exact hi
      · rw [List.getElem?_append_right (by simpa using hi)] at h2
        rw [List.getElem?_replicate] at h2
        split at h2 <;> cases h2
    have ha : vs[i]? = some v := by
      unfold start at h2
      rw [List.getElem?_append_left (by simpa using hi), List.getElem?_map] at h2
      cases e : vs[i]? with
      | none => rw [e] at h2; cases h2
      | some a => rw [e] at h2; cases h2; rfl
    obtain ⟨u, hu, rv⟩ := r.get ha
    have hp : ps[i]? = some y := by
      rw [← S.pre, List.getElem?_take_of_lt (by omega)]; exact h1
    have ndP : ps.Nodup := by rw [← S.pre]; exact S.nd.sublist (List.take_sublist _ _)
    exact ⟨u, rv, .inl ⟨S.par y (List.mem_of_getElem? hp), zip_rev_get ndP hp hu⟩⟩
  · obtain ⟨rfl, rfl⟩ := one h
    exact ⟨_, _, hk _ _ scc.1, rfl⟩
  · obtain ⟨rfl, rfl⟩ := one h
    exact scc.2
  · unfold start
    show _ = N.length
    rw [List.length_append, List.length_map, List.length_replicate]
    omega

section
open PySem.W
/-- what is told of a class C whose __init__ goes to its base's by super() -/
structure SupC (P : Program) (K : PySem.W.Frag) (mg : Str → Option Value) (C cc cda f : Addr) (fd : FuncData) (B i newId : String) (bmB : List Value) : Prop where
  kx : PySem.W.KxsFacts B i
  eb : ExcBaseFacts B newId i bmB
  ini : PySem.W.excInitIn K C bmB newId = true
  sup : PySem.W.ks_superIn K C C "__init__" = some (some (.builtin i))
  sub : PySem.W.subIn K (.ref C) (.type B) = some true
  own : PySem.W.subIn K (.ref C) (.ref C) = some true
  opq : PySem.W.nsIn K PySem.cStatics "thirdparty.any" = some none
  cell : ∃ cl cld csl, K.lookup cc = some ⟨cl, cld, .cell (some (.ref C)), csl⟩
  code : ∃ ccl cdd ccs vs file tf, K.lookup cda = some ⟨ccl, cdd, .fields vs, ccs⟩ ∧ vs[2]? = some (.str file tf) ∧ ((P.main.file : Str) == file) = true
  top : (P.main.scope.names.lookup ("super" : Str)).isSome = false
  msup : mg "super" = none
  selfAr : ∃ ar, (fd.params.posonlyargs ++ fd.params.args).head? = some ar ∧ ar.arg = ("self" : Str)

variable {CX : CXT} {P : Program} {w : World} {K : PySem.W.Frag} {mg : Str → Option Value} {base : Heap} {k : Nat} {f cc cda C : Addr} {name qual : Str} {params : Arguments} {rest : List Stmt} {e : Expr} {es : List Expr} {p0 p1 p2 p3 p4 : Pos} {scope : Scope} {dV kV doc pm ct oc : Value} {an od : Option Addr}
    {osl : Array (Option Value)} {N ps : List Str} {sp : Sp} {B i newId : String} {bmB : List Value}

theorem fn_sup (lk : K.lookup f = some ⟨oc, od, .func (PySem.W.ksFn name qual params (.Expr (.Call (.Attribute (.Call (.Name "super" p0) [] [] p1) "__init__" p2) (e :: es) [] p3) p4 :: rest) scope dV kV doc pm an (.ref cda) ct cc), osl⟩)
    (hcd : PySem.W.codeIn K (.ref cda) qual = true) (S : SupScope N (("self" : Str) :: ps) scope)
    (T : SupC P K mg C cc cda f (PySem.W.ksFn name qual params (.Expr (.Call (.Attribute (.Call (.Name "super" p0) [] [] p1) "__init__" p2) (e :: es) [] p3) p4 :: rest) scope dV kV doc pm an (.ref cda) ct cc) B i newId bmB)
    (len : ∀ vs H Q E, sp vs H Q E → vs.length = (("self" : Str) :: ps).length)
    (hbody : ∀ (A : Around) (outer : List Env) (s : Shared) (H : Hp) (vs : List V) (Q : VK) (E : XK), Room k (A.deeper (PySem.W.ksEnv qual scope s.heap.objs.size f (.ref cda) cc)) → sp vs H Q E →
      ∃ a ta t, vs.head? = some (.ref a) ∧ H a = some (exo a C none) ∧ PA (cxS CX P w K mg base N qual scope f cda cc A outer s H E) (e :: es) ta ∧ PSs (cxS CX P w K mg base N qual scope f cda cc A outer s H E) rest t ∧
        ta (start N vs) H fun ws H1 => ws.length ≤ 1000 ∧ H1 a = some (exo a C none) ∧ t { nx := fun _ H' => Q .non H', rt := Q } (start N vs) H1)
    (hev : ∀ env : Env, ∃ pl, eval (.Call (.Attribute (.Call (.Name "super" p0) [] [] p1) "__init__" p2) (e :: es) [] p3) env = (do
      let ov ← attributeBase (.Call (.Name "super" p0) [] [] p1) "__init__" env (eval (.Call (.Name "super" p0) [] [] p1) env)
      standAt p2.atName
      let (f, first) ← holding [ov] (getMethod ov "__init__" pl)
      callWith p3 f first (backTo p3 (starEach (e :: es) env)) []) := by intro env; exact ⟨_, rfl⟩)
    (he : ∀ env, starEach (e :: es) env = (false, eval e env) :: starEach es env := by intro env; rfl) (hpl : ∀ env, (backTo p3 (starEach es env)).any (·.1) = false := by intro env; rfl) :
    FnOk P w K mg base CX (k + 1) f (PySem.W.ksFn name qual params (.Expr (.Call (.Attribute (.Call (.Name "super" p0) [] [] p1) "__init__" p2) (e :: es) [] p3) p4 :: rest) scope dV kV doc pm an (.ref cda) ct cc) (("self" : Str) :: ps) sp := by
  refine ⟨len, fun A outer s H args us vs Q E hr e0 hb r hsp => ?_⟩
  have hl := len _ _ _ _ hsp
  have KX : K.In s.heap := e0.mod.kin.keeps fun b o e => (e0.bs b o e).1
  have lim : s.heap.NoLimit := e0.mod.nolimit.keeps fun b o e => (e0.bs b o e).1
  obtain ⟨cl, cld, csl, lc⟩ := T.cell
  obtain ⟨ccl, cdd, ccs, fv, file, tf, lcd, hvs, hfile⟩ := T.code
  obtain ⟨ar, har, harg⟩ := T.selfAr
  refine PySem.ks_codeAny_call_defAt (binds := (("self" : Str) :: ps).zip us) hr.depth (KX _ _ lk) rfl lim (PySem.W.codeRec_of KX hcd) rfl (hb) S.nocell (fun x hx => S.par x.1 (List.of_mem_zip (a := x.1) (b := x.2) hx).1) (fun h₀ hns hk => ?_) S.co S.gen S.kind
  obtain ⟨a, ta, t, hv0, ha0, hta, ht, hq⟩ := hbody A outer s H vs Q E (hr.deeper _) hsp
  have I : Inv (cxS CX P w K mg base N qual scope f cda cc A outer s H E) [] (start N vs) H ⟨h₀, s.gens, s.drawn, s.toks + ((("self" : Str) :: ps).zip us).length, s.os⟩ := inv_startS S hr.hd e0 hl r lc hns hk
  have hu0 : us.head? = some (.ref a) := by
    cases r with
    | nil => cases hv0
    | cons rv _ =>
      rw [List.head?_cons] at hv0
      cases hv0
      have e : _ = Value.ref a := rv
      rw [e]
      rfl
  have hidx : (("self" : Str) :: ps)[0]? = some ("self" : Str) := rfl
  have hus0 : us[0]? = some (Value.ref a) := by
    cases us with
    | nil => cases hu0
    | cons x us => exact hu0
  have nd : (("self" : Str) :: ps).Nodup := by rw [← S.pre]; exact S.nd.sublist (List.take_sublist _ _)
  have hself : ((("self" : Str) :: ps).zip us).reverse.lookup ar.arg = some (Value.ref a) := by rw [harg]; exact zip_rev_get nd hidx hus0
  have hka : scope.names.lookup ar.arg = some .local := by rw [harg]; exact S.par _ List.mem_cons_self
  obtain ⟨nm, N', qn, bs, bm, hdct, sn, sub, ab, col, dd, k0, k1, k2, k3, k5, hC, hT⟩ := PySem.W.excInit_of I.kIn T.ini
  obtain ⟨t0, hea⟩ := exo_at I.hok ha0
  have hac : a ≠ C := fun z => by
    rw [z, hC] at hea
    cases hea
  obtain ⟨mb, hb1, hb2⟩ := I.mod.blt
  obtain ⟨pl, hpl'⟩ := hev (PySem.W.ksEnv qual scope s.heap.objs.size f (.ref cda) cc)
  refine PySem.ks_wpAt_execs_cons (PySem.ks_wpAt_Expr_any (PySem.ks_wpAt_MethodCall (pl := pl) ?_ hpl') I.quiet)
  refine PySem.ks_wpAt_super_base (env := PySem.W.ksEnv qual scope s.heap.objs.size f (.ref cda) cc) S.hsup S.hcls (by decide) rfl (I.kIn _ _ lk) rfl har rfl (I.kIn _ _ lcd) rfl hvs hfile T.top ?_
  refine PySem.W.ks_loadName_global S.kind S.hsup (Calls.loadGlobal_builtin (env := PySem.W.ksEnv qual scope s.heap.objs.size f (.ref cda) cc) (I.mod.glob.keeps I.bk) T.msup (hb1.keeps I.bk) ((hb2 _ (by decide)).trans (by kernel_rfl : bootBuiltins "super" = some (.type "super"))) ⟨rfl, ?_⟩)
  refine wpAny_loadName_free S.kind S.hcls rfl ⟨_, I.kIn _ _ lc, rfl⟩ ?_
  refine wpAny_loadName_local S.kind hka hns hself ?_
  refine PySem.ks_wpAny_isType_cls hC rfl ⟨rfl, ?_⟩
  refine PySem.ks_wpAny_call_super hC rfl hea rfl (fun c z => by cases z) (PySem.W.looks_subIn I.kIn T.own) fun h1 e1 k1' => ?_
  have KX1 : K.In h1 := I.kIn.keeps k1'
  have hea1 := k1' _ _ hea
  have hm1 : PySem.W.Looks (model P w) h1 (mroOf (.ref C)) (.ref C :: bm) := (PySem.W.Looks.ld (part := none) (k1' _ _ hC)).andThen .now
  have hI1 : PySem.W.Looks (model P w) h1 (isInstance (.ref a) (.type B)) true := (PySem.W.Looks.ld (part := none) hea1).andThen (PySem.W.looks_subIn KX1 T.sub)
  refine PySem.W.kxs_getMethod T.kx e1 (PySem.W.looks_opaque KX1 T.opq) hm1 rfl KX1 ?_ hI1 hac (by decide) ?_
  · have q := T.sup
    unfold PySem.W.ks_superIn at q
    cases hcl : PySem.W.clsIn K C with
    | none => rw [hcl] at q; cases q
    | some cd =>
      rw [hcl] at q
      have hmro : cd.mro = .ref C :: bm := by
        unfold PySem.W.clsIn at hcl
        split at hcl
        · rename_i c d cd' sl ho
          have z := I.kIn _ _ ho
          rw [hC] at z
          cases hcl
          have z := Option.some.inj z
          have z2 := congrArg Obj.data z
          have z3 : ClassData.mro _ = ClassData.mro _ := congrArg (fun x => match x with | Data.cls cd => cd.mro | _ => []) z2
          exact z3.symm
        · cases hcl
      rw [Option.bind_some, hmro] at q
      exact q
  have k2 : ∀ b o, h₀.get? b = some o → (h1.push (PySem.W.kxs_mw i a)).get? b = some o := fun b o z => Heap.get?_push_of_some _ (k1' b o z)
  have hsz : h₀.objs.size ≤ h1.objs.size := by
    by_cases z : h₀.objs.size < h1.objs.size
    · exact Nat.le_of_lt z
    · have z2 := Heap.lt_size e1
      exact Nat.le_of_lt z2
  have hu : (h1.push (PySem.W.kxs_mw i a)).get? h1.objs.size = some (PySem.W.kxs_mw i a) := Heap.get?_push_at rfl rfl
  have J : Inv (cxS CX P w K mg base N qual scope f cda cc A outer s H E) [] (start N vs) H ⟨h1.push (PySem.W.kxs_mw i a), s.gens, s.drawn, s.toks + ((("self" : Str) :: ps).zip us).length + 1, s.os⟩ := I.kept k2
  have J2 : Inv (cxS CX P w K mg base N qual scope f cda cc A outer s H E) [(h1.objs.size, PySem.W.kxs_mw i a)] (start N vs) H ⟨h1.push (PySem.W.kxs_mw i a), s.gens, s.drawn, s.toks + ((("self" : Str) :: ps).zip us).length + 1, s.os⟩ := J.pins_of fun p hp => by
    obtain rfl : p = (h1.objs.size, PySem.W.kxs_mw i a) := by simpa using hp
    exact ⟨hu, I.hok.fresh hsz, Nat.ne_of_gt (Nat.lt_of_lt_of_le I.lt hsz), I.nofs hsz, fun v z => by cases z⟩
  have hplain : (backTo p3 (starEach (e :: es) (PySem.W.ksEnv qual scope s.heap.objs.size f (.ref cda) cc))).any (·.1) = false := by
    rw [he]
    show (false || (backTo p3 (starEach es _)).any (·.1)) = false
    rw [hpl]; rfl
  refine PySem.W.kxs_callWith (i := i) (x := a) hplain ?_
  rw [show PySem.callEnv (PySem.W.ksFn name qual params (.Expr (.Call (.Attribute (.Call (.Name "super" p0) [] [] p1) "__init__" p2) (e :: es) [] p3) p4 :: rest) scope dV kV doc pm an (.ref cda) ct cc) s.heap.objs.size f = PySem.W.ksEnv qual scope s.heap.objs.size f (.ref cda) cc from rfl, he]
  refine Calls.evalArgs_plain ?_
  have run := hta.run p3 [(h1.objs.size, PySem.W.kxs_mw i a)] _ _ H _ J2 hq
  rw [show (cxS CX P w K mg base N qual scope f cda cc A outer s H E).env = PySem.W.ksEnv qual scope s.heap.objs.size f (.ref cda) cc from rfl, he] at run
  refine thn run fun us1 s1 ⟨ws, H1, I3, r1, hlen, ha1, qt⟩ => ?_
  have hu1 : s1.heap.get? h1.objs.size = some (PySem.W.kxs_mw i a) := (I3.pin (h1.objs.size, PySem.W.kxs_mw i a) (List.mem_append_right _ List.mem_cons_self)).1
  refine ⟨hu1, ?_⟩
  obtain ⟨t1, hea3⟩ := exo_at I3.hok ha1
  have hus1 : us1.length ≤ sizeLine := by
    rw [← Paired.length r1, sizeLine_eq]
    omega
  obtain ⟨nm', N'', qn', bs', bm', hdct', sn', sub', ab', col', dd', k0', k1'', k2', k3', k5', hC1, hT1⟩ := PySem.W.excInit_of I3.kIn T.ini
  obtain ⟨hh, g, d, tk, os⟩ := s1
  refine wpAny_call (codeAny_of_tree ?_)
  show wpAny _ (Around.in1 _) (callAny (.ref h1.objs.size) ⟨us1, []⟩) _ _ _
  simp only [callAny]
  refine wpAny_bind (wpAny_load hu1 ?_)
  simp only [PySem.W.kxs_mw, show (Value.type "method-wrapper" == Value.type "method" || Value.type "method-wrapper" == Value.type "builtin_function_or_method" || Value.type "method-wrapper" == Value.type "method-wrapper") = true by decide, if_true]
  refine PySem.W.KFB.if_so (by decide) ?_
  refine wpAny_bind (PySem.W.check_bound_init T.eb.toExcCallFacts hC1 hea3 rfl ?_)
  refine wpAny_bind (wpAny_pure (wpAny_pure ?_))
  refine ⟨plainId_quiet T.eb.init.plain _, codeAny_builtin T.eb.initEntry ?_⟩
  refine PySem.W.exc_init_tree (cls := .ref C) (t0 := t1) (dv := none) (c2 := .none) (c3 := .none) (b4 := .bool false) hea3 hus1 fun h4 k4 he4 ht4 => ?_
  have I4 := I3.write (t' := tk) (x := a) (e := a) (o := exo a C none) (by rw [ha1]; exact True.intro) (.inl rfl) k4 ⟨_, he4⟩ (exo_ok he4)
  have eu : upd H1 a (exo a C none) = H1 := by
    funext b
    by_cases hb : b = a
    · rw [hb, upd_same, ha1]
    · rw [upd_ne hb]
  rw [eu] at I4
  have I5 : Inv (cxS CX P w K mg base N qual scope f cda cc A outer s H E) [] (start N vs) H1 ⟨h4, g, d, tk, os⟩ := I4.pins_of fun p hp => absurd hp (by simp)
  refine wpAt_of_wpAny (wpAny_mono (ht.run [] _ _ H1 _ I5 qt) (fun fl s' hs => ?_) fun e s' hs => hs)
  have fin : ∀ {σ' : St} {H' : Hp} {v : V} {u : Value}, Inv (cxS CX P w K mg base N qual scope f cda cc A outer s H E) [] σ' H' s' → RelV v u → Q v H' → CE outer P w H s Q u s' :=
    fun {σ' H' v u} J rv q => ⟨v, H', J.os, J.bare, J.base, J.hok, rv, q⟩
  cases fl with
  | ret u =>
    obtain ⟨v, σ', H', J, rv, q⟩ := hs
    exact fin J rv q
  | next =>
    obtain ⟨σ', H', J, q⟩ := hs
    exact fin (v := V.non) (u := Value.none) J rfl q
  | brk =>
    obtain ⟨_, _, _, q⟩ := hs
    exact False.elim q
  | cont =>
    obtain ⟨_, _, _, q⟩ := hs
    exact False.elim q
end
end L2
end
section
namespace Pd
open PySem PySem.Spec L2
/-! ### an own exception's fields -/
section
variable {K : PySem.W.Frag} {H G H' G' H0 G0 : Hp} {m m' m0 : List Addr} {μ μ' μ0 : Mu} {p q : Addr} {o u : HO}
theorem Hid.set (x : Hid K H G m μ p o) (o' : HO) : Hid K (upd H p o') G m μ p o' := ⟨x.g, x.nl, upd_same⟩
theorem Hid.other (x : Hid K H G m μ p o) (ne : p ≠ q) : Hid K (upd H q u) G m μ p o := ⟨x.g, x.nl, by rw [upd_ne ne]; exact x.h⟩
/-- it is shown -/
theorem Wf.shown (wf : Wf K H G m μ) (x : Hid K H G m μ p o) : Wf K H (upd G p o) m μ := by
  refine ⟨fun a y e => ?_, wf.len, fun l c a h1 h2 => ?_, wf.inj⟩
  · by_cases z : a = p
    · subst z; rw [upd_same] at e; cases e; exact x.h
    · rw [upd_ne z] at e; exact wf.sub _ _ e
  · obtain ⟨q1, q2⟩ := wf.cell l c a h1 h2
    have ne : a ≠ p := fun z => x.nl ⟨l, c, h1, z ▸ h2⟩
    refine ⟨by rw [upd_ne ne]; exact q1, ?_⟩
    have := q2.mono (r := []) (H' := H) (le_upd (o := o) x.g) (fun _ e => e)
    simpa using this
theorem Step.shown (h0 : H0 p = none) (st : Step H0 G0 m0 μ0 H G m μ) (g : G p = none) : Step H0 G0 m0 μ0 H (upd G p o) m μ := by
  refine ⟨st.gsub.trans (le_upd g), st.frame, fun a z => ?_, st.lnew, st.mext, st.kp⟩
  by_cases q : a = p
  · rw [q]; exact .inr (.inl h0)
  · rw [upd_ne q] at z; exact st.gnew a z
theorem Hid.new (wf : Wf K H G m μ) (h : H p = none) : Hid K (upd H p o) G m μ p o := ⟨wf.gnone h, wf.dead h, upd_same⟩
end
/-- the fields' values, one behind the other -/
def fldR : List (Str × DE) → List Str → List D → Sl → Mu → R (List Str × List D)
  | [], ns, xs, _, μ => ok (ns, xs) μ
  | (f, g) :: r, ns, xs, sl, μ => bindR (g sl μ) fun d μ1 => fldR r (f :: ns) (d :: xs) sl μ1
/-- self.f = e, .. -/
def tFs (K : PySem.W.Frag) : List (Str × DE) → TS
  | [] => tNext
  | (f, g) :: r => tSeq (tOst K f (tVar 0) (TD K nW g)) (tFs K r)
section
variable {K : PySem.W.Frag} {H1 G1 : Hp} {m1 : List Addr} {μ1 : Mu} {a C : Addr} {Dn : Ends} {σ : L2.St}
/-- what is wanted of the fields -/
def fldW (K : PySem.W.Frag) (H1 G1 : Hp) (m1 : List Addr) (μ1 : Mu) (a C : Addr) (r : R (List Str × List D)) (Q : Hp → Prop) : Prop := match r with
  | some (.ok (ns, xs) μ') => ∀ H' G' m' d vs, H' a = some (exo a C (some d)) → H' d = some (exd d (ns.zip vs)) → d ≠ a → H1 d = none → Hid K H' G' m' μ' a (exo a C (some d)) → Hid K H' G' m' μ' d (exd d (ns.zip vs)) → Wf K H' G' m' μ' → Step H1 G1 m1 μ1 H' G' m' μ' → RepL K G' m' xs vs → ns.length = xs.length → Q H'
  | _ => False
theorem fld_old (T : OexC K C) (hs : σ[0]? = some (some (.ref a))) (h1a : H1 a = none) : ∀ (fs : List (Str × DE)) (ns : List Str) (xs : List Pd.D) (vs : List V) (d : Addr) (H G : Hp) (m : List Addr) (μ : Mu) (sl : Sl),
    (∀ f ∈ fs, PySem.W.findIn K (.ref C) f.1 = some none) → Hid K H G m μ a (exo a C (some d)) → Hid K H G m μ d (exd d (ns.zip vs)) → d ≠ a → H1 d = none → Wf K H G m μ → Step H1 G1 m1 μ1 H G m μ → RepS K G m sl σ → RepL K G m xs vs → ns.length = xs.length → ns.length + fs.length ≤ 900 →
    fldW K H1 G1 m1 μ1 a C (fldR fs ns xs sl μ) (fun H' => Dn.nx σ H') → tFs K fs Dn σ H := by
  intro fs
  induction fs with
  | nil =>
    intro ns xs vs d H G m μ sl _ ha hd hne h1d wf st rs rl hl hz w
    exact w H G m d vs ha.h hd.h hne h1d ha hd wf st rl hl
  | cons fg r ih =>
    obtain ⟨f, g⟩ := fg
    intro ns xs vs d H G m μ sl hno ha hd hne h1d wf st rs rl hl hz w
    refine ⟨G, m, μ, sl, wf, rs, rfl, ?_⟩
    have w : fldW K H1 G1 m1 μ1 a C (bindR (g sl μ) fun y μ2 => fldR r (f :: ns) (y :: xs) sl μ2) (fun H' => Dn.nx σ H') := w
    revert w
    cases g sl μ with
    | none => exact fun z => z
    | some o =>
      cases o with
      | exc x μ2 => exact fun z => z.elim
      | ok y μ2 =>
        intro w v H2 G2 m2 wf2 st2 rv
        have ha2 := ha.step st2
        have hd2 := hd.step st2
        refine ⟨.ref a, hs, a, C, rfl, T, hno (f, g) (List.mem_cons_self ..), .inr ⟨d, ns.zip vs, ha2.h, hd2.h, ?_, ?_⟩⟩
        · rw [List.length_zip]
          simp only [List.length_cons] at hz
          omega
        · refine ih (f :: ns) (y :: xs) (v :: vs) d _ G2 m2 μ2 sl (fun q hq => hno q (List.mem_cons_of_mem _ hq)) (ha2.other (Ne.symm hne)) (hd2.set _) hne h1d (wf2.hset hd2 _) (Step.hset h1d (st.trans st2) _) (st2.repS rs) ⟨v, vs, rfl, rv, st2.repL rl⟩ (by simp [hl]) (by simp only [List.length_cons] at hz ⊢; omega) w
theorem fld_new (T : OexC K C) (hs : σ[0]? = some (some (.ref a))) (h1a : H1 a = none) {f : Str} {g : DE} {r : List (Str × DE)} {H G : Hp} {m : List Addr} {μ : Mu} {sl : Sl} (hno : ∀ q ∈ (f, g) :: r, PySem.W.findIn K (.ref C) q.1 = some none)
    (ha : Hid K H G m μ a (exo a C none)) (wf : Wf K H G m μ) (st : Step H1 G1 m1 μ1 H G m μ) (rs : RepS K G m sl σ) (hz : r.length ≤ 800)
    (w : fldW K H1 G1 m1 μ1 a C (fldR ((f, g) :: r) [] [] sl μ) (fun H' => Dn.nx σ H')) : tFs K ((f, g) :: r) Dn σ H := by
  refine ⟨G, m, μ, sl, wf, rs, rfl, ?_⟩
  have w : fldW K H1 G1 m1 μ1 a C (bindR (g sl μ) fun y μ2 => fldR r [f] [y] sl μ2) (fun H' => Dn.nx σ H') := w
  revert w
  cases g sl μ with
  | none => exact fun z => z
  | some o =>
    cases o with
    | exc x μ2 => exact fun z => z.elim
    | ok y μ2 =>
      intro w v H2 G2 m2 wf2 st2 rv
      have ha2 := ha.step st2
      refine ⟨.ref a, hs, a, C, rfl, T, hno (f, g) (List.mem_cons_self ..), .inl ⟨ha2.h, fun dx hn hne => ?_⟩⟩
      have h1d : H1 dx = none := (st.trans st2).kp dx hn
      have hd3 : Hid K (upd H2 dx (exd dx [(f, v)])) G2 m2 μ2 dx (exd dx [(f, v)]) := Hid.new wf2 hn
      have ha3 : Hid K (upd H2 dx (exd dx [(f, v)])) G2 m2 μ2 a (exo a C none) := ha2.other (Ne.symm hne)
      exact fld_old T hs h1a r [f] [y] [v] dx _ G2 m2 μ2 sl (fun q hq => hno q (List.mem_cons_of_mem _ hq)) (ha3.set _) (hd3.other hne) hne h1d ((wf2.hid hn).hset ha3 _) (Step.hset h1a ((st.trans st2).trans (Step.hid hn)) _) (st2.repS rs) ⟨v, [], rfl, rv, rfl⟩ rfl (by simp only [List.length_cons, List.length_nil]; omega) w
end
end Pd
namespace Pd
open PySem PySem.Spec L2
def tIx : List Nat → TA
  | [] => tNil
  | i :: r => tCons (tVar i) (tIx r)
theorem tIx_ok {σ : L2.St} {H : Hp} : ∀ {is : List Nat} {Q : List V → Hp → Prop}, (∀ i ∈ is, ∃ v, σ[i]? = some (some v)) → (∀ ws, ws.length = is.length → Q ws H) → tIx is σ H Q
  | [], Q, _, h => h [] rfl
  | i :: r, Q, hi, h => by
    obtain ⟨v, e⟩ := hi i (List.mem_cons_self ..)
    exact ⟨v, e, tIx_ok (fun j hj => hi j (List.mem_cons_of_mem _ hj)) fun ws hl => h (v :: ws) (by simp [hl])⟩
/-- what __init__ of the class at C promises -/
def spI (K : PySem.W.Frag) (C : Addr) (n : Nat) (fs : List (Str × DE)) : Sp := fun vs H Q _ => ∃ a ws H1 G m μ ds, vs = .ref a :: ws ∧ ws.length = n ∧ H = upd H1 a (exo a C none) ∧ H1 a = none ∧ Wf K H1 G m μ ∧ RepL K G m ds ws ∧
  fldW K H1 G m μ a C (fldR fs [] [] (none :: ds.map some) μ) (fun H' => Q .non H')
section
variable {CX : CXT} {P : Program} {w : World} {K : PySem.W.Frag} {mg : Str → Option Value} {base : Heap} {k : Nat} {f cc cda C : Addr} {name qual : Str} {params : Arguments} {rest : List Stmt} {e : Expr} {es : List Expr} {p0 p1 p2 p3 p4 : Pos} {scope : Scope} {dV kV doc pm ct oc : Value} {an od : Option Addr}
    {osl : Array (Option Value)} {ps : List Str} {B i newId : String} {bmB : List Value} {is : List Nat} {f1 : Str} {g1 : DE} {r : List (Str × DE)}
theorem fnI (lk : K.lookup f = some ⟨oc, od, .func (PySem.W.ksFn name qual params (.Expr (.Call (.Attribute (.Call (.Name "super" p0) [] [] p1) "__init__" p2) (e :: es) [] p3) p4 :: rest) scope dV kV doc pm an (.ref cda) ct cc), osl⟩)
    (hcd : PySem.W.codeIn K (.ref cda) qual = true) (S : SupScope (("self" : Str) :: ps) (("self" : Str) :: ps) scope)
    (T : SupC P K mg C cc cda f (PySem.W.ksFn name qual params (.Expr (.Call (.Attribute (.Call (.Name "super" p0) [] [] p1) "__init__" p2) (e :: es) [] p3) p4 :: rest) scope dV kV doc pm an (.ref cda) ct cc) B i newId bmB)
    (O : OexC K C) (hno : ∀ q ∈ (f1, g1) :: r, PySem.W.findIn K (.ref C) q.1 = some none) (hr : r.length ≤ 800) (his : ∀ i ∈ is, i < ps.length + 1) (hil : is.length ≤ 1000)
    (hargs : ∀ (A : Around) (outer : List Env) (s : Shared) (H : Hp) (E : XK), PA (cxS CX P w K mg base (("self" : Str) :: ps) qual scope f cda cc A outer s H E) (e :: es) (tIx is))
    (hrest : ∀ (A : Around) (outer : List Env) (s : Shared) (H : Hp) (E : XK), Room k (A.deeper (PySem.W.ksEnv qual scope s.heap.objs.size f (.ref cda) cc)) → PSs (cxS CX P w K mg base (("self" : Str) :: ps) qual scope f cda cc A outer s H E) rest (tFs K ((f1, g1) :: r)))
    (hev : ∀ env : Env, ∃ pl, eval (.Call (.Attribute (.Call (.Name "super" p0) [] [] p1) "__init__" p2) (e :: es) [] p3) env = (do
      let ov ← attributeBase (.Call (.Name "super" p0) [] [] p1) "__init__" env (eval (.Call (.Name "super" p0) [] [] p1) env)
      standAt p2.atName
      let (f, first) ← holding [ov] (getMethod ov "__init__" pl)
      callWith p3 f first (backTo p3 (starEach (e :: es) env)) []) := by intro env; exact ⟨_, rfl⟩)
    (he : ∀ env, starEach (e :: es) env = (false, eval e env) :: starEach es env := by intro env; rfl) (hpl : ∀ env, (backTo p3 (starEach es env)).any (·.1) = false := by intro env; rfl) :
    FnOk P w K mg base CX (k + 1) f (PySem.W.ksFn name qual params (.Expr (.Call (.Attribute (.Call (.Name "super" p0) [] [] p1) "__init__" p2) (e :: es) [] p3) p4 :: rest) scope dV kV doc pm an (.ref cda) ct cc) (("self" : Str) :: ps) (spI K C ps.length ((f1, g1) :: r)) := by
  refine fn_sup lk hcd S T (fun vs H Q E ⟨a, ws, H1, G, m, μ, ds, e1, e2, _⟩ => by rw [e1]; simp [e2]) (fun A outer s H vs Q E room h => ?_) hev he hpl
  obtain ⟨a, ws, H1, G, m, μ, ds, rfl, e2, rfl, h1a, wf, rl, w⟩ := h
  have hst : L2.start (("self" : Str) :: ps) (V.ref a :: ws) = some (V.ref a) :: ws.map some := by
    unfold L2.start
    simp [e2]
  have hl := rl.length
  refine ⟨a, tIx is, tFs K ((f1, g1) :: r), rfl, upd_same, hargs A outer s _ E, hrest A outer s _ E room, ?_⟩
  rw [hst]
  refine tIx_ok (fun i hi => ?_) fun us hu => ⟨by omega, upd_same, ?_⟩
  · have q := his i hi
    cases i with
    | zero => exact ⟨_, rfl⟩
    | succ i =>
      have q : i < ws.length := by omega
      exact ⟨ws[i], by simp [q]⟩
  · have ha : Hid K (upd H1 a (exo a C none)) G m μ a (exo a C none) := Hid.new wf h1a
    refine fld_new O rfl h1a hno ha (wf.hid h1a) (Step.hid h1a) (sl := none :: ds.map some) ⟨by simp [hl], fun i d hd => ?_⟩ hr w
    cases i with
    | zero => cases hd
    | succ i =>
      have hd : (ds.map some)[i]? = some (some d) := by simpa using hd
      rw [List.getElem?_map] at hd
      cases q : ds[i]? with
      | none => rw [q] at hd; cases hd
      | some d' =>
        rw [q] at hd; cases hd
        obtain ⟨v, hv, rv⟩ := rl.get q
        exact ⟨v, by simp [hv], rv⟩
end
/-- raise x(e, ..) -/
def raiseS (x : Str) (n : Nat) (fs : List (Str × DE)) (fl : DL) : DS := lifA fl fun sl ds μ => if ds.length = n then match fldR fs [] [] (none :: ds.map some) μ with
  | some (.ok (ns, xs) μ') => some (.exc ⟨x, ns, xs⟩ sl μ')
  | _ => none else none
section
variable {X : Cx} {W : WX} {k k' n : Nat} {fI : Addr} {fd : FuncData} {ps : List Str} {x : Str} {p pos pos' : Pos} {e : Expr} {es : List Expr} {fl : DL} {fs : List (Str × DE)}
theorem psd_raise (c : Ctx k W X) (O : OexC X.K (He.ga X.K x)) (iC : PySem.W.findIn X.K (.ref (He.ga X.K x)) "__init__" = some (some (.ref fI))) (tI : PySem.W.typeIn X.K (.ref fI) = some (.type "function"))
    (F1 : FnOk X.prog X.w X.K X.mg X.base (L2.CX X.prog X.w) k' fI fd ps (spI X.K (He.ga X.K x) n fs)) (hk : k' + 1 ≤ k) (hb : Binds X.K fd ps []) (hn : n ≤ 1000) (hg : Gl X x) (hm : X.mg x = some (.ref (He.ga X.K x))) (ha : PA X (e :: es) (TDs X.K W fl))
    (hdb : (x == ("__debug__" : Str)) = false := by decide) (he : starEach (e :: es) X.env = (false, eval e X.env) :: starEach es X.env := by rfl) (hpl : (backTo pos (starEach es X.env)).any (·.1) = false := by rfl) :
    PS X (.Raise (some (.Call (.Name x p) (e :: es) [] pos)) none pos') (TDS X.K W (raiseS x n fs fl)) := by
  refine PS_imp (ps_raise c.calm c.tk (pmk_oex (CX := L2.CX X.prog X.w) O iC tI F1 (c.room.mono hk) hb .nil (passes_call c.tk fun _ _ _ _ z => z.elim) hg hm ha hdb he hpl)) fun Dn σ H h => ?_
  refine (TDS.lif (rep := repL X.K) h).imp fun vs H1 ⟨ds, G, m, μ, sl, wf, rs, rl, o⟩ => ?_
  split at o
  · rename_i hz
    have hl : vs.length = n := by rw [← hz]; exact rl.length
    refine ⟨by omega, fun a h1a => ⟨a, vs, H1, G, m, μ, ds, by simp, hl, rfl, h1a, wf, rl, ?_⟩⟩
    revert o
    cases fldR fs [] [] (none :: ds.map some) μ with
    | none => exact fun z => z
    | some q =>
      cases q with
      | exc y μ2 => exact fun z => z
      | ok nx μ2 =>
        obtain ⟨ns, xs⟩ := nx
        intro o H2 G2 m2 d us h2a h2d hne h1d ia id wf2 st2 rl2 hz2
        refine ⟨rfl, d, ns.zip us, h2a, h2d, h1d, ?_⟩
        have id' : Hid X.K (Pd.del H2 a) G2 m2 μ2 d (exd d (ns.zip us)) := ⟨id.g, id.nl, by rw [del_ne hne]; exact id.h⟩
        have wf3 : Wf X.K (upd (Pd.del H2 a) d (.xd (ns.zip us))) G2 m2 μ2 := (wf2.del ia.g ia.nl).hset id' _
        have st3 : Step H1 G m μ (upd (Pd.del H2 a) d (.xd (ns.zip us))) G2 m2 μ2 := Step.hset h1d (st2.del h1a) _
        have id3 : Hid X.K (upd (Pd.del H2 a) d (.xd (ns.zip us))) G2 m2 μ2 d (.xd (ns.zip us)) := id'.set _
        have st4 : Step H1 G m μ (upd (Pd.del H2 a) d (.xd (ns.zip us))) (upd G2 d (.xd (ns.zip us))) m2 μ2 := Step.shown h1d st3 id.g
        have rl4 := rl2.mono (r := []) (le_upd (o := .xd (ns.zip us)) id.g)
        rw [List.append_nil] at rl4
        exact o (.ref (He.ga X.K x)) (some d) σ _ _ m2 (wf3.shown id3) st4 (st4.repS rs) ⟨rfl, hz2, us, rl4, upd_same⟩
  · exact o.elim
end
end Pd
end
section
namespace Pd
open PySem PySem.Spec L2
/-! ### try: .. except x as n: .. -/
def lookF (f : Str) : List Str → List D → Option D
  | g :: fs, x :: xs => if f = g then some x else lookF f fs xs
  | _, _ => none
theorem lookF_ok {K : PySem.W.Frag} {G : Hp} {m : List Addr} {f : Str} {d : D} : ∀ {fs : List Str} {xs : List D} {vs : List V}, RepL K G m xs vs → lookF f fs xs = some d → ∃ v, (fs.zip vs).lookup f = some v ∧ RepV K G m d v
  | [], _, _, _, h => by cases h
  | _ :: _, [], _, _, h => by cases h
  | g :: fs, x :: xs, _, r, h => by
    obtain ⟨v, w, rfl, r1, r2⟩ := r
    unfold lookF at h
    split at h
    · rename_i e
      subst e
      cases h
      exact ⟨v, by simp [List.lookup], r1⟩
    · rename_i e
      obtain ⟨u, e1, e2⟩ := lookF_ok r2 h
      refine ⟨u, ?_, e2⟩
      have : (f == g) = false := by simpa using e
      simp only [List.zip_cons_cons, List.lookup, this]
      exact e1
/-- err.f -/
def fldD (a d : Addr) (f : Str) (e : DE) : DE := fun sl μ => bindR (e sl μ) fun v μ1 => match v with
  | .exn a' d' fs xs => if a' = a ∧ d' = d then match lookF f fs xs with
    | some y => ok y μ1
    | none => none else none
  | _ => none
def endS (i : Nat) : Option OutS → Option OutS
  | some (.nx sl μ) => some (.nx (sl.set i none) μ)
  | some (.bk sl μ) => some (.bk (sl.set i none) μ)
  | some (.ct sl μ) => some (.ct (sl.set i none) μ)
  | some (.rt d μ) => some (.rt d μ)
  | _ => none
/-- no: the classes that are not caught -/
def tryS (x : Str) (no : List Str) (i : Nat) (body : DS) (su : Addr → Addr → DS) : DS := fun sl μ => match body sl μ with
  | some (.exc y sl1 μ1) => if y.cls = x then (if y.fs = [] then none else endS i (su 0 0 (sl1.set i (some (.exn 0 0 y.fs y.xs))) μ1)) else if y.cls ∈ no then some (.exc y sl1 μ1) else none
  | o => o
section
variable {K : PySem.W.Frag} {G : Hp} {m : List Addr} {sl : Sl} {σ : L2.St}
theorem RepS.unset (x : RepS K G m sl σ) (i : Nat) : RepS K G m (sl.set i none) (σ.set i none) := ⟨by simp [x.len], fun j d h => by
  by_cases e : i = j
  · subst e
    by_cases hi : i < sl.length
    · rw [List.getElem?_set_self hi] at h; cases h
    · rw [List.getElem?_eq_none (by simpa using hi)] at h; cases h
  · rw [List.getElem?_set_ne e] at h
    obtain ⟨u, h1, h2⟩ := x.at_ j d h
    exact ⟨u, by rw [List.getElem?_set_ne e]; exact h1, h2⟩⟩
end
section
variable {X : Cx} {W : WX} {k i : Nat} {x n : Str} {no : List Str} {bD : DS} {su : Addr → Addr → DS} {body suite : List Stmt} {b₀ : Stmt} {np pos pos' : Pos}
theorem ped_fld {a d : Addr} {oe : Obj} {pn : List (Addr × Obj)} {W' : WX} {C : Addr} {e : Expr} {f : Str} {fe : DE} (T : XfC X.K C) (hno : PySem.W.findIn X.K (.ref C) f = some none) (hz : Zc (.ref C) (some d) oe) (hf : ∃ vs, oe.data = .fields vs)
    (he : PE (X.suite a ((a, oe) :: pn)) e (TD X.K W' fe)) (hb : attributeBase e f X.env (eval e X.env) = eval e X.env := by rfl) : PE (X.suite a ((a, oe) :: pn)) (.Attribute e f pos) (TD X.K W' (fldD a d f fe)) := by
  refine PE_imp (pe_xf T hno hz hf he hb) fun σ H Q h => ?_
  refine (Pd.T.bindD h).imp fun v H1 ⟨y, G, m, μ, sl, wf, rs, rl, o⟩ => ?_
  obtain ⟨_, _, e1, r, _⟩ := rl
  cases e1
  split at o
  · rename_i a' d' fs xs
    split at o
    · rename_i z
      obtain ⟨rfl, rfl⟩ := z
      obtain ⟨rfl, vs, g, hl, rx⟩ := r
      cases q : lookF f fs xs with
      | none => rw [q] at o; exact o.elim
      | some u =>
        rw [q] at o
        obtain ⟨v, e2, rv⟩ := lookF_ok rx q
        exact ⟨rfl, rfl, _, _, v, rfl, wf.sub _ _ g, e2, okA.get (rep := repV X.K) o wf rv⟩
    · exact o.elim
  · exact o.elim
theorem psd_tryAs (c : Ctx k W X) (hs : X.stack = X.env :: X.outer) (hf : X.env.frame = some X.env.locals) (hN : X.N.Nodup) (hi : X.N[i]? = some n) (hln : X.env.kindOf n = some .local) (hc : Names X x (.ref (He.ga X.K x)))
    (hex : PySem.W.exmOne X.K (.ref (He.ga X.K x)) (.ref (He.ga X.K x)) = some true) (hxn : ∀ y ∈ no, PySem.W.exmOne X.K (.ref (He.ga X.K y)) (.ref (He.ga X.K x)) = some false)
    (hb : ∀ (W' : WX) (pn : List (Addr × Obj)) (xe : Value → Shared → Prop), Ctx k W' (X.tr pn xe) → PSs (X.tr pn xe) body (TDS X.K W' bD))
    (hsu : ∀ (a d : Addr) (oe : Obj) (pn : List (Addr × Obj)), Zc (.ref (He.ga X.K x)) (some d) oe → (∃ vs, oe.data = .fields vs) → PSs (X.suite a ((a, oe) :: pn)) (b₀ :: suite) (TDS X.K nW (su a d)))
    (hind : ∀ (a d : Addr) (fs : List Str) (xs : List D) (sl : Sl) (μ : Mu), endS i (su a d (sl.set i (some (.exn a d fs xs))) μ) = endS i (su 0 0 (sl.set i (some (.exn 0 0 fs xs))) μ)) :
    PS X (.Try body [.ExceptHandler (some (.Name x np)) (some n) (b₀ :: suite) pos'] [] [] pos) (TDS X.K W (tryS x no i bD su)) := by
  refine PS_imp (ps_try_as (tb := fun W' => TDS X.K W' bD) (ts := fun a cls d Dn σ H => ∃ d0, cls = .ref (He.ga X.K x) ∧ d = some d0 ∧ TDS X.K nW (su a d0) Dn σ H) hs hf hN hi hln hc c.tk
    (fun W' pn xe tk ps => hb W' pn xe ⟨c.room, c.gd, tk, ps, c.calm⟩) (fun a oe cls d pn hz hfl => ⟨fun pins s σ H Dn I ⟨d0, e1, e2, h⟩ => ?_⟩)) fun Dn σ H h => ?_
  · subst e1 e2
    exact (hsu a d0 oe pn hz hfl).run pins s σ H Dn I h
  obtain ⟨G, m, μ, sl, wf, rs, o⟩ := h
  refine ⟨G, m, μ, sl, wf, rs, ?_⟩
  unfold tryS at o
  revert o
  cases bD sl μ with
  | none => exact fun z => z
  | some q =>
    cases q with
    | nx sl1 μ1 => exact fun o => o
    | bk sl1 μ1 => exact fun o => o
    | ct sl1 μ1 => exact fun o => o
    | rt d μ1 => exact fun o => o
    | exc y sl1 μ1 =>
      intro o cl dd σ1 H1 G1 m1 wf1 st1 rs1 er
      obtain ⟨rfl, hl, vs, rl, hdd⟩ := er
      dsimp only at o
      split at o
      · rename_i ey
        refine ⟨true, by rw [ey]; exact hex, fun _ a ha => ?_, fun z => by cases z⟩
        split at o
        · exact o.elim
        · rename_i hne
          cases dd with
          | none => exact absurd hdd hne
          | some d0 =>
            refine ⟨d0, by rw [ey], rfl, G1, m1, μ1, _, wf1, rs1.set (d := .exn a d0 y.fs y.xs) (v := .ref a) ⟨rfl, vs, hdd, hl, rl⟩ i, ?_⟩
            rw [← hind a d0] at o
            revert o
            cases su a d0 (sl1.set i (some (.exn a d0 y.fs y.xs))) μ1 with
            | none => exact fun z => z
            | some q2 =>
              cases q2 with
              | nx sl2 μ2 => exact fun o σ2 H2 G2 m2 wf2 st2 rs2 => o _ H2 G2 m2 wf2 (st1.trans st2) (rs2.unset i)
              | bk sl2 μ2 => exact fun o σ2 H2 G2 m2 wf2 st2 rs2 => o _ H2 G2 m2 wf2 (st1.trans st2) (rs2.unset i)
              | ct sl2 μ2 => exact fun o σ2 H2 G2 m2 wf2 st2 rs2 => o _ H2 G2 m2 wf2 (st1.trans st2) (rs2.unset i)
              | rt d μ2 => exact fun o v H2 G2 m2 wf2 st2 rv => o v H2 G2 m2 wf2 (st1.trans st2) rv
              | exc y2 sl2 μ2 => exact fun z => z.elim
      · split at o
        · rename_i hyn
          refine ⟨false, hxn _ hyn, fun z => (nomatch z), fun _ => ?_⟩
          exact o (.ref (He.ga X.K y.cls)) dd σ1 H1 G1 m1 wf1 st1 rs1 ⟨rfl, hl, vs, rl, hdd⟩
        · exact o.elim
end
end Pd
end
section
namespace Pd
open PySem PySem.Spec L2
open PySem.W (Frag)
/-! ### what the heap says of an own exception's class -/
def oexB (K : Frag) (C : Addr) : Bool := match K.lookup C with
  | some ⟨.type "type", _, .cls cd, sl⟩ => (match cd.mro, sl.toList with
    | .ref C' :: bm, [_, _, _, _, some (.builtin n), _] => C' == C && (n == "ValueError.__new__" && (!cd.hasDel && (cd.hasDict && HandSPX.refsVE bm)))
    | _, _ => false)
  | _ => false
theorem oexB_ok {K : Frag} {C : Addr} (q : oexB K C = true) : ∃ nm q N bs bm sn sub ab col dd k0 k1 k2 k3 k5, K.lookup C = some (excClassObj nm q C N bs bm true sn sub ab col dd k0 k1 k2 k3 k5 "ValueError.__new__") ∧ HandSPX.refsVE bm = true := by
  unfold oexB at q
  split at q
  · rename_i dd cd sl ho
    split at q
    · rename_i C' bm k0 k1 k2 k3 n k5 hm hs
      simp only [Bool.and_eq_true, beq_iff_eq, Bool.not_eq_true'] at q
      obtain ⟨rfl, rfl, hdel, hdict, ht⟩ := q
      obtain ⟨nm, bs, mro, ns, qn, hd, sn, sub, ab, col, del⟩ := cd
      dsimp only at hm hdel hdict
      subst hm hdel hdict
      have hsl : sl = #[k0, k1, k2, k3, some (.builtin "ValueError.__new__"), k5] := by
        obtain ⟨l⟩ := sl
        simp only at hs
        rw [hs]
      subst hsl
      exact ⟨nm, qn, ns, bs, bm, sn, sub, ab, col, dd, k0, k1, k2, k3, k5, ho, ht⟩
    · cases q
  · cases q
/-- a class of the text: its name, its __init__'s parameters, body, scope; the fields -/
structure ExcD where
  x : Str
  params : Arguments
  body : List Stmt
  scope : Scope
  fields : List Str
abbrev ShW : Type := Option (Str × Str × Arguments × FuncBody × Scope × Addr × List Str × Addr)
def shW (K : Frag) (p : Str × Option Str) : ShW := match K.lookup (He.fAd K p) with
  | some ⟨_, _, .func fd, _⟩ => some (fd.name, fd.qualname, fd.params, fd.body, fd.scope, fd.globals, fd.closure.map (·.1), fd.builtins)
  | _ => none
def ExcD.qual (c : ExcD) : Str := c.x ++ ".__init__"
def ExcD.val (c : ExcD) : ShW := some ("__init__", c.qual, c.params, .stmts c.body, c.scope, mainGlobals, ["__class__"], builtinsNs)
def cellB (K : Frag) (cc C : Addr) : Bool := match K.lookup cc with
  | some ⟨_, _, .cell (some (.ref D)), _⟩ => decide (D = C)
  | _ => false
def codeB (P : Program) (K : Frag) (cda : Addr) : Bool := match K.lookup cda with
  | some ⟨_, _, .fields vs, _⟩ => (match (vs[2]? : Option Value) with
    | some (.str file _) => (P.main.file : Str) == file
    | _ => false)
  | _ => false
def initB (P : Program) (K : Frag) (C f : Addr) (qual : Str) : Bool := match K.lookup f with
  | some ⟨_, _, .func fd, _⟩ => (match fd.code, fd.closure, fd.defaults with
    | .ref cda, [(_, cc)], .none => PySem.W.codeIn K (.ref cda) qual && (cellB K cc C && codeB P K cda)
    | _, _, _ => false)
  | _ => false
def clsFacts (K : Frag) (C f : Addr) : Bool :=
  decide (PySem.W.ks_superIn K C C "__init__" = some (some (.builtin "ValueError.__init__"))) && (decide (PySem.W.subIn K (.ref C) (.type "ValueError") = some true) && (decide (PySem.W.subIn K (.ref C) (.ref C) = some true) &&
  (decide (PySem.W.nsIn K PySem.cStatics "thirdparty.any" = some none) && (decide (PySem.W.findIn K (.ref C) "__init__" = some (some (.ref f))) && (decide (PySem.W.typeIn K (.ref f) = some (.type "function")) &&
  (decide (PySem.W.findIn K (.ref C) "__setattr__" = some (some (.builtin "object.__setattr__"))) && (decide (PySem.W.subIn K (.ref C) (.type "BaseException") = some true) && (decide (PySem.W.typeIn K (.ref C) = some (.type "type")) &&
  (PySem.W.keepIn K (.ref C) && (L2.xfB K C && (decide (PySem.W.exmOne K (.ref C) (.ref C) = some true) && decide (PySem.W.nsIn K mainGlobals "super" = some none))))))))))))
def ExcD.ok (P : Program) (K : Frag) (c : ExcD) : Bool :=
  let C := He.ga K c.x
  let f := He.ma K C "__init__"
  oexB K C && (PySem.W.excInitIn K C He.veBase "ValueError.__new__" && (clsFacts K C f && (initB P K C f c.qual && (!(P.main.scope.names.lookup ("super" : Str)).isSome && (c.fields.all (fun g => decide (PySem.W.findIn K (.ref C) g = some none)) && decide (PySem.W.nsIn K mainGlobals c.x = some (some (.ref C))))))))
/-- the facts -/
structure ExcF (P : Program) (K : Frag) (mg : Str → Option Value) (c : ExcD) : Prop where
  oex : OexC K (He.ga K c.x)
  ini : PySem.W.findIn K (.ref (He.ga K c.x)) "__init__" = some (some (.ref (He.ma K (He.ga K c.x) "__init__")))
  ty : PySem.W.typeIn K (.ref (He.ma K (He.ga K c.x) "__init__")) = some (.type "function")
  gl : mg c.x = some (.ref (He.ga K c.x))
  xf : XfC K (He.ga K c.x)
  exm : PySem.W.exmOne K (.ref (He.ga K c.x)) (.ref (He.ga K c.x)) = some true
  no : ∀ g ∈ c.fields, PySem.W.findIn K (.ref (He.ga K c.x)) g = some none
  fn : ∃ oc od doc pm kV an cda ct cc osl, K.lookup (He.ma K (He.ga K c.x) "__init__") = some ⟨oc, od, .func (PySem.W.ksFn "__init__" c.qual c.params c.body c.scope .none kV doc pm an (.ref cda) ct cc), osl⟩ ∧ PySem.W.codeIn K (.ref cda) c.qual = true ∧
    (∀ fd : FuncData, (∃ ar, (fd.params.posonlyargs ++ fd.params.args).head? = some ar ∧ ar.arg = ("self" : Str)) → SupC P K mg (He.ga K c.x) cc cda (He.ma K (He.ga K c.x) "__init__") fd "ValueError" "ValueError.__init__" "ValueError.__new__" He.veBase)
theorem ExcD.facts {P : Program} {K : Frag} {mg : Str → Option Value} {h : Heap} {c : ExcD} (X : K.In h) (G : h.Ns mainGlobals mg) (e : shW K (c.x, some "__init__") = c.val) (q : c.ok P K = true) : ExcF P K mg c := by
  obtain ⟨a1, q⟩ := He.ba q
  obtain ⟨a2, q⟩ := He.ba q
  obtain ⟨a3, q⟩ := He.ba q
  obtain ⟨a4, q⟩ := He.ba q
  obtain ⟨a5, q⟩ := He.ba q
  obtain ⟨a6, a7⟩ := He.ba q
  obtain ⟨b1, q⟩ := He.ba a3
  obtain ⟨b2, q⟩ := He.ba q
  obtain ⟨b3, q⟩ := He.ba q
  obtain ⟨b4, q⟩ := He.ba q
  obtain ⟨b5, q⟩ := He.ba q
  obtain ⟨b6, q⟩ := He.ba q
  obtain ⟨b7, q⟩ := He.ba q
  obtain ⟨b8, q⟩ := He.ba q
  obtain ⟨b9, q⟩ := He.ba q
  obtain ⟨b10, q⟩ := He.ba q
  obtain ⟨b11, q⟩ := He.ba q
  obtain ⟨b12, b13⟩ := He.ba q
  refine ⟨⟨oexB_ok a1, of_decide_eq_true b7, of_decide_eq_true b8, of_decide_eq_true b9, b10⟩, of_decide_eq_true b5, of_decide_eq_true b6, PySem.W.mg_of X G (of_decide_eq_true a7), xfB_ok b11, of_decide_eq_true b12, fun g hg => of_decide_eq_true (List.all_eq_true.mp a6 g hg), ?_⟩
  unfold initB at a4
  unfold shW at e
  cases hl0 : K.lookup (He.fAd K (c.x, some "__init__")) with
  | none => rw [hl0] at e; cases e
  | some o =>
    rw [hl0] at e
    have hl : K.lookup (He.ma K (He.ga K c.x) "__init__") = some o := hl0
    clear hl0
    rw [hl] at a4
    obtain ⟨oc, od, dt, osl⟩ := o
    cases dt with
    | func fd =>
      obtain ⟨n1, n2, n3, n4, n5, n6, n7, n8, n9, n10, n11, n12, n13, n14, n15⟩ := fd
      have e2 : (some (n1, n2, n3, n4, n5, n6, n7.map (·.1), n15) : ShW) = some (("__init__" : Str), c.qual, c.params, FuncBody.stmts c.body, c.scope, mainGlobals, [("__class__" : Str)], builtinsNs) := e
      simp only [Option.some.injEq, Prod.mk.injEq] at e2
      obtain ⟨h1, h2, h3, h4, h5, h6, h7, h8⟩ := e2
      subst h1 h2 h3 h4 h5 h6 h8
      dsimp only at a4
      split at a4
      · rename_i cda nmc cc
        have h7 : nmc = "__class__" := by simpa using h7
        subst h7
        obtain ⟨k1, a4⟩ := He.ba a4
        obtain ⟨k2, k3⟩ := He.ba a4
        refine ⟨oc, od, n10, n11, n9, n12, cda, n14, cc, osl, hl, k1, fun fd hfd => ⟨PySem.W.kxs_ValueError, F.excBase_ValueError, a2, of_decide_eq_true b1, of_decide_eq_true b2, of_decide_eq_true b3, of_decide_eq_true b4, ?_, ?_, by simpa using a5, PySem.W.mg_none_of X G (of_decide_eq_true b13), hfd⟩⟩
        · unfold cellB at k2
          split at k2
          · rename_i q1 q2 D q3 q4
            have := of_decide_eq_true k2
            subst this
            exact ⟨_, _, _, q4⟩
          · cases k2
        · unfold codeB at k3
          split at k3
          · rename_i q1 q2 vs q3 q4
            split at k3
            · rename_i file tf q5
              exact ⟨_, _, _, vs, file, tf, q4, q5, k3⟩
            · cases k3
          · cases k3
      · cases a4
    | _ => cases e
end Pd
end
section
namespace Pd
open PySem PySem.Spec L2
open PySem.W (Frag)
/-! ### the head's Hook: defs, facts, exceptions' classes, one Bool more -/
abbrev AlE : Type := He.AlD × (Bool × List ShW)
def frE (n : Nat) (g : Addr → Option Obj) : Frag := He.frG g (PySem.cStatics :: He.asD g n)
def obsE (P : Program) (n : Nat) (fa : List He.Fa) (fn : List He.DefD) (cs : List ExcD) (ex : Frag → Bool) (g : Addr → Option Obj) : AlE :=
  (He.obsD fa fn (frE n g), ((cs.all fun c => c.ok P (frE n g)) && ex (frE n g), cs.map fun c => shW (frE n g) (c.x, some "__init__")))
def valE (fn : List He.DefD) (cs : List ExcD) : AlE := (He.valD fn, (true, cs.map ExcD.val))
structure SaysE (P : Program) (fa : List He.Fa) (fn : List He.DefD) (cs : List ExcD) (ex : Frag → Bool) (K : Frag) : Prop where
  d : He.SaysD fa fn K
  b : ((cs.all fun c => c.ok P K) && ex K) = true
  s : (cs.map fun c => shW K (c.x, some "__init__")) = cs.map ExcD.val
theorem saysE_of {P : Program} {n : Nat} {fa : List He.Fa} {fn : List He.DefD} {cs : List ExcD} {ex : Frag → Bool} {g : Addr → Option Obj} (e : obsE P n fa fn cs ex g = valE fn cs) : SaysE P fa fn cs ex (frE n g) :=
  ⟨congrArg (fun z : AlE => z.1) e, congrArg (fun z : AlE => z.2.1) e, congrArg (fun z : AlE => z.2.2) e⟩
def hookE (P : Program) (n : Nat) (fa : List He.Fa) (fn : List He.DefD) (cs : List ExcD) (ex : Frag → Bool) : PySem.W.Hook where
  α := AlE
  obs := fun s => obsE P n fa fn cs ex s.heap.get?
  val := fun _ => valE fn cs
  says := fun _ h => ∃ K : Frag, K.In h ∧ SaysE P fa fn cs ex K
  of := fun _ _ e => ⟨_, He.frG_in, saysE_of e⟩
  keeps := fun _ _ _ ⟨K, hK, c⟩ k => ⟨K, PySem.W.Frag.In.keeps hK k, c⟩
theorem obsE_eq {P : Program} {n : Nat} {fa : List He.Fa} {fn : List He.DefD} {cs : List ExcD} {ex : Frag → Bool} {g : Addr → Option Obj} {s : Shared} (h : ∀ a, g a = s.heap.get? a) : obsE P n fa fn cs ex g = (hookE P n fa fn cs ex).obs s := by
  have e : g = s.heap.get? := funext h
  rw [e] <;> rfl
section
variable {P : Program} {fa : List He.Fa} {fn : List He.DefD} {cs : List ExcD} {ex : Frag → Bool} {K : Frag} {mg : Str → Option Value} {h : Heap}
theorem SaysE.more (c : SaysE P fa fn cs ex K) : ex K = true := (He.ba c.b).2
theorem SaysE.exc (c : SaysE P fa fn cs ex K) (X : K.In h) (G : h.Ns mainGlobals mg) (i : Nat) {x : ExcD} (hx : cs[i]? = some x := by rfl) : ExcF P K mg x := by
  refine ExcD.facts X G ?_ (List.all_eq_true.mp (He.ba c.b).1 x (List.mem_of_getElem? hx))
  have e2 : (cs.map fun c => shW K (c.x, some "__init__"))[i]? = (cs.map ExcD.val)[i]? := by rw [c.s]
  rw [List.getElem?_map, List.getElem?_map, hx] at e2
  exact Option.some.inj e2
end
/-! ### C(e, ..) of such a class -/
structure RaiseE (P : Program) (w : World) (K : Frag) (mg : Str → Option Value) (base : Heap) (x : Str) (n : Nat) (fs : List (Str × DE)) : Prop where
  oex : OexC K (He.ga K x)
  gl : mg x = some (.ref (He.ga K x))
  fn : ∃ fI fd ps, PySem.W.findIn K (.ref (He.ga K x)) "__init__" = some (some (.ref fI)) ∧ PySem.W.typeIn K (.ref fI) = some (.type "function") ∧ FnOk P w K mg base (L2.CX P w) 1 fI fd ps (spI K (He.ga K x) n fs) ∧ Binds K fd ps []
theorem raiseE_of {P : Program} {w : World} {K : Frag} {mg : Str → Option Value} {base : Heap} {c : ExcD} {ps : List Str} {e : Expr} {es : List Expr} {rest : List Stmt} {p0 p1 p2 p3 p4 : Pos} {is : List Nat} {f1 : Str} {g1 : DE} {r : List (Str × DE)}
    (F : ExcF P K mg c) (hbody : c.body = .Expr (.Call (.Attribute (.Call (.Name "super" p0) [] [] p1) "__init__" p2) (e :: es) [] p3) p4 :: rest) (S : SupScope (("self" : Str) :: ps) (("self" : Str) :: ps) c.scope)
    (har : ∃ ar, (c.params.posonlyargs ++ c.params.args).head? = some ar ∧ ar.arg = ("self" : Str)) (hno : ∀ q ∈ (f1, g1) :: r, q.1 ∈ c.fields) (hr : r.length ≤ 800) (his : ∀ i ∈ is, i < ps.length + 1) (hil : is.length ≤ 1000)
    (hargs : ∀ (f cda cc : Addr) (A : Around) (outer : List Env) (s : Shared) (H : Hp) (E : XK), PA (cxS (L2.CX P w) P w K mg base (("self" : Str) :: ps) c.qual c.scope f cda cc A outer s H E) (e :: es) (tIx is))
    (hrest : ∀ (f cda cc : Addr) (A : Around) (outer : List Env) (s : Shared) (H : Hp) (E : XK), PSs (cxS (L2.CX P w) P w K mg base (("self" : Str) :: ps) c.qual c.scope f cda cc A outer s H E) rest (tFs K ((f1, g1) :: r)))
    (hbind : ∀ (kV doc pm : Value) (an : Option Addr) (cdv ct : Value) (cc : Addr) (us : List Value), us.length = (("self" : Str) :: ps).length → bindArgs (PySem.W.ksFn "__init__" c.qual c.params c.body c.scope .none kV doc pm an cdv ct cc) ⟨us, []⟩ = pure ((("self" : Str) :: ps).zip us))
    (hev : ∀ env : Env, ∃ pl, eval (.Call (.Attribute (.Call (.Name "super" p0) [] [] p1) "__init__" p2) (e :: es) [] p3) env = (do
      let ov ← attributeBase (.Call (.Name "super" p0) [] [] p1) "__init__" env (eval (.Call (.Name "super" p0) [] [] p1) env)
      standAt p2.atName
      let (f, first) ← holding [ov] (getMethod ov "__init__" pl)
      callWith p3 f first (backTo p3 (starEach (e :: es) env)) []) := by intro env; exact ⟨_, rfl⟩)
    (he : ∀ env, starEach (e :: es) env = (false, eval e env) :: starEach es env := by intro env; rfl) (hpl : ∀ env, (backTo p3 (starEach es env)).any (·.1) = false := by intro env; rfl) :
    RaiseE P w K mg base c.x ps.length ((f1, g1) :: r) := by
  obtain ⟨x, params, body, scope, fields⟩ := c
  dsimp only at hbody
  subst hbody
  obtain ⟨oc, od, doc, pm, kV, an, cda, ct, cc, osl, lk, hcd, sup⟩ := F.fn
  exact ⟨F.oex, F.gl, _, _, _, F.ini, F.ty, fnI (k := 0) lk hcd S (sup _ har) F.oex (fun q hq => F.no _ (hno q hq)) hr his hil (fun A outer s H E => hargs _ _ _ A outer s H E) (fun A outer s H E _ => hrest _ _ _ A outer s H E) hev he hpl,
    .all fun us hl => hbind kV doc pm an (.ref cda) ct cc us hl⟩
section
variable {X : Cx} {W : WX} {k n i : Nat} {x nm : Str} {p pos pos' np : Pos} {e : Expr} {es : List Expr} {fl : DL} {fs : List (Str × DE)} {no : List Str} {bD : DS} {su : Addr → Addr → DS} {body suite : List Stmt} {b₀ : Stmt}
theorem sRaise (c : Ctx k W X) (R : RaiseE X.prog X.w X.K X.mg X.base x n fs) (ha : PA X (e :: es) (TDs X.K W fl)) (hk : 2 ≤ k := by decide) (hn : n ≤ 1000 := by decide) (hg : Gl X x := by rfl)
    (hdb : (x == ("__debug__" : Str)) = false := by decide) (he : starEach (e :: es) X.env = (false, eval e X.env) :: starEach es X.env := by rfl) (hpl : (backTo pos (starEach es X.env)).any (·.1) = false := by rfl) :
    PS X (.Raise (some (.Call (.Name x p) (e :: es) [] pos)) none pos') (TDS X.K W (raiseS x n fs fl)) := by
  obtain ⟨fI, fd, ps, h1, h2, h3, h4⟩ := R.fn
  exact psd_raise c R.oex h1 h2 h3 hk h4 hn hg R.gl ha hdb he hpl
/-- what a clause 'except x' may use -/
structure CatchE (K : Frag) (mg : Str → Option Value) (x : Str) (fields no : List Str) : Prop where
  gl : mg x = some (.ref (He.ga K x))
  xf : XfC K (He.ga K x)
  exm : PySem.W.exmOne K (.ref (He.ga K x)) (.ref (He.ga K x)) = some true
  fld : ∀ g ∈ fields, PySem.W.findIn K (.ref (He.ga K x)) g = some none
  oth : ∀ y ∈ no, PySem.W.exmOne K (.ref (He.ga K y)) (.ref (He.ga K x)) = some false
theorem sTry {fields : List Str} (c : Ctx k W X) (C : CatchE X.K X.mg x fields no) (hs : X.stack = X.env :: X.outer) (hf : X.env.frame = some X.env.locals) (hN : X.N.Nodup) (i : Nat)
    (hb : ∀ (W' : WX) (pn : List (Addr × Obj)) (xe : Value → Shared → Prop), Ctx k W' (X.tr pn xe) → PSs (X.tr pn xe) body (TDS X.K W' bD))
    (hsu : ∀ (a d : Addr) (oe : Obj) (pn : List (Addr × Obj)), Zc (.ref (He.ga X.K x)) (some d) oe → (∃ vs, oe.data = .fields vs) → PSs (X.suite a ((a, oe) :: pn)) (b₀ :: suite) (TDS X.K nW (su a d)))
    (hind : ∀ (a d : Addr) (fs : List Str) (xs : List D) (sl : Sl) (μ : Mu), endS i (su a d (sl.set i (some (.exn a d fs xs))) μ) = endS i (su 0 0 (sl.set i (some (.exn 0 0 fs xs))) μ))
    (hi : X.N[i]? = some nm := by rfl) (hln : X.env.kindOf nm = some .local := by rfl) (hg : Gl X x := by rfl) (hdb : (x == ("__debug__" : Str)) = false := by decide) :
    PS X (.Try body [.ExceptHandler (some (.Name x np)) (some nm) (b₀ :: suite) pos'] [] [] pos) (TDS X.K W (tryS x no i bD su)) :=
  psd_tryAs c hs hf hN hi hln ⟨hg, hdb, .inl C.gl⟩ C.exm C.oth hb hsu hind
end
end Pd
end
section
namespace Pd
open PySem PySem.Spec L2
section
variable {X : Cx} {W : WX} {k : Nat} {pos p p2 p3 apos cpos : Pos} {a b c e o : Expr} {fa fb fc fe fo : DE} {es : List Expr} {fl : DL} {x : Str}
/-! ### text.split() -/
def dmWords : DM := fun d ds μ => match d, ds with
  | .str a, [] => if a.length + 2 ≤ sizeLine then ok (.lst ((Txt.words a).map D.str)) μ else none
  | _, _ => none
theorem strs_rep {K : PySem.W.Frag} {G : Hp} {m : List Addr} : ∀ ys : List Str, RepL K G m (ys.map D.str) (ys.map V.str)
  | [] => rfl
  | y :: ys => ⟨.str y, ys.map V.str, rfl, rfl, strs_rep ys⟩
theorem md_words : MethD X W "str.split" dmWords := ⟨_, mt_words, fun dx ds vx vs σ H G m μ Q wf rx rl o => by
  unfold dmWords at o
  split at o
  · rename_i a
    split at o
    · rename_i hz
      cases rx; cases rl
      refine ⟨a, rfl, rfl, hz, fun p hp => ?_⟩
      exact o (.ref p) _ (upd G p (.lst _)) m (wf.laid hp) (Step.laid wf hp) ⟨p, _, rfl, .inl (.inl upd_same), strs_rep _⟩
    · exact o.elim
  · exact o.elim⟩
theorem eWords (ho : PE X o (TD X.K W fo)) (hbase : attributeBase o "split" X.env (eval o X.env) = eval o X.env := by rfl) (hline : (apos.endLine == cpos.line) = true := by rfl) :
    PE X (.Call (.Attribute o "split" apos) [] [] cpos) (TD X.K W (meth0 .str dmWords fo)) := ped_m0 (t := .str) PySem.F.plainAttrs_str PySem.F.slot_str_split PySem.F.type_str_split md_words ho hbase hline
/-! ### text times -/
def strRep (a : Str) (n : Nat) : Str := ⟨(List.replicate n a.cps).foldl (· ++ ·) #[]⟩
theorem op_mulS : OpR X (binaryOp .Mult) (fun x y H Q => ∃ a k, x = .str a ∧ y = .int k ∧ 1 ≤ k ∧ k < 2 ^ 63 ∧ a.length * k.toNat ≤ sizeLine ∧ Q (.str (strRep a k.toNat)) H) := by
  intro pins s σ H x y v u Q I rx ry ⟨a, k, ex, ey, h1, h2, hz, q⟩
  subst ex; subst ey
  obtain ⟨t, rfl⟩ := rx
  obtain ⟨t', rfl⟩ := ry
  have hs := sizeLine_eq
  have hk : 0 < k.toNat := by omega
  have fin : ∀ t2 tk, strRep a k.toNat = a → EP X pins σ Q (.str a t2) { s with toks := tk } := fun t2 tk e => ⟨.str (strRep a k.toNat), H, I.tok tk, ⟨t2, by rw [e]⟩, q⟩
  have hnil : ∀ n : Nat, (List.replicate n (#[] : Array Nat)).foldl (· ++ ·) #[] = #[] := fun n => by
    induction n with
    | zero => rfl
    | succ n ih => rw [List.replicate_succ, List.foldl_cons]; exact ih
  refine P.mul_str (by rw [decide_eq_false (by omega), decide_eq_false (by omega)]; rfl) (fun _ he => ?_) (fun _ _ => by show decide (a.length * k.toNat > sizeLine) = false; exact decide_eq_false (by omega)) ?_
  · intro z
    rw [Bool.or_eq_false_iff] at he
    have : (a.length : Int) * k ≤ 16777216 := by
      have : ((a.length * k.toNat : Nat) : Int) ≤ 16777216 := by omega
      rw [Int.natCast_mul, Int.toNat_of_nonneg (by omega)] at this
      exact this
    have z2 : (2 ^ 63 - 1) / k < (a.length : Int) := z
    have z3 : 2 ^ 63 - 1 < (a.length : Int) * k := (Int.ediv_lt_iff_lt_mul (by omega)).mp z2
    omega
  · rw [if_neg (by omega)]
    by_cases hb : (k == 1 || a.length == 0) = true
    · rw [if_pos hb]
      have e : strRep a k.toNat = a := by
        rcases Bool.or_eq_true_iff.mp hb with h | h
        · have : k = 1 := by simpa using h
          subst this
          show (⟨(#[] : Array Nat) ++ a.cps⟩ : Str) = a
          rw [Array.empty_append]
        · have h : a.length = 0 := by simpa using h
          have h0 : a.cps = #[] := Array.size_eq_zero_iff.mp h
          unfold strRep
          rw [h0, hnil]
          cases a
          exact congrArg _ h0.symm
      exact fin t s.toks e
    · rw [if_neg hb]
      refine ⟨?_, ⟨.str (strRep a k.toNat), H, I.tok _, ⟨_, rfl⟩, q⟩⟩
      have len : ∀ (n : Nat) (acc : Array Nat), ((List.replicate n a.cps).foldl (· ++ ·) acc).size = acc.size + n * a.cps.size := by
        intro n
        induction n with
        | zero => intro acc; simp
        | succ n ih => intro acc; rw [List.replicate_succ, List.foldl_cons, ih, Array.size_append, Nat.succ_mul]; omega
      have := len k.toNat #[]
      have e2 : a.length * k.toNat = k.toNat * a.cps.size := Nat.mul_comm _ _
      first
        | (show Array.size _ ≤ sizeLine; rw [this]; simp; omega)
        | (simp [Str.length, this]; omega)
end
end Pd
end
section
namespace Pd
open PySem PySem.Spec L2
section
variable {X : Cx} {W : WX} {k : Nat} {pos p p2 p3 apos cpos : Pos} {a b c e o : Expr} {fa fb fc fe fo : DE} {es : List Expr} {fl : DL} {x : Str}
def mulS : D2 := fun x y μ => match x, y with
  | .str a, .int k => if 1 ≤ k ∧ k < 2 ^ 63 ∧ a.length * k.toNat ≤ sizeLine then ok (.str (strRep a k.toNat)) μ else none
  | _, _ => none
def isStrD : D → Bool
  | .str _ => true
  | _ => false
def mulX : D2 := fun x y μ => match x with
  | .str _ => mulS x y μ
  | _ => mulD x y μ
theorem od_mulS : OpD X W (binaryOp .Mult) mulS := .mk op_mulS fun dx dy vx vy σ H G m μ Q wf rx ry o => by
  unfold mulS at o
  split at o
  · rename_i a k
    split at o
    · rename_i hz
      cases rx; cases ry
      exact ⟨a, k, rfl, rfl, hz.1, hz.2.1, hz.2.2, okA.get (a := D.str _) o wf rfl⟩
    · exact o.elim
  · exact o.elim
theorem od_mulX : OpD X W (binaryOp .Mult) mulX := by
  refine (OpD.or (fun x _ _ => isStrD x) od_mulS od_mul).imp fun x y μ => .inl ?_
  cases x <;> rfl
/-! ### a built-in type as a value -/
theorem ped_ty {n : String} (hm : X.mg x = none) (hv : bootBuiltins x = some (.type n)) (hg : Gl X x := by rfl) (hn : x ≠ "__name__" := by decide) (hd : (x == ("__debug__" : Str)) = false := by decide) : PE X (.Name x pos) (TD X.K W (cD (.cst (.ty n)))) :=
  ped_c (pe_bltn (v := .ty n) hg hm hv rfl hn hd) fun _ _ => rfl
/-! ### isinstance -/
def tyNm (μ : Mu) : D → Option String
  | .non => some "NoneType"
  | .bl _ => some "bool"
  | .int _ => some "int"
  | .str _ => some "str"
  | .tup _ => some "tuple"
  | .lst _ => some "list"
  | .dic _ _ => some "dict"
  | .ref l => match μ[l]? with
    | some (some (.lst _)) => some "list"
    | some (some (.dic _ _)) => some "dict"
    | some (some (.dit _ _)) => some "dict"
    | _ => none
  | _ => none
theorem tyNm_ok {K : PySem.W.Frag} {H G : Hp} {m : List Addr} {μ : Mu} (wf : Wf K H G m μ) {d : D} {v : V} {n : String} (r : RepV K G m d v) (h : tyNm μ d = some n) : TyX K H v (.type n) := by
  cases d with
  | non => cases h; cases r; exact .base .non
  | bl b => cases h; cases r; exact .base (.bl b)
  | int i => cases h; cases r; exact .base (.int i)
  | str x => cases h; cases r; exact .base (.str x)
  | tup ds =>
    cases h
    obtain ⟨a, vs, rfl, q, _⟩ := r
    rcases wf.sub.sqT q with (q | ⟨o, q⟩) | ⟨o, its, k, q, c, _⟩
    · exact .base (.tup q)
    · exact .fTuple q
    · exact .kTuple q c
  | lst ds =>
    cases h
    obtain ⟨a, vs, rfl, q, _⟩ := r
    rcases wf.sub.sqL q with (q | ⟨o, q⟩) | ⟨o, its, k, q, c, _⟩
    · exact .base (.lst q)
    · exact .base (.frz q)
    · exact .kList q c
  | dic ks ds =>
    cases h
    obtain ⟨a, vs, rfl, q, _⟩ := r
    rcases wf.sub.rd q with q | ⟨o, q⟩
    · exact .base (.dK q)
    · exact .fDict q
  | ref l =>
    unfold tyNm at h
    dsimp only at h
    split at h
    · rename_i ds e
      cases h
      obtain ⟨a, rfl, _, _, vs, q, _⟩ := wf.live_get e r
      exact .base (.lst q)
    · rename_i ks ds e
      cases h
      obtain ⟨a, rfl, _, _, vs, q, _⟩ := wf.live_get e r
      exact .base (.dK q)
    · rename_i ks ds e
      cases h
      obtain ⟨a, rfl, _, _, vs, q, _⟩ := wf.live_get e r
      exact .base (.dT q)
    · cases h
  | _ => cases h
def dcIsi : DC := fun ds μ => match ds with
  | [d, .cst (.ty n)] => match tyNm μ d with
    | some t => match kitB t n with
      | some b => ok (.bl b) μ
      | none => none
    | none => none
  | _ => none
theorem cd_isi : CallD X W (.builtin "isinstance") dcIsi := ⟨_, call_isi, fun ds vs σ H G m μ Q wf rl o => by
  unfold dcIsi at o
  split at o
  · rename_i d n
    obtain ⟨v, w, rfl, r1, u, w2, rfl, r2, rfl⟩ := rl
    split at o
    · rename_i t ht
      split at o
      · rename_i b hb
        have r2 : u = .ty n := r2
        subst r2
        exact ⟨v, .ty n, .type t, .type n, b, rfl, .ty n, tyNm_ok wf r1 ht, kit_ty hb, okA.get (a := D.bl b) o wf rfl⟩
      · exact o.elim
    · exact o.elim
  · exact o.elim⟩
theorem eIsi (hm : X.mg "isinstance" = none) (ha : PA X (e :: es) (TDs X.K W fl)) (hg : Gl X "isinstance" := by rfl) (he : starEach (e :: es) X.env = (false, eval e X.env) :: starEach es X.env := by rfl) (hpl : (backTo pos (starEach es X.env)).any (·.1) = false := by rfl) : PE X (.Call (.Name "isinstance" p) (e :: es) [] pos) (TD X.K W (callB dcIsi fl)) := ped_callB cd_isi hg hm (by decide +kernel) ha (by decide) (by decide) he hpl
theorem eRepr (c : Ctx k W X) (hm : X.mg "repr" = none) (ha : PA X (e :: es) (TDs X.K W fl)) (hg : Gl X "repr" := by rfl) (he : starEach (e :: es) X.env = (false, eval e X.env) :: starEach es X.env := by rfl) (hpl : (backTo pos (starEach es X.env)).any (·.1) = false := by rfl) : PE X (.Call (.Name "repr" p) (e :: es) [] pos) (TD X.K W (callB dcRepr fl)) := ped_callB (cd_repr c.gd c.u64) hg hm (by decide +kernel) ha (by decide) (by decide) he hpl
/-! ### a module's tuple of texts -/
theorem eGT {ys : List Str} {f : Addr} (hm : X.mg x = some (.ref f)) (hs : ∀ H, SqT X.K H f (ys.map V.str)) (hg : Gl X x := by rfl) (hd : (x == ("__debug__" : Str)) = false := by decide) : PE X (.Name x pos) (TD X.K W (cD (.tup (ys.map D.str)))) :=
  ped_glob (v := .ref f) hg hm rfl (fun G _ => ⟨f, _, rfl, hs G, strs_rep ys⟩) hd
end
/-- .. as a def's lemma wants it -/
def TupE (K : PySem.W.Frag) (mg : Str → Option Value) (x : Str) (ys : List Str) : Prop := ∃ f, mg x = some (.ref f) ∧ ∀ H, SqT K H f (ys.map V.str)
theorem eGTE {X : Cx} {W : WX} {x : Str} {pos : Pos} {ys : List Str} (h : TupE X.K X.mg x ys) (hg : Gl X x := by rfl) (hd : (x == ("__debug__" : Str)) = false := by decide) : PE X (.Name x pos) (TD X.K W (cD (.tup (ys.map D.str)))) :=
  let ⟨_, h1, h2⟩ := h
  eGT h1 h2 hg hd
end Pd
end
section
namespace Pd
open PySem PySem.Spec L2
theorem varD_set {i : Nat} {sl : Sl} {v : D} {μ : Mu} : varD i (sl.set i (some v)) μ = if i < sl.length then ok v μ else none := by
  unfold varD
  by_cases h : i < sl.length
  · rw [List.getElem?_set_self h, if_pos h]
  · rw [if_neg h, List.getElem?_eq_none (by simpa using h)]
theorem fldD_set {i : Nat} {a d : Addr} {f : Str} {fs : List Str} {xs : List D} {sl : Sl} {μ : Mu} : fldD a d f (varD i) (sl.set i (some (.exn a d fs xs))) μ = if i < sl.length then (match lookF f fs xs with
    | some y => ok y μ
    | none => none) else none := by
  unfold fldD
  rw [varD_set]
  by_cases h : i < sl.length
  · rw [if_pos h, if_pos h]
    show (if a = a ∧ d = d then _ else _) = _
    rw [if_pos ⟨rfl, rfl⟩]
    try (cases lookF f fs xs <;> rfl)
  · rw [if_neg h, if_neg h]; rfl
/-- what it gives does not hang on where the exception stands -/
def Ind {α : Type} (i : Nat) (f : Addr → Addr → Sl → Mu → R α) : Prop := ∀ (a d : Addr) (fs : List Str) (xs : List D) (sl : Sl) (μ : Mu), f a d (sl.set i (some (.exn a d fs xs))) μ = f 0 0 (sl.set i (some (.exn 0 0 fs xs))) μ
section
variable {i j : Nat} {e : Addr → Addr → DE} {l : Addr → Addr → DL}
theorem ind_c {v : D} : Ind i fun _ _ => cD v := fun _ _ _ _ _ _ => rfl
theorem ind_fld {f : Str} : Ind i fun a d => fldD a d f (varD i) := fun a d fs xs sl μ => by
  show fldD a d f (varD i) _ μ = fldD 0 0 f (varD i) _ μ
  rw [fldD_set, fldD_set]
theorem ind_var (h : i ≠ j) : Ind i fun _ _ => varD j := fun a d fs xs sl μ => by
  show varD j _ μ = varD j _ μ
  unfold varD
  rw [List.getElem?_set_ne h, List.getElem?_set_ne h]
theorem ind_nil : Ind i fun _ _ => nilL := fun _ _ _ _ _ _ => rfl
theorem ind_bind {α β : Type} {f : Addr → Addr → Sl → Mu → R α} {g : Addr → Addr → Sl → α → Mu → R β} (h : Ind i f) (h2 : ∀ x, Ind i fun a d sl μ => g a d sl x μ) : Ind i fun a d sl μ => bindR (f a d sl μ) (g a d sl) := fun a d fs xs sl μ => by
  show bindR (f a d _ μ) _ = bindR (f 0 0 _ μ) _
  rw [h a d fs xs sl μ]
  cases f 0 0 (sl.set i (some (.exn 0 0 fs xs))) μ with
  | none => rfl
  | some o =>
    cases o with
    | exc x μ1 => rfl
    | ok x μ1 => exact h2 x a d fs xs sl μ1
theorem ind_cons (h : Ind i e) (h2 : Ind i l) : Ind i fun a d => consL (e a d) (l a d) := ind_bind h fun _ => ind_bind h2 fun _ _ _ _ _ _ _ => rfl
theorem ind_tup (h : Ind i l) : Ind i fun a d => tupD (l a d) := ind_bind h fun _ _ _ _ _ _ _ => rfl
theorem ind_ret (h : Ind i e) (a d : Addr) (fs : List Str) (xs : List D) (sl : Sl) (μ : Mu) : endS i (retS (e a d) (sl.set i (some (.exn a d fs xs))) μ) = endS i (retS (e 0 0) (sl.set i (some (.exn 0 0 fs xs))) μ) := by
  unfold retS lifA
  rw [h a d fs xs sl μ]
  cases e 0 0 (sl.set i (some (.exn 0 0 fs xs))) μ with
  | none => rfl
  | some o => cases o <;> rfl
end
/-- over a list, a tuple or a text -/
def anySrc (f : DE) : Sl → Mu → R Src := fun sl μ => bindR (f sl μ) fun d μ1 => match d with
  | .str x => ok (.st (x.cps.toList.map fun c => .str ⟨#[c]⟩)) μ1
  | d => match seqOf μ1 d with
    | some ds => ok (mkSrc (fixD d) ds (ckS d ds)) μ1
    | none => none
theorem pid_any {X : Cx} {W : WX} {tg e : Expr} {fe : DE} (he : PE X e (TD X.K W fe)) : PI X tg e (TIs X.K W (anySrc fe)) := by
  refine ⟨fun pins s σ H R I h => ?_⟩
  obtain ⟨G, m, μ, sl, wf, rs, rl, o⟩ := h
  by_cases c : ∃ x μ1, fe sl μ = some (.ok (.str x) μ1)
  · refine (pid_str he).run pins s σ H R I ⟨G, m, μ, sl, wf, rs, rl, ?_⟩
    obtain ⟨x, μ1, e1⟩ := c
    have q : strSrc fe sl μ = anySrc fe sl μ := by
      unfold strSrc anySrc
      rw [e1]; rfl
    rw [q]; exact o
  · refine (pid_seq he).run pins s σ H R I ⟨G, m, μ, sl, wf, rs, rl, ?_⟩
    have q : seqSrc' fe sl μ = anySrc fe sl μ := by
      unfold seqSrc' anySrc
      cases e1 : fe sl μ with
      | none => rfl
      | some oo =>
        cases oo with
        | exc x μ1 => rfl
        | ok d μ1 =>
          cases d with
          | str x => exact absurd ⟨x, μ1, e1⟩ c
          | _ => rfl
    rw [q]; exact o
end Pd
end
section
namespace Pd
open PySem PySem.Spec L2
/-! ### the laws' drawing: the mirrors as gen.py prints them in every law -/
noncomputable def b__law_source : DS :=
    (seqS (asgS (cD (.int 11)) (.nm 1))
    (seqS (forS (seqSrc' (varD 0)) (.nm 2)
    (asgS (binD modI (callB dcInt (consL (binD addD (binD addD (binD mulX (varD 1) (cD (.int 69069))) (binD mulX (varD 2) (cD (.int 31)))) (cD (.int 5))) nilL)) (cD (.int 2147483629))) (.nm 1)))
    (retS (boxD (dispD [((cD (.str "cells")), (boxD (revL (newD (lcD [2] (seqSrc' (varD 0)) (.nm 2) yesB (callB dcAbs (consL (varD 2) nilL))))))), ((cD (.str "left")), (cD (.int 1))), ((cD (.str "mixed")), (varD 1)), ((cD (.str "turn")), (cD (.int 0)))])))))
noncomputable def f__law_source : DC := bodyR b__law_source 3
noncomputable def b__law_pick : DS :=
    (seqS (whS (andB (tstD (binD (cmpI fun i j => decide (j < i)) (varD 1) (cD (.int 1)))) (andB (tstD (binD (cmpI fun i j => decide (i < j)) (binD ixD (varD 0) (cD (.str "left"))) (cD (.int 2)))) (tstD (binD (cmpI fun i j => decide (j < i)) (callB dcLen (consL (binD ixD (varD 0) (cD (.str "cells"))) nilL)) (cD (.int 0))))))
    (setS (meth0 .lst dmPop (binD ixD (varD 0) (cD (.str "cells")))) (varD 0) (cD (.str "left"))))
    (seqS (asgS (binD ixD (varD 0) (cD (.str "left"))) (.nm 2))
    (seqS (ifS (orB (tstD (binD (cmpI fun i j => decide (i < j)) (varD 1) (cD (.int 2)))) (tstD (binD (cmpI fun i j => decide (j < i)) (varD 2) (cD (.int 1)))))
    (seqS (setS (binD fdivI (varD 2) (callB dcMax2 (consL (cD (.int 1)) (consL (varD 1) nilL)))) (varD 0) (cD (.str "left")))
    (retS (binD modI (callB dcInt (consL (varD 2) nilL)) (callB dcMax2 (consL (cD (.int 1)) (consL (varD 1) nilL))))))
    nxS)
    (seqS (setS (binD addD (binD ixD (varD 0) (cD (.str "turn"))) (cD (.int 1))) (varD 0) (cD (.str "turn")))
    (seqS (asgS (binD modI (callB dcInt (consL (binD addD (binD ixD (varD 0) (cD (.str "mixed"))) (binD mulX (binD ixD (varD 0) (cD (.str "turn"))) (cD (.int 104729)))) nilL)) (cD (.int 998244353))) (.nm 3))
    (seqS (asgS (binD modI (callB dcInt (consL (binD addD (binD mulX (varD 3) (varD 3)) (binD mulX (binD ixD (varD 0) (cD (.str "turn"))) (cD (.int 17)))) nilL)) (cD (.int 2147483647))) (.nm 3))
    (seqS (setS (varD 3) (varD 0) (cD (.str "mixed")))
    (retS (binD modI (callB dcInt (consL (binD fdivI (varD 3) (cD (.int 16))) nilL)) (varD 1))))))))))
noncomputable def f__law_pick : DC := bodyR b__law_pick 4
noncomputable def b__law_of : DS :=
    (retS (binD ixD (varD 1) (callB (callN 2 f__law_pick) (consL (varD 0) (consL (callB dcLen (consL (varD 1) nilL)) nilL)))))
noncomputable def f__law_of : DC := bodyR b__law_of 2
/-! ### the plain machine, by simp -/
section
variable {α β : Type}
theorem bindR_ok {a : α} {μ : Mu} {f : α → Mu → R β} : bindR (ok a μ) f = f a μ := rfl
theorem bindR_none {f : α → Mu → R β} : bindR (none : R α) f = none := rfl
theorem lifA_ok {f : Sl → Mu → R α} {k : Sl → α → Mu → Option OutS} {sl : Sl} {μ μ1 : Mu} {a : α} (h : f sl μ = ok a μ1) : lifA f k sl μ = k sl a μ1 := by unfold lifA; rw [h]; rfl
theorem seqS_nx {f g : DS} {sl sl1 : Sl} {μ μ1 : Mu} (h : f sl μ = some (.nx sl1 μ1)) : seqS f g sl μ = g sl1 μ1 := by unfold seqS; rw [h]
theorem seqS_rt {f g : DS} {sl : Sl} {d : D} {μ μ1 : Mu} (h : f sl μ = some (.rt d μ1)) : seqS f g sl μ = some (.rt d μ1) := by unfold seqS; rw [h]
theorem seqS_ct {f g : DS} {sl sl1 : Sl} {μ μ1 : Mu} (h : f sl μ = some (.ct sl1 μ1)) : seqS f g sl μ = some (.ct sl1 μ1) := by unfold seqS; rw [h]
theorem whF_go {c : Sl → Mu → R Bool} {body : DS} {n : Nat} {sl sl2 : Sl} {μ μ1 μ2 : Mu} (hc : c sl μ = ok true μ1) (hb : body sl μ1 = some (.nx sl2 μ2) ∨ body sl μ1 = some (.ct sl2 μ2)) : whF c body (n + 1) sl μ = whF c body n sl2 μ2 := by
  rw [whF, hc]
  rcases hb with hb | hb <;> simp only [ok, hb]
theorem whF_end {c : Sl → Mu → R Bool} {body : DS} {n : Nat} {sl : Sl} {μ μ1 : Mu} (hc : c sl μ = ok false μ1) : whF c body (n + 1) sl μ = some (.nx sl μ1) := by
  rw [whF, hc]; rfl
end
def runA {α : Type} (r : R α) (g : α → Mu → Option OutS) (sl : Sl) : Option OutS := match r with
  | some (.ok a μ1) => g a μ1
  | some (.exc x μ1) => some (.exc x sl μ1)
  | none => none
def seqR (o : Option OutS) (g : DS) : Option OutS := match o with
  | some (.nx sl1 μ1) => g sl1 μ1
  | o => o
section
variable {α : Type} {f : Sl → Mu → R α} {k : Sl → α → Mu → Option OutS} {sl sl1 : Sl} {μ μ1 : Mu} {a : α} {g : α → Mu → Option OutS} {s t : DS} {d : D} {x : Exn}
theorem lifA_run : lifA f k sl μ = runA (f sl μ) (k sl) sl := rfl
theorem runA_ok : runA (ok a μ) g sl = g a μ := rfl
theorem runA_exc : runA (some (.exc x μ)) g sl = some (.exc x sl μ) := rfl
theorem seqS_run : seqS s t sl μ = seqR (s sl μ) t := rfl
theorem seqR_nx : seqR (some (.nx sl μ)) t = t sl μ := rfl
theorem seqR_rt : seqR (some (.rt d μ)) t = some (.rt d μ) := rfl
theorem seqR_ct : seqR (some (.ct sl μ)) t = some (.ct sl μ) := rfl
theorem seqR_bk : seqR (some (.bk sl μ)) t = some (.bk sl μ) := rfl
theorem seqR_exc : seqR (some (.exc x sl μ)) t = some (.exc x sl μ) := rfl
theorem nxS_run : nxS sl μ = some (.nx sl μ) := rfl
theorem ctS_run : ctS sl μ = some (.ct sl μ) := rfl
theorem bkS_run : bkS sl μ = some (.bk sl μ) := rfl
theorem varD_none {i : Nat} (h : sl[i]? = some (some d)) : varD i sl μ = ok d μ := by unfold varD; rw [h]
theorem bindR_exc {β : Type} {f : α → Mu → R β} : bindR (some (.exc x μ)) f = some (.exc x μ) := rfl
end

/-! ### where the numbers are drawn from -/
def keysS : List Key := [.inr "cells", .inr "left", .inr "mixed", .inr "turn"]
structure SrcAt (μ : Mu) (l c : Nat) (cs : List Int) (a m t : Int) : Prop where
  hl : μ[l]? = some (some (.dic keysS [.ref c, .int a, .int m, .int t]))
  hc : μ[c]? = some (some (.lst (cs.map D.int)))
theorem SrcAt.ne {μ : Mu} {l c : Nat} {cs : List Int} {a m t : Int} (h : SrcAt μ l c cs a m t) : l ≠ c := fun z => by
  have h1 := h.hl
  rw [z, h.hc] at h1
  cases h1
section
variable {μ : Mu} {l c : Nat} {cs : List Int} {a m t : Int}
theorem src_left (h : SrcAt μ l c cs a m t) : ixD (.ref l) (.str "left") μ = ok (.int a) μ := by
  simp only [ixD, dicOf, h.hl]; rfl
theorem src_mixed (h : SrcAt μ l c cs a m t) : ixD (.ref l) (.str "mixed") μ = ok (.int m) μ := by
  simp only [ixD, dicOf, h.hl]; rfl
theorem src_turn (h : SrcAt μ l c cs a m t) : ixD (.ref l) (.str "turn") μ = ok (.int t) μ := by
  simp only [ixD, dicOf, h.hl]; rfl
theorem src_cells (h : SrcAt μ l c cs a m t) : ixD (.ref l) (.str "cells") μ = ok (.ref c) μ := by
  simp only [ixD, dicOf, h.hl]; rfl
def putS (μ : Mu) (l c : Nat) (a m t : Int) : Mu := μ.set l (some (.dic keysS [.ref c, .int a, .int m, .int t]))
theorem set_left (h : SrcAt μ l c cs a m t) (x : Int) : setD (.ref l) (.str "left") (.int x) μ = some (putS μ l c x m t) := by
  simp only [setD, h.hl, keyOf]; rfl
theorem set_mixed (h : SrcAt μ l c cs a m t) (x : Int) : setD (.ref l) (.str "mixed") (.int x) μ = some (putS μ l c a x t) := by
  simp only [setD, h.hl, keyOf]; rfl
theorem set_turn (h : SrcAt μ l c cs a m t) (x : Int) : setD (.ref l) (.str "turn") (.int x) μ = some (putS μ l c a m x) := by
  simp only [setD, h.hl, keyOf]; rfl
theorem SrcAt.put (h : SrcAt μ l c cs a m t) (a' m' t' : Int) : SrcAt (putS μ l c a' m' t') l c cs a' m' t' := by
  have hl := (List.getElem?_eq_some_iff.mp h.hl).1
  refine ⟨List.getElem?_set_self hl, ?_⟩
  unfold putS
  rw [List.getElem?_set_ne h.ne]; exact h.hc
theorem src_pop {x : Int} (h : SrcAt μ l c (cs ++ [x]) a m t) : dmPop (.ref c) [] μ = ok (.int x) (setL μ c (cs.map D.int)) := by
  simp [dmPop, rawL, h.hc]
theorem SrcAt.popped {x : Int} (h : SrcAt μ l c (cs ++ [x]) a m t) : SrcAt (setL μ c (cs.map D.int)) l c cs a m t := by
  have hc := (List.getElem?_eq_some_iff.mp h.hc).1
  refine ⟨?_, List.getElem?_set_self hc⟩
  unfold setL
  rw [List.getElem?_set_ne (Ne.symm h.ne)]; exact h.hl
end
end Pd
end
section
namespace Pd
open PySem PySem.Spec L2
theorem bits_le {i : Int} {k : Nat} (h : i.natAbs < 2 ^ k) : Builtin.Int.intBits i ≤ k := by
  unfold Builtin.Int.intBits
  split
  · exact Nat.zero_le _
  · rename_i hi
    have : i.natAbs ≠ 0 := by simpa using hi
    have := (Nat.log2_lt this).mpr h
    omega
theorem mulOk_small {i j : Int} (hi : i.natAbs < 2 ^ 64) (hj : j.natAbs < 2 ^ 64) : mulOk i j = true := by
  unfold mulOk
  have := bits_le hi
  have := bits_le hj
  exact decide_eq_true (by omega)
section
variable {μ : Mu} {l c : Nat} {cs : List Int} {a m t many : Int}
def pickC : Sl → Mu → R Bool := (andB (tstD (binD (cmpI fun i j => decide (j < i)) (varD 1) (cD (.int 1)))) (andB (tstD (binD (cmpI fun i j => decide (i < j)) (binD ixD (varD 0) (cD (.str "left"))) (cD (.int 2)))) (tstD (binD (cmpI fun i j => decide (j < i)) (callB dcLen (consL (binD ixD (varD 0) (cD (.str "cells"))) nilL)) (cD (.int 0))))))
def pickB : DS := (setS (meth0 .lst dmPop (binD ixD (varD 0) (cD (.str "cells")))) (varD 0) (cD (.str "left")))
theorem len_cells (h : SrcAt μ l c cs a m t) : dcLen [.ref c] μ = ok (.int cs.length) μ := by
  simp only [dcLen, seqOf, lstOf, h.hc, List.length_map]
theorem pick_cond (h : SrcAt μ l c cs a m t) {x y : Option D} : pickC [some (.ref l), some (.int many), x, y] μ = ok (decide (1 < many) && (decide (a < 2) && decide (0 < cs.length))) μ := by
  unfold pickC
  simp only [lifA_run, runA_ok, runA_exc, seqS_run, seqR_nx, seqR_rt, seqR_ct, seqR_bk, seqR_exc, nxS_run, ctS_run, bkS_run, asgS, parS, retS, expS, ifS, setS, augS, varD, cD, binD, tstD, andB, orB, notB, truB, callB, callN, consL, nilL, meth0, bindR_ok, bindR_none, bindR_exc, bindT, bindTs, int2, cmpI, addD, addI, subI, mulX, mulD, mulI, fdivI, modI, dcInt, dcMax2, dcMin2, dcAbs, List.getElem?_cons_zero, List.getElem?_cons_succ, List.getElem?_nil, if_true, if_false, Bool.true_and, Bool.and_true, List.set_cons_zero, List.set_cons_succ, List.length_cons, List.length_nil, reduceIte, Nat.reduceAdd, Nat.reduceEqDiff, decide_true, decide_false, Bool.false_eq_true, src_left h, src_cells h, len_cells h]
  by_cases h1 : (1 : Int) < many
  · by_cases h2 : a < 2
    · simp [h1, h2]
    · simp [h1, h2]
  · simp [h1]
theorem pick_body {x : Int} (h : SrcAt μ l c (cs ++ [x]) a m t) {u v : Option D} : pickB [some (.ref l), some (.int many), u, v] μ = some (.nx [some (.ref l), some (.int many), u, v] (putS (setL μ c (cs.map D.int)) l c x m t)) := by
  have ht : tyD .lst μ (.ref c) = true := by simp [tyD, lstOf, h.hc]
  unfold pickB
  simp only [lifA_run, runA_ok, runA_exc, seqS_run, seqR_nx, seqR_rt, seqR_ct, seqR_bk, seqR_exc, nxS_run, ctS_run, bkS_run, asgS, parS, retS, expS, ifS, setS, augS, varD, cD, binD, tstD, andB, orB, notB, truB, callB, callN, consL, nilL, meth0, bindR_ok, bindR_none, bindR_exc, bindT, bindTs, int2, cmpI, addD, addI, subI, mulX, mulD, mulI, fdivI, modI, dcInt, dcMax2, dcMin2, dcAbs, List.getElem?_cons_zero, List.getElem?_cons_succ, List.getElem?_nil, if_true, if_false, Bool.true_and, Bool.and_true, List.set_cons_zero, List.set_cons_succ, List.length_cons, List.length_nil, reduceIte, Nat.reduceAdd, Nat.reduceEqDiff, decide_true, decide_false, Bool.false_eq_true, src_cells h, ht, src_pop h, set_left h.popped]
/-- nothing else of the store is touched -/
structure Frm (μ μ' : Mu) (l c : Nat) : Prop where
  len : μ'.length = μ.length
  at_ : ∀ j, j ≠ l → j ≠ c → μ'[j]? = μ[j]?
theorem Frm.refl : Frm μ μ l c := ⟨rfl, fun _ _ _ => rfl⟩
theorem Frm.trans {μ' μ'' : Mu} (h : Frm μ μ' l c) (h' : Frm μ' μ'' l c) : Frm μ μ'' l c := ⟨h'.len.trans h.len, fun j h1 h2 => (h'.at_ j h1 h2).trans (h.at_ j h1 h2)⟩
theorem Frm.put {a m t : Int} : Frm μ (putS μ l c a m t) l c := ⟨by simp [putS], fun j h1 _ => by unfold putS; rw [List.getElem?_set_ne (Ne.symm h1)]⟩
theorem Frm.setL {ds : List D} : Frm μ (setL μ c ds) l c := ⟨by simp [Pd.setL], fun j _ h2 => by unfold Pd.setL; rw [List.getElem?_set_ne (Ne.symm h2)]⟩
/-- the loop of _law_pick -/
theorem pick_loop {x y : Option D} : ∀ (n : Nat) (cs : List Int) (μ : Mu) (a : Int), cs.length = n → SrcAt μ l c cs a m t → (∀ z ∈ cs, 0 ≤ z) → 0 ≤ a →
    ∃ cs' a' μ', whF pickC pickB (n + 1) [some (.ref l), some (.int many), x, y] μ = some (.nx [some (.ref l), some (.int many), x, y] μ') ∧ SrcAt μ' l c cs' a' m t ∧ (∀ z ∈ cs', 0 ≤ z) ∧ 0 ≤ a' ∧ Frm μ μ' l c := by
  intro n
  induction n with
  | zero =>
    intro cs μ a hn h hp ha
    have : cs = [] := List.length_eq_zero_iff.mp hn
    subst this
    refine ⟨[], a, μ, whF_end ?_, h, hp, ha, .refl⟩
    rw [pick_cond h]
    simp
  | succ n ih =>
    intro cs μ a hn h hp ha
    by_cases hc : (decide (1 < many) && (decide (a < 2) && decide (0 < cs.length))) = true
    · rcases List.eq_nil_or_concat cs with rfl | ⟨cs', z, rfl⟩
      · simp at hn
      · rw [List.concat_eq_append] at *
        have hl : cs'.length = n := by simpa using hn
        obtain ⟨cs2, a2, μ2, e, q1, q2, q3, q4⟩ := ih cs' (putS (setL μ c (cs'.map D.int)) l c z m t) z hl (h.popped.put z m t) (fun w hw => hp w (List.mem_append_left _ hw)) (hp z (by simp))
        refine ⟨cs2, a2, μ2, ?_, q1, q2, q3, (Frm.setL.trans Frm.put).trans q4⟩
        rw [whF_go (by rw [pick_cond h, hc]) (.inl (pick_body h)), e]
    · refine ⟨cs, a, μ, whF_end ?_, h, hp, ha, .refl⟩
      rw [pick_cond h]
      simp only [Bool.not_eq_true] at hc
      rw [hc]
end
end Pd
end
section
namespace Pd
open PySem PySem.Spec L2
theorem divOk_of {i j : Int} (h0 : j ≠ 0) (h : j.natAbs.log2 < 9000) : divOk i j = true := by
  unfold divOk
  rw [decide_eq_true h0, decide_eq_true h]; rfl
section
variable {μ : Mu} {l c : Nat} {cs : List Int} {a m t many : Int}
theorem bodyR_rt {b : DS} {n : Nat} {ds : List D} {d : D} {μ' : Mu} (h : b (ds.map some ++ List.replicate (n - ds.length) none) μ = some (.rt d μ')) : bodyR b n ds μ = ok d μ' := by
  unfold bodyR; rw [h]
/-- source: the state of the drawing -/
structure SrcOk' (μ : Mu) (l c : Nat) (cs : List Int) (a m t : Int) : Prop extends SrcAt μ l c cs a m t where
  hcs : ∀ z ∈ cs, 0 ≤ z
  ha : 0 ≤ a
  hm : 0 ≤ m ∧ m < 2147483648
  ht : 0 ≤ t
theorem pick_ok (h : SrcOk' μ l c cs a m t) (ht : t < 2 ^ 40) (hmany : many.natAbs.log2 < 9000) :
    ∃ r cs' a' m' t' μ', f__law_pick [.ref l, .int many] μ = ok (.int r) μ' ∧ SrcOk' μ' l c cs' a' m' t' ∧ t' ≤ t + 1 ∧ 0 ≤ r ∧ (r < many ∨ r = 0) ∧ Frm μ μ' l c := by
  obtain ⟨cs1, a1, μ1, e1, h1, q1, q2, q3⟩ := pick_loop (many := many) (x := none) (y := none) cs.length cs μ a rfl h.toSrcAt h.hcs h.ha
  have w1 : whS pickC pickB [some (.ref l), some (.int many), none, none] μ = some (.nx [some (.ref l), some (.int many), none, none] μ1) := whS_of e1
  have hmax : ∀ μ : Mu, dcMax2 [.int 1, .int many] μ = ok (.int (if many > 1 then many else 1)) μ := fun _ => rfl
  have hmx0 : (if many > 1 then many else 1) ≠ 0 := by split <;> omega
  have hmxp : 0 < (if many > 1 then many else 1) := by split <;> omega
  have hmxd : divOk a1 (if many > 1 then many else 1) = true := divOk_of hmx0 (by split; exact hmany; decide)
  by_cases hb : many < 2 ∨ a1 > 1
  · -- the number at hand
    refine ⟨a1.fmod (if many > 1 then many else 1), cs1, a1.fdiv (if many > 1 then many else 1), m, t, putS μ1 l c (a1.fdiv (if many > 1 then many else 1)) m t, ?_, ⟨h1.put _ _ _, q1, Int.fdiv_nonneg q2 (Int.le_of_lt hmxp), h.hm, h.ht⟩, by omega, Int.fmod_nonneg_of_pos _ hmxp, ?_, q3.trans Frm.put⟩
    · refine bodyR_rt ?_
      show b__law_pick [some (.ref l), some (.int many), none, none] μ = _
      unfold b__law_pick
      refine (seqS_nx w1).trans ?_
      by_cases hm2 : many < 2
      · simp only [lifA_run, runA_ok, runA_exc, seqS_run, seqR_nx, seqR_rt, seqR_ct, seqR_bk, seqR_exc, nxS_run, ctS_run, bkS_run, asgS, parS, retS, expS, ifS, setS, augS, varD, cD, binD, tstD, andB, orB, notB, truB, callB, callN, consL, nilL, meth0, bindR_ok, bindR_none, bindR_exc, bindT, bindTs, int2, cmpI, addD, addI, subI, mulX, mulD, mulI, fdivI, modI, dcInt, dcMax2, dcMin2, dcAbs, List.getElem?_cons_zero, List.getElem?_cons_succ, List.getElem?_nil, if_true, if_false, Bool.true_and, Bool.and_true, List.set_cons_zero, List.set_cons_succ, List.length_cons, List.length_nil, reduceIte, Nat.reduceAdd, Nat.reduceEqDiff, decide_true, decide_false, Bool.false_eq_true, src_left h1, hmax, hmxd, set_left h1, decide_eq_true hm2, decide_eq_true hmx0]
      · have h2 : 1 < a1 := by omega
        simp only [lifA_run, runA_ok, runA_exc, seqS_run, seqR_nx, seqR_rt, seqR_ct, seqR_bk, seqR_exc, nxS_run, ctS_run, bkS_run, asgS, parS, retS, expS, ifS, setS, augS, varD, cD, binD, tstD, andB, orB, notB, truB, callB, callN, consL, nilL, meth0, bindR_ok, bindR_none, bindR_exc, bindT, bindTs, int2, cmpI, addD, addI, subI, mulX, mulD, mulI, fdivI, modI, dcInt, dcMax2, dcMin2, dcAbs, List.getElem?_cons_zero, List.getElem?_cons_succ, List.getElem?_nil, if_true, if_false, Bool.true_and, Bool.and_true, List.set_cons_zero, List.set_cons_succ, List.length_cons, List.length_nil, reduceIte, Nat.reduceAdd, Nat.reduceEqDiff, decide_true, decide_false, Bool.false_eq_true, src_left h1, hmax, hmxd, set_left h1, decide_eq_false hm2, decide_eq_true h2, decide_eq_true hmx0]
    · have := Int.fmod_lt_of_pos a1 hmxp
      by_cases hm2 : many > 1
      · rw [if_pos hm2] at this ⊢; exact .inl this
      · rw [if_neg hm2] at this ⊢
        have := Int.fmod_nonneg_of_pos a1 (b := 1) (by omega)
        exact .inr (by omega)
  · -- the mixed one
    have hm2 : ¬ many < 2 := fun z => hb (.inl z)
    have ha2 : ¬ 1 < a1 := fun z => hb (.inr z)
    have hmm : 0 < many := by omega
    have ht0 := h.ht
    have b1 : (t + 1).natAbs < 2 ^ 64 := by omega
    have ok1 : mulOk (t + 1) 104729 = true := mulOk_small b1 (by decide)
    have ok3 : mulOk (t + 1) 17 = true := mulOk_small b1 (by decide)
    have h2 := h1.put a1 m (t + 1)
    have m1p := Int.fmod_nonneg_of_pos (m + (t + 1) * 104729) (b := 998244353) (by omega)
    have m1l := Int.fmod_lt_of_pos (m + (t + 1) * 104729) (b := 998244353) (by omega)
    obtain ⟨m1, em1⟩ : ∃ m1, m1 = (m + (t + 1) * 104729).fmod 998244353 := ⟨_, rfl⟩
    rw [← em1] at m1p m1l
    have ok2 : mulOk m1 m1 = true := mulOk_small (by omega) (by omega)
    have m2p := Int.fmod_nonneg_of_pos (m1 * m1 + (t + 1) * 17) (b := 2147483647) (by omega)
    have m2l := Int.fmod_lt_of_pos (m1 * m1 + (t + 1) * 17) (b := 2147483647) (by omega)
    obtain ⟨m2, em2⟩ : ∃ m2, m2 = (m1 * m1 + (t + 1) * 17).fmod 2147483647 := ⟨_, rfl⟩
    rw [← em2] at m2p m2l
    have h3 := h2.put a1 m2 (t + 1)
    have d16 : divOk m2 16 = true := divOk_of (by decide) (by decide)
    refine ⟨(m2.fdiv 16).fmod many, cs1, a1, m2, t + 1, putS (putS μ1 l c a1 m (t + 1)) l c a1 m2 (t + 1), ?_, ⟨h3, q1, q2, ⟨m2p, by omega⟩, by have := h.ht; omega⟩, by omega, Int.fmod_nonneg_of_pos _ hmm, .inl (Int.fmod_lt_of_pos _ hmm), (q3.trans Frm.put).trans Frm.put⟩
    refine bodyR_rt ?_
    show b__law_pick [some (.ref l), some (.int many), none, none] μ = _
    unfold b__law_pick
    refine (seqS_nx w1).trans ?_
    have hne : many ≠ 0 := by omega
    simp only [lifA_run, runA_ok, runA_exc, seqS_run, seqR_nx, seqR_rt, seqR_ct, seqR_bk, seqR_exc, nxS_run, ctS_run, bkS_run, asgS, parS, retS, expS, ifS, setS, augS, varD, cD, binD, tstD, andB, orB, notB, truB, callB, callN, consL, nilL, meth0, bindR_ok, bindR_none, bindR_exc, bindT, bindTs, int2, cmpI, addD, addI, subI, mulX, mulD, mulI, fdivI, modI, dcInt, dcMax2, dcMin2, dcAbs, List.getElem?_cons_zero, List.getElem?_cons_succ, List.getElem?_nil, if_true, if_false, Bool.true_and, Bool.and_true, List.set_cons_zero, List.set_cons_succ, List.length_cons, List.length_nil, reduceIte, Nat.reduceAdd, Nat.reduceEqDiff, decide_true, decide_false, Bool.false_eq_true, src_left h1, decide_eq_false hm2, decide_eq_false ha2, src_turn h1, set_turn h1, src_turn h2, src_mixed h2, ok1, ← em1, ok2, ok3, ← em2, set_mixed h2, d16, decide_eq_true hne, (by decide : decide ((998244353 : Int) ≠ 0) = true), (by decide : decide ((2147483647 : Int) ≠ 0) = true)]
end
end Pd
end
section
namespace Pd
open PySem PySem.Spec L2
/-! ### _law_source -/
theorem forS_st {src : Sl → Mu → R Src} {t : Tg} {body : DS} {sl : Sl} {μ μ1 : Mu} {ds : List D} (h : src sl μ = ok (.st ds) μ1) : forS src t body sl μ = forL (fun _ => true) t body ds sl μ1 := by
  unfold forS
  rw [lifA_run, h]; rfl
theorem lcD_st {own : List Nat} {src : Sl → Mu → R Src} {t : Tg} {c : Sl → Mu → R Bool} {e : DE} {sl : Sl} {μ μ1 : Mu} {ds : List D} (h : src sl μ = ok (.st ds) μ1) : lcD own src t c e sl μ = lcL (fun _ => true) t c e (wipeD sl own) ds [] μ1 := by
  unfold lcD
  rw [h]; rfl
/-- a comprehension whose elements are told one by one -/
theorem lcL_mapP {own : Nat} {e : DE} {sl : Sl} {μ : Mu} (p : D → Prop) (f : D → D) (he : ∀ d, p d → e (sl.set own (some d)) μ = ok (f d) μ) : ∀ (ds acc : List D), (∀ d ∈ ds, p d) → acc.length + ds.length ≤ sizeLine → lcL (fun _ => true) (.nm own) yesB e sl ds acc μ = ok (.lst (acc ++ ds.map f)) μ
  | [], acc, _, _ => by simp [lcL]
  | d :: ds, acc, hp, hz => by
    have hz : acc.length + ds.length + 1 ≤ sizeLine := by simpa [Nat.add_assoc] using hz
    have ih := lcL_mapP p f he ds (acc ++ [f d]) (fun x hx => hp x (List.mem_cons_of_mem _ hx)) (by simp; omega)
    have h0 : acc.length < sizeLine := by omega
    have he' : e (sl.set own (some d)) μ = some (.ok (f d) μ) := he d (hp d List.mem_cons_self)
    simp only [lcL, if_true, bindT, yesB, ok]
    rw [he']
    simp only [if_pos h0]
    rw [ih]
    simp [ok]
def srcB : DS := (asgS (binD modI (callB dcInt (consL (binD addD (binD addD (binD mulX (varD 1) (cD (.int 69069))) (binD mulX (varD 2) (cD (.int 31)))) (cD (.int 5))) nilL)) (cD (.int 2147483629))) (.nm 1))
theorem src_loop {x : Option D} {μ : Mu} : ∀ (ns : List Int) (m : Int) (y : Option D), 0 ≤ m → m < 2147483648 → (∀ z ∈ ns, Builtin.Int.intBits z ≤ 1048576) →
    ∃ m' y', forL (fun _ => true) (.nm 2) srcB (ns.map D.int) [x, some (.int m), y] μ = some (.nx [x, some (.int m'), y'] μ) ∧ 0 ≤ m' ∧ m' < 2147483648
  | [], m, y, h1, h2, _ => ⟨m, y, by simp [forL], h1, h2⟩
  | n :: ns, m, y, h1, h2, hz => by
    have ok1 : mulOk m 69069 = true := mulOk_small (by omega) (by decide)
    have b1 := hz n List.mem_cons_self
    have b2 : Builtin.Int.intBits 31 ≤ 5 := bits_le (by decide)
    have ok2 : mulOk n 31 = true := by
      unfold mulOk
      exact decide_eq_true (by omega)
    have p := Int.fmod_nonneg_of_pos (m * 69069 + n * 31 + 5) (b := 2147483629) (by omega)
    have l := Int.fmod_lt_of_pos (m * 69069 + n * 31 + 5) (b := 2147483629) (by omega)
    obtain ⟨m', y', e, q1, q2⟩ := src_loop ns _ (some (.int n)) p (by omega) (fun z hz' => hz z (List.mem_cons_of_mem _ hz'))
    refine ⟨m', y', ?_, q1, q2⟩
    have step : srcB [x, some (.int m), some (.int n)] μ = some (.nx [x, some (.int ((m * 69069 + n * 31 + 5).fmod 2147483629)), some (.int n)] μ) := by
      unfold srcB
      simp only [lifA_run, runA_ok, runA_exc, seqS_run, seqR_nx, seqR_rt, seqR_ct, seqR_bk, seqR_exc, nxS_run, ctS_run, bkS_run, asgS, parS, retS, expS, ifS, setS, augS, varD, cD, binD, tstD, andB, orB, notB, truB, callB, callN, consL, nilL, meth0, bindR_ok, bindR_none, bindR_exc, bindT, bindTs, int2, cmpI, addD, addI, subI, mulX, mulD, mulI, fdivI, modI, dcInt, dcMax2, dcMin2, dcAbs, List.getElem?_cons_zero, List.getElem?_cons_succ, List.getElem?_nil, if_true, if_false, Bool.true_and, Bool.and_true, List.set_cons_zero, List.set_cons_succ, List.length_cons, List.length_nil, reduceIte, Nat.reduceAdd, Nat.reduceEqDiff, decide_true, decide_false, Bool.false_eq_true, ok1, ok2, (by decide : decide ((2147483629 : Int) ≠ 0) = true)]
    rw [List.map_cons, forL]
    simp only [if_true, bindT, List.set_cons_zero, List.set_cons_succ]
    rw [step]
    exact e
theorem source_ok (ns : List Int) (μ : Mu) (hn : ns.length ≤ 1000) (hz : ∀ z ∈ ns, Builtin.Int.intBits z ≤ 1048576) :
    ∃ (cs : List Int) (m : Int), f__law_source [.lst (ns.map D.int)] μ = ok (.ref (μ.length + 1)) (μ ++ [some (.lst (cs.map D.int)), some (.dic keysS [.ref μ.length, .int 1, .int m, .int 0])]) ∧ (∀ z ∈ cs, 0 ≤ z) ∧ 0 ≤ m ∧ m < 2147483648 := by
  obtain ⟨m, y, e, q1, q2⟩ := src_loop (x := some (.lst (ns.map D.int))) (μ := μ) ns 11 none (by omega) (by omega) hz
  have s1 : seqSrc' (varD 0) [some (.lst (ns.map D.int)), some (.int 11), none] μ = ok (.st (ns.map D.int)) μ := rfl
  have s2 : seqSrc' (varD 0) [some (.lst (ns.map D.int)), some (.int m), y] μ = ok (.st (ns.map D.int)) μ := rfl
  have f1 : forS (seqSrc' (varD 0)) (.nm 2) srcB [some (.lst (ns.map D.int)), some (.int 11), none] μ = some (.nx [some (.lst (ns.map D.int)), some (.int m), y] μ) := (forS_st s1).trans e
  have l1 : lcD [2] (seqSrc' (varD 0)) (.nm 2) yesB (callB dcAbs (consL (varD 2) nilL)) [some (.lst (ns.map D.int)), some (.int m), y] μ = ok (.lst ((ns.map fun i => if i < 0 then -i else i).map D.int)) μ := by
    rw [lcD_st s2]
    have := lcL_mapP (own := 2) (e := callB dcAbs (consL (varD 2) nilL)) (sl := wipeD [some (.lst (ns.map D.int)), some (.int m), y] [2]) (μ := μ) (fun d => ∃ i, d = .int i) (fun d => match d with | .int i => .int (if i < 0 then -i else i) | d => d) (fun d ⟨i, hd⟩ => by
      subst hd
      simp only [wipeD]
      simp only [lifA_run, runA_ok, runA_exc, seqS_run, seqR_nx, seqR_rt, seqR_ct, seqR_bk, seqR_exc, nxS_run, ctS_run, bkS_run, asgS, parS, retS, expS, ifS, setS, augS, varD, cD, binD, tstD, andB, orB, notB, truB, callB, callN, consL, nilL, meth0, bindR_ok, bindR_none, bindR_exc, bindT, bindTs, int2, cmpI, addD, addI, subI, mulX, mulD, mulI, fdivI, modI, dcInt, dcMax2, dcMin2, dcAbs, List.getElem?_cons_zero, List.getElem?_cons_succ, List.getElem?_nil, if_true, if_false, Bool.true_and, Bool.and_true, List.set_cons_zero, List.set_cons_succ, List.length_cons, List.length_nil, reduceIte, Nat.reduceAdd, Nat.reduceEqDiff, decide_true, decide_false, Bool.false_eq_true]) (ns.map D.int) [] (fun d hd => by
        obtain ⟨i, _, e⟩ := List.mem_map.mp hd
        exact ⟨i, e.symm⟩) (by rw [List.length_map, sizeLine_eq]; simp; omega)
    rw [this, List.nil_append, List.map_map, List.map_map]
    rfl
  refine ⟨(ns.map fun i => if i < 0 then -i else i).reverse, m, ?_, fun z hz' => ?_, q1, q2⟩
  · refine bodyR_rt ?_
    show b__law_source [some (.lst (ns.map D.int)), none, none] μ = _
    unfold b__law_source
    rw [seqS_nx (sl1 := [some (.lst (ns.map D.int)), some (.int 11), none]) (μ1 := μ) rfl]
    refine (seqS_nx f1).trans ?_
    have hm : mergD [] [] [((.inr "cells" : Key), D.ref μ.length), (.inr "left", D.int 1), (.inr "mixed", D.int m), (.inr "turn", D.int 0)] = (keysS, [.ref μ.length, .int 1, .int m, .int 0]) := by rfl
    simp only [lifA_run, runA_ok, runA_exc, seqS_run, seqR_nx, seqR_rt, seqR_ct, seqR_bk, seqR_exc, nxS_run, ctS_run, bkS_run, asgS, parS, retS, expS, ifS, setS, augS, varD, cD, binD, tstD, andB, orB, notB, truB, callB, callN, consL, nilL, meth0, bindR_ok, bindR_none, bindR_exc, bindT, bindTs, int2, cmpI, addD, addI, subI, mulX, mulD, mulI, fdivI, modI, dcInt, dcMax2, dcMin2, dcAbs, List.getElem?_cons_zero, List.getElem?_cons_succ, List.getElem?_nil, if_true, if_false, Bool.true_and, Bool.and_true, List.set_cons_zero, List.set_cons_succ, List.length_cons, List.length_nil, reduceIte, Nat.reduceAdd, Nat.reduceEqDiff, decide_true, decide_false, Bool.false_eq_true, boxD, dispD, pairD, revL, newD, l1, lstOf, keyOf, hm, (by decide : (4 : Nat) ≤ 15), List.length_append, List.append_assoc, List.map_reverse, List.cons_append, List.nil_append]
  · have hz' := List.mem_reverse.mp hz'
    obtain ⟨i, _, rfl⟩ := List.mem_map.mp hz'
    split <;> omega
end Pd
end
section
namespace Pd
open PySem PySem.Spec L2
/-! ### data that holds nothing changeable, as the kit's data -/
mutual
def pyD : D → Option PyData
  | .non => some .none
  | .bl b => some (.bool b)
  | .int i => some (.int i)
  | .str x => some (.str x)
  | .tup ds => match pyL ds with
    | some ps => some (.tuple ps)
    | none => none
  | .lst ds => match pyL ds with
    | some ps => some (.list ps)
    | none => none
  | .dic _ _ => none
  | .dit _ _ => none
  | .cst _ => none
  | .ref _ => none
  | .exn _ _ _ _ => none
def pyL : List D → Option (List PyData)
  | [] => some []
  | d :: ds => match pyD d, pyL ds with
    | some p, some ps => some (p :: ps)
    | _, _ => none
end
mutual
theorem toPy_pyD {μ : Mu} : ∀ (d : D) (n : Nat) (p : PyData), pyD d = some p → p.depth < n → toPy μ n d = some p
  | d, 0, p, _, h => absurd h (Nat.not_lt_zero _)
  | .non, n + 1, p, h, _ => by rw [pyD] at h; cases h; rfl
  | .bl b, n + 1, p, h, _ => by rw [pyD] at h; cases h; rfl
  | .int i, n + 1, p, h, _ => by rw [pyD] at h; cases h; rfl
  | .str x, n + 1, p, h, _ => by rw [pyD] at h; cases h; rfl
  | .tup ds, n + 1, p, h, hd => by
    rw [pyD] at h
    cases e : pyL ds with
    | none => rw [e] at h; cases h
    | some ps =>
      rw [e] at h; cases h
      rw [PyData.depth] at hd
      rw [toPy, toPys_pyL ds n ps e (by omega)]; rfl
  | .lst ds, n + 1, p, h, hd => by
    rw [pyD] at h
    cases e : pyL ds with
    | none => rw [e] at h; cases h
    | some ps =>
      rw [e] at h; cases h
      rw [PyData.depth] at hd
      rw [toPy, toPys_pyL ds n ps e (by omega)]; rfl
  | .dic _ _, n + 1, p, h, _ => by rw [pyD] at h; cases h
  | .dit _ _, n + 1, p, h, _ => by rw [pyD] at h; cases h
  | .cst _, n + 1, p, h, _ => by rw [pyD] at h; cases h
  | .ref _, n + 1, p, h, _ => by rw [pyD] at h; cases h
  | .exn _ _ _ _, n + 1, p, h, _ => by rw [pyD] at h; cases h
theorem toPys_pyL {μ : Mu} : ∀ (ds : List D) (n : Nat) (ps : List PyData), pyL ds = some ps → PyData.depthAll ps < n → ds.mapM (toPy μ n) = some ps
  | [], n, ps, h, _ => by rw [pyL] at h; cases h; rfl
  | d :: ds, n, ps, h, hd => by
    rw [pyL] at h
    cases e1 : pyD d with
    | none => rw [e1] at h; cases h
    | some p =>
      cases e2 : pyL ds with
      | none => rw [e1, e2] at h; cases h
      | some r =>
        rw [e1, e2] at h; cases h
        rw [PyData.depthAll] at hd
        rw [List.mapM_cons, toPy_pyD d n p e1 (by omega), toPys_pyL ds n r e2 (by omega)]; rfl
end
mutual
theorem pyD_inj : ∀ {d e : D} {p : PyData}, pyD d = some p → pyD e = some p → d = e
  | d, e, .none, h1, h2 => by
    cases d <;> cases e <;> simp_all [pyD] <;> (split at * <;> simp_all)
  | d, e, .bool b, h1, h2 => by
    cases d <;> cases e <;> simp_all [pyD] <;> (split at * <;> simp_all)
  | d, e, .int i, h1, h2 => by
    cases d <;> cases e <;> simp_all [pyD] <;> (split at * <;> simp_all)
  | d, e, .str x, h1, h2 => by
    cases d <;> cases e <;> simp_all [pyD] <;> (split at * <;> simp_all)
  | d, e, .dict x, h1, h2 => by
    cases d <;> cases e <;> simp_all [pyD] <;> (split at * <;> simp_all)
  | d, e, .list ps, h1, h2 => by
    cases d <;> simp_all [pyD] <;> (split at * <;> simp_all)
    rename_i ds ps1 e1
    cases e <;> simp_all [pyD] <;> (split at * <;> simp_all)
    rename_i es ps2 e2
    exact pyL_inj e1 e2
  | d, e, .tuple ps, h1, h2 => by
    cases d <;> simp_all [pyD] <;> (split at * <;> simp_all)
    rename_i ds ps1 e1
    cases e <;> simp_all [pyD] <;> (split at * <;> simp_all)
    rename_i es ps2 e2
    exact pyL_inj e1 e2
theorem pyL_inj : ∀ {ds es : List D} {ps : List PyData}, pyL ds = some ps → pyL es = some ps → ds = es
  | ds, es, [], h1, h2 => by
    cases ds <;> cases es <;> simp_all [pyL] <;> (split at * <;> simp_all)
  | ds, es, p :: ps, h1, h2 => by
    cases ds with
    | nil => simp [pyL] at h1
    | cons d ds =>
      cases es with
      | nil => simp [pyL] at h2
      | cons e es =>
        rw [pyL] at h1 h2
        split at h1
        · rename_i a b q1 q2
          cases h1
          split at h2
          · rename_i a' b' q3 q4
            cases h2
            rw [pyD_inj q1 q3, pyL_inj q2 q4]
          · cases h2
        · cases h1
end
end Pd
end
section
namespace Pd
open PySem PySem.Spec L2
/-! ### equal data -/
mutual
def nob : PyData → Bool
  | .none => true
  | .bool _ => false
  | .int _ => true
  | .str _ => true
  | .list ps => nobL ps
  | .tuple ps => nobL ps
  | .dict _ => false
def nobL : List PyData → Bool
  | [] => true
  | p :: ps => nob p && nobL ps
end
mutual
theorem eqv_eq : ∀ (p q : PyData), nob p = true → nob q = true → PyData.eqv p q = true → p = q
  | .none, q, _, _, h => by cases q <;> simp_all [PyData.eqv]
  | .bool b, q, h, _, _ => by simp [nob] at h
  | .int i, q, _, hq, h => by cases q <;> simp_all [PyData.eqv, nob]
  | .str x, q, _, _, h => by cases q <;> simp_all [PyData.eqv]
  | .list ps, q, hp, hq, h => by
    cases q with
    | list qs =>
      rw [PyData.eqv] at h
      rw [nob] at hp hq
      rw [eqvAll_eq ps qs hp hq h]
    | _ => simp [PyData.eqv] at h
  | .tuple ps, q, hp, hq, h => by
    cases q with
    | tuple qs =>
      rw [PyData.eqv] at h
      rw [nob] at hp hq
      rw [eqvAll_eq ps qs hp hq h]
    | _ => simp [PyData.eqv] at h
  | .dict _, q, h, _, _ => by simp [nob] at h
theorem eqvAll_eq : ∀ (ps qs : List PyData), nobL ps = true → nobL qs = true → PyData.eqvAll ps qs = true → ps = qs
  | [], [], _, _, _ => rfl
  | [], _ :: _, _, _, h => by simp [PyData.eqvAll] at h
  | _ :: _, [], _, _, h => by simp [PyData.eqvAll] at h
  | p :: ps, q :: qs, hp, hq, h => by
    rw [nobL, Bool.and_eq_true] at hp hq
    rw [PyData.eqvAll, Bool.and_eq_true] at h
    rw [eqv_eq p q hp.1 hq.1 h.1, eqvAll_eq ps qs hp.2 hq.2 h.2]
end
/-- plain data of little depth -/
structure Pl (d : D) (p : PyData) : Prop where
  py : pyD d = some p
  lay : p.canLay0 = true
  dep : p.depth ≤ 8
theorem Pl.shaped {d : D} {p : PyData} (h : Pl d p) : SeqAt.shaped p = true := by
  unfold SeqAt.shaped
  rw [h.lay, decide_eq_true (Nat.le_trans h.dep (by omega))]; rfl
theorem Pl.toPy {μ : Mu} {d : D} {p : PyData} (h : Pl d p) : Pd.toPy μ 9 d = some p := toPy_pyD d 9 p h.py (Nat.lt_succ_of_le h.dep)
theorem eqD0_pl {x y : D} {p q : PyData} {μ : Mu} (hx : Pl x p) (hy : Pl y q) : eqD0 x y μ = ok (.bl (PyData.eqv p q)) μ := by
  unfold eqD0
  rw [hx.toPy, hy.toPy]
  simp only [hx.shaped, hy.shaped, Bool.and_self, if_true]
theorem neD0_pl {x y : D} {p q : PyData} {μ : Mu} (hx : Pl x p) (hy : Pl y q) : neD0 x y μ = ok (.bl (!PyData.eqv p q)) μ := by
  unfold neD0
  rw [hx.toPy, hy.toPy]
  simp only [hx.shaped, hy.shaped, Bool.and_self, if_true]
theorem eq_strs {a b : Str} {μ : Mu} : eqD (.str a) (.str b) μ = ok (.bl (decide (a = b))) μ := rfl
theorem ne_strs {a b : Str} {μ : Mu} : neD (.str a) (.str b) μ = ok (.bl (!decide (a = b))) μ := rfl
theorem eqD_pl {x y : D} {p q : PyData} {μ : Mu} (hx : Pl x p) (hy : Pl y q) : eqD x y μ = ok (.bl (PyData.eqv p q)) μ := by
  cases e : twoS x y with
  | none => unfold eqD; rw [e]; exact eqD0_pl hx hy
  | some ab =>
    obtain ⟨a, b⟩ := ab
    cases x with
    | str x =>
      cases y with
      | str y =>
        have h1 := hx.py
        have h2 := hy.py
        rw [pyD] at h1 h2
        cases h1; cases h2
        rw [eq_strs]
        simp only [PyData.eqv]
        rfl
      | _ => simp [twoS] at e
    | _ => simp [twoS] at e
theorem neD_pl {x y : D} {p q : PyData} {μ : Mu} (hx : Pl x p) (hy : Pl y q) : neD x y μ = ok (.bl (!PyData.eqv p q)) μ := by
  cases e : twoS x y with
  | none => unfold neD; rw [e]; exact neD0_pl hx hy
  | some ab =>
    obtain ⟨a, b⟩ := ab
    cases x with
    | str x =>
      cases y with
      | str y =>
        have h1 := hx.py
        have h2 := hy.py
        rw [pyD] at h1 h2
        cases h1; cases h2
        rw [ne_strs]
        simp only [PyData.eqv]
        rfl
      | _ => simp [twoS] at e
    | _ => simp [twoS] at e
theorem Pl.self {d : D} {p : PyData} (h : Pl d p) : PyData.eqv p p = true := SeqAt.eqv_refl p h.lay
theorem Pl.ne {x y : D} {p q : PyData} (hx : Pl x p) (hy : Pl y q) (np : nob p = true) (nq : nob q = true) (h : x ≠ y) : PyData.eqv p q = false := by
  cases e : PyData.eqv p q with
  | false => rfl
  | true =>
    have := eqv_eq p q np nq e
    subst this
    exact absurd (pyD_inj hx.py hy.py) h
theorem eqD_self {x : D} {p : PyData} {μ : Mu} (h : Pl x p) : eqD x x μ = ok (.bl true) μ := by rw [eqD_pl h h, h.self]
theorem neD_self {x : D} {p : PyData} {μ : Mu} (h : Pl x p) : neD x x μ = ok (.bl false) μ := by rw [neD_pl h h, h.self]; rfl
theorem pl_int (i : Int) : Pl (.int i) (.int i) := ⟨rfl, rfl, by simp [PyData.depth]⟩
theorem pl_bl (b : Bool) : Pl (.bl b) (.bool b) := ⟨rfl, rfl, by simp [PyData.depth]⟩
theorem pl_non : Pl .non .none := ⟨rfl, rfl, by simp [PyData.depth]⟩
theorem pl_str {x : Str} (h : PyData.strOk x = true) : Pl (.str x) (.str x) := ⟨rfl, by rw [PyData.canLay0]; exact h, by simp [PyData.depth]⟩
/-! ### how long a repr may be -/
mutual
def shSz : PyData → Nat
  | .none => 4
  | .bool _ => 5
  | .int i => i.natAbs.log2 + 2
  | .str x => 10 * x.length + 2
  | .list ps => 2 + shSzL ps
  | .tuple ps => 3 + shSzL ps
  | .dict _ => 0
def shSzL : List PyData → Nat
  | [] => 0
  | p :: ps => shSz p + 2 + shSzL ps
end
theorem textFrom_le : ∀ (ts : List Str) (k : Nat) (acc : Str), (textFrom k acc ts).length ≤ acc.length + (ts.map fun t => t.length + 2).sum
  | [], k, acc => by simp [textFrom]
  | t :: ts, k, acc => by
    have ih := textFrom_le ts (k + 1) (acc ++ (if k > 0 then ", " else "" : String) ++ t)
    have e : (acc ++ (if k > 0 then ", " else "" : String) ++ t).length ≤ acc.length + 2 + t.length := by
      rw [strLen_append, strLen_append]
      have : ((if k > 0 then ", " else "" : String) : Str).length ≤ 2 := by
        split <;> decide
      omega
    rw [textFrom, List.map_cons, List.sum_cons]
    omega
mutual
theorem shown_le : ∀ p : PyData, p.canLay0 = true → p.shown.length ≤ shSz p
  | .none, _ => by rw [PyData.shown, shSz]; decide
  | .bool b, _ => by rw [PyData.shown, shSz]; cases b <;> decide
  | .int i, _ => by
    rw [PyData.shown, shSz, ofString_length]
    exact int_text_length_le (Nat.succ_pos _) (Nat.lt_succ_self _)
  | .str x, h => by
    rw [PyData.shown, shSz]
    refine StrLaws.reprText_len x fun c hc => ?_
    rw [PyData.canLay0] at h
    have := Array.all_eq_true'.mp (show x.cps.all (· < 0x110000) = true from h) c (Array.mem_def.mpr hc)
    have : c < 0x110000 := by simpa using this
    omega
  | .list ps, h => by
    rw [PyData.canLay0] at h
    rw [PyData.shown, shSz, listText, strLen_append]
    have h1 := textFrom_le (PyData.shownAll ps) 0 "["
    have h2 := shownAll_le ps h
    have h3 : (("[" : String) : Str).length = 1 := rfl
    have h4 : (("]" : String) : Str).length = 1 := rfl
    omega
  | .tuple ps, h => by
    rw [PyData.canLay0] at h
    rw [PyData.shown, shSz, tupleText, strLen_append, strLen_append]
    have h2 := shownAll_le ps h
    have h3 : (("(" : String) : Str).length = 1 := rfl
    have h4 : ((if (PyData.shownAll ps).length == 1 then ",)" else ")" : String) : Str).length ≤ 2 := by split <;> decide
    cases e : PyData.shownAll ps with
    | nil =>
      rw [e] at h4
      have : (Str.join ", " []).length = 0 := rfl
      omega
    | cons t ts =>
      have h5 := join_length_add (PyData.shownAll ps) (by rw [e]; simp)
      rw [e] at h4 h5 h2
      have h6 : piled (t :: ts) = ((t :: ts).map fun t => t.length + 2).sum := rfl
      omega
  | .dict _, h => by simp [PyData.canLay0] at h
theorem shownAll_le : ∀ ps : List PyData, PyData.canLayAll0 ps = true → ((PyData.shownAll ps).map fun t => t.length + 2).sum ≤ shSzL ps
  | [], _ => by simp [PyData.shownAll, shSzL]
  | p :: ps, h => by
    rw [PyData.canLayAll0, Bool.and_eq_true] at h
    have h1 := shown_le p h.1
    have h2 := shownAll_le ps h.2
    rw [PyData.shownAll, shSzL, List.map_cons, List.sum_cons]
    omega
end
/-- a repr that fits -/
theorem repr_pl {d : D} {p : PyData} {μ : Mu} (h : Pl d p) (hs : p.showable = true) (hz : shSz p ≤ sizeLine) : dcRepr [d] μ = ok (.str p.shown) μ := by
  unfold dcRepr
  simp only [h.toPy]
  have h1 := PyData.hasDict_of_canLay p h.lay
  have h2 : p.depth ≤ 60 := Nat.le_trans h.dep (by omega)
  have h3 : p.shown.length ≤ sizeLine := Nat.le_trans (shown_le p h.lay) hz
  rw [if_pos (by rw [hs, h1, decide_eq_true h2, decide_eq_true h3]; rfl)]
end Pd
end
section
namespace Pd
open PySem PySem.Spec L2
/-! ### texts -/
abbrev Tx (l : List Nat) : Str := ⟨l.toArray⟩
theorem tx_len (l : List Nat) : (Tx l).length = l.length := by show l.toArray.size = l.length; simp
theorem tx_list (l : List Nat) : (Tx l).cps.toList = l := rfl
theorem tx_self (x : Str) : Tx x.cps.toList = x := rfl
theorem tx_app (a b : List Nat) : Tx a ++ Tx b = Tx (a ++ b) := by
  show (⟨a.toArray ++ b.toArray⟩ : Str) = ⟨(a ++ b).toArray⟩
  rw [List.append_toArray]
theorem tx_inj {a b : List Nat} (h : Tx a = Tx b) : a = b := by
  have := congrArg (fun x : Str => x.cps.toList) h
  exact this
section
variable {μ : Mu} {l s : List Nat} {k c : Nat}
theorem ix_tx (h : l[k]? = some c) (hz : l.length ≤ sizeLine) : ixD (.str (Tx l)) (.int (k : Nat)) μ = ok (.str (Tx [c])) μ := by
  have e : atI (Tx l).cps.toList ((k : Nat) : Int) = some c := atI_nat h
  have hz : (Tx l).length ≤ sizeLine := by rw [tx_len]; exact hz
  simp only [ixD, seqOf, lstOf, if_pos hz, e]
theorem in_tx {s : Str} : inD false (.str (Tx [c])) (.str s) μ = ok (.bl (decide (c ∈ s.cps.toList))) μ := by
  have := StrLaws.found_one s c
  simp only [inD]
  rw [show (!(Builtin.Str.occurrences s (Tx [c]) 0 s.length 1).isEmpty) = decide (c ∈ s.cps.toList) from this]
  rfl
theorem nin_tx {s : Str} : inD true (.str (Tx [c])) (.str s) μ = ok (.bl (!decide (c ∈ s.cps.toList))) μ := by
  have := StrLaws.found_one s c
  simp only [inD]
  rw [show (!(Builtin.Str.occurrences s (Tx [c]) 0 s.length 1).isEmpty) = decide (c ∈ s.cps.toList) from this]
  rfl
theorem len_tx (hz : l.length ≤ sizeLine) : dcLen [.str (Tx l)] μ = ok (.int (l.length : Nat)) μ := by
  have hz' : (Tx l).length ≤ sizeLine := by rw [tx_len]; exact hz
  simp only [dcLen, tx_len, if_pos hz]
theorem cut_tx {a b : Nat} (ha : a ≤ b) (hb : b ≤ l.length) : cutS (Tx l) (some (a : Nat)) (some (b : Nat)) = Tx ((l.drop a).take (b - a)) := by
  unfold cutS
  rw [tx_len, HT.sIx_nat, HT.sIx_nat, Nat.min_eq_left hb, Nat.min_eq_left (by omega)]
theorem cut_to {b : Nat} (hb : b ≤ l.length) : cutS (Tx l) none (some (b : Nat)) = Tx (l.take b) := by
  unfold cutS
  rw [tx_len, HT.sIx_nat, HT.sIx_none, Nat.min_eq_left hb]
  simp
theorem cut_from {a : Nat} (ha : a ≤ l.length) : cutS (Tx l) (some (a : Nat)) none = Tx (l.drop a) := by
  unfold cutS
  rw [tx_len, HT.sIx_nat, HT.sIx_none, Nat.min_eq_left ha]
  rw [List.take_of_length_le (by simp)]
theorem sl_tx {lo hi : Option Int} (hz : l.length ≤ sizeLine) : slD (.str (Tx l)) lo hi μ = ok (.str (cutS (Tx l) lo hi)) μ := by
  have hz' : (Tx l).length ≤ sizeLine := by rw [tx_len]; exact hz
  simp only [slD, if_pos hz']
theorem add_tx {a b : List Nat} (hz : a.length + b.length ≤ sizeLine) : addD (.str (Tx a)) (.str (Tx b)) μ = ok (.str (Tx (a ++ b))) μ := by
  simp only [addD, addS, tx_len, if_pos hz, tx_app]
end
end Pd
end
section
namespace Kn
open PySem PySem.Spec L2 Pd PySem.W PySem.Calls PyProof.Rows
/-! printed by gen.py -/
def top (i : Nat) : Stmt := PySem.Challenge.pw_forthandback_k01_lexemes.main.body.getD i (.Pass ⟨0, 0, 0, 0⟩)
abbrev i_BadText : Stmt := inClass (top 2) 0
def x_BadText : ExcD := ⟨"BadText", defArgs i_BadText, defBody i_BadText, defScope i_BadText, ["place"]⟩
abbrev fs_BadText : List (Str × DE) := [("place", varD 1)]
theorem r_BadText {P : Program} {w : World} {K : PySem.W.Frag} {mg : Str → Option Value} {base : Heap} (F : ExcF P K mg x_BadText) : RaiseE P w K mg base "BadText" 1 fs_BadText :=
  raiseE_of (ps := ["place"]) (is := [1]) F rfl ⟨rfl, rfl, rfl, by decide +kernel, rfl, by decide +kernel, by decide +kernel, by decide +kernel, rfl, rfl⟩ ⟨_, rfl, rfl⟩ (by decide) (by decide) (by decide) (by decide)
    (fun f cda cc A outer s H E => (pa_cons (pe_var (i := 1) rfl (.inl rfl)) pa_nil))
    (fun f cda cc A outer s H E => (pss_cons (ps_ost (pe_var (i := 0) rfl (.inl rfl)) (eV 1)) pss_nil))
    (fun _ _ _ _ _ _ _ us hl => match us, hl with | [_, _], _ => rfl)
theorem c_BadText {P : Program} {K : PySem.W.Frag} {mg : Str → Option Value} (F : ExcF P K mg x_BadText) : CatchE K mg "BadText" ["place"] [] := ⟨F.gl, F.xf, F.exm, F.no, by simp⟩
def v_KEPT : List Str := [("again" : Str), ("and" : Str), ("as" : Str), ("back" : Str), ("bars" : Str), ("behind" : Str), ("by" : Str), ("feed" : Str), ("forth" : Str), ("from" : Str), ("gluings" : Str), ("grow" : Str), ("hears" : Str), ("kept" : Str), ("led" : Str), ("left" : Str), ("lost" : Str), ("measures" : Str), ("none" : Str), ("of" : Str), ("one" : Str), ("onto" : Str), ("part" : Str), ("parts" : Str), ("past" : Str), ("pipe" : Str), ("promise" : Str), ("push" : Str), ("pushes" : Str), ("rank" : Str), ("row" : Str), ("same" : Str), ("split" : Str), ("table" : Str), ("taken" : Str), ("through" : Str), ("tie" : Str), ("to" : Str), ("turned" : Str), ("when" : Str), ("where" : Str)]
abbrev s_run_behind : Stmt := top 10
theorem sc_run_behind : FnScope ["text", "place", "signs"] ["text", "place", "signs"] (defScope s_run_behind) := ⟨rfl, rfl, rfl, by decide +kernel, rfl, by decide +kernel, by decide +kernel⟩
noncomputable def b_run_behind : DS :=
    (seqS (whS (andB (tstD (binD (cmpI fun i j => decide (i < j)) (varD 1) (callB dcLen (consL (varD 0) nilL)))) (tstD (binD (inD false) (binD ixD (varD 0) (varD 1)) (varD 2))))
    (augS 1 ipAdd (cD (.int 1))))
    (retS (varD 1)))
noncomputable def f_run_behind : DC := bodyR b_run_behind 3
theorem ok_run_behind {P : Program} {w : World} {K : PySem.W.Frag} {mg : Str → Option Value} {base : Heap} (D : DefFact K mg "run_behind" s_run_behind) (g_len : mg "len" = none) :
    CalleeG P w K mg base "run_behind" 1 ["text", "place", "signs"] f_run_behind :=
  calleeG D sc_run_behind (fun _ _ _ _ _ _ us hl => match us, hl with | [_, _, _], _ => rfl) fun f cdv A outer s H E c => have nd := sc_run_behind.nd
    (pssd_cons (psd_while c.ps (PW.pt (ptd_and (tLt (eV 1) (eLen g_len (pad_cons (eV 0) pad_nil))) (ptd_and1 (tIn c (eIx c (eV 0) (eV 1)) (eV 2)))))
    (pssd_one (sAug 1 nd ped_int id_add)))
    (pssd_one (psd_ret (eV 1))))
abbrev s_lexeme_from : Stmt := top 11
theorem sc_lexeme_from : FnScope ["text", "place", "end"] ["text", "place"] (defScope s_lexeme_from) := ⟨rfl, rfl, rfl, by decide +kernel, rfl, by decide +kernel, by decide +kernel⟩
noncomputable def b_lexeme_from : DS :=
    (seqS (asgS (callB (callN 3 f_run_behind) (consL (varD 0) (consL (varD 1) (consL (cD (.str " \n")) nilL)))) (.nm 1))
    (seqS (ifS (tstD (binD eqD (varD 1) (callB dcLen (consL (varD 0) nilL))))
    (retS (tupD (consL (cD (.str "end")) (consL (cD (.str "")) (consL (varD 1) nilL)))))
    nxS)
    (seqS (ifS (tstD (binD (inD false) (binD ixD (varD 0) (varD 1)) (cD (.str ",:;-"))))
    (retS (tupD (consL (cD (.str "sign")) (consL (binD ixD (varD 0) (varD 1)) (consL (varD 1) nilL)))))
    nxS)
    (seqS (asgS (callB (callN 3 f_run_behind) (consL (varD 0) (consL (varD 1) (consL (binD addD (cD (.str "abcdefghijklmnopqrstuvwxyz")) (cD (.str "0123456789"))) nilL)))) (.nm 2))
    (retS (ifD (tstD (binD (cmpI fun i j => decide (j < i)) (varD 2) (varD 1))) (tupD (consL (cD (.str "word")) (consL (sliceD (varD 0) (someO (varD 1)) (someO (varD 2))) (consL (varD 1) nilL)))) (tupD (consL (cD (.str "wrong")) (consL (cD (.str "")) (consL (varD 1) nilL))))))))))
noncomputable def f_lexeme_from : DC := bodyR b_lexeme_from 3
theorem ok_lexeme_from {P : Program} {w : World} {K : PySem.W.Frag} {mg : Str → Option Value} {base : Heap} (D : DefFact K mg "lexeme_from" s_lexeme_from) (g_len : mg "len" = none) (k_BLANKS : ∃ t, mg "BLANKS" = some (.str " \n" t)) (k_FIGURES : ∃ t, mg "FIGURES" = some (.str "0123456789" t)) (k_SIGNS : ∃ t, mg "SIGNS" = some (.str ",:;-" t)) (k_SMALL : ∃ t, mg "SMALL" = some (.str "abcdefghijklmnopqrstuvwxyz" t)) (C_run_behind : CalleeG P w K mg base "run_behind" 1 ["text", "place", "signs"] f_run_behind) :
    CalleeG P w K mg base "lexeme_from" 2 ["text", "place"] f_lexeme_from :=
  calleeG D sc_lexeme_from (fun _ _ _ _ _ _ us hl => match us, hl with | [_, _], _ => rfl) fun f cdv A outer s H E c => have nd := sc_lexeme_from.nd
    (pssd_cons (sSet 1 nd (eCall C_run_behind c (pad_cons (eV 0) (pad_cons (eV 1) (pad_cons (eGS k_BLANKS) pad_nil)))))
    (pssd_cons (psd_if (tEq c (eV 1) (eLen g_len (pad_cons (eV 0) pad_nil)))
    (pssd_one (psd_ret (ped_tup (pad_cons ped_str (pad_cons ped_str (pad_cons (eV 1) pad_nil))))))
    pssd_nil)
    (pssd_cons (psd_if (tIn c (eIx c (eV 0) (eV 1)) (eGS k_SIGNS))
    (pssd_one (psd_ret (ped_tup (pad_cons ped_str (pad_cons (eIx c (eV 0) (eV 1)) (pad_cons (eV 1) pad_nil))))))
    pssd_nil)
    (pssd_cons (sSet 2 nd (eCall C_run_behind c (pad_cons (eV 0) (pad_cons (eV 1) (pad_cons (ped_bin od_add (eGS k_SMALL) (eGS k_FIGURES)) pad_nil)))))
    (pssd_one (psd_ret (ped_if (tGt (eV 2) (eV 1)) (ped_tup (pad_cons ped_str (pad_cons (ped_slice (eV 0) (pod_some (eV 1)) (pod_some (eV 2))) (pad_cons (eV 1) pad_nil)))) (ped_tup (pad_cons ped_str (pad_cons ped_str (pad_cons (eV 1) pad_nil)))))))))))
abbrev s_lexemes : Stmt := top 12
theorem sc_lexemes : FnScope ["text", "found", "here"] ["text"] (defScope s_lexemes) := ⟨rfl, rfl, rfl, by decide +kernel, rfl, by decide +kernel, by decide +kernel⟩
noncomputable def b_lexemes : DS :=
    (seqS (parS [1, 2] (consL (boxD (lstD nilL)) (consL (callB (callN 2 f_lexeme_from) (consL (varD 0) (consL (cD (.int 0)) nilL))) nilL)))
    (seqS (whS (tstD (binD neD (binD ixD (varD 2) (cD (.int 0))) (cD (.str "end"))))
    (seqS (ifS (tstD (binD eqD (binD ixD (varD 2) (cD (.int 0))) (cD (.str "wrong"))))
    (raiseS "BadText" 1 fs_BadText (consL (binD ixD (varD 2) (cD (.int 2))) nilL))
    nxS)
    (seqS (expS (methB .lst dmAppend (varD 1) (consL (varD 2) nilL)))
    (asgS (callB (callN 2 f_lexeme_from) (consL (varD 0) (consL (binD addD (binD ixD (varD 2) (cD (.int 2))) (callB dcLen (consL (binD ixD (varD 2) (cD (.int 1))) nilL))) nilL))) (.nm 2)))))
    (retS (frzD (varD 1)))))
noncomputable def f_lexemes : DC := bodyR b_lexemes 3
theorem ok_lexemes {P : Program} {w : World} {K : PySem.W.Frag} {mg : Str → Option Value} {base : Heap} (D : DefFact K mg "lexemes" s_lexemes) (g_len : mg "len" = none) (R_BadText : RaiseE P w K mg base "BadText" 1 fs_BadText) (C_lexeme_from : CalleeG P w K mg base "lexeme_from" 2 ["text", "place"] f_lexeme_from) :
    CalleeG P w K mg base "lexemes" 3 ["text"] f_lexemes :=
  calleeG D sc_lexemes (fun _ _ _ _ _ _ us hl => match us, hl with | [_], _ => rfl) fun f cdv A outer s H E c => have nd := sc_lexemes.nd
    (pssd_cons (psd_par (i := 1) (j := 2) c.calm nd rfl rfl (by decide) rfl rfl (pad_cons (pef_box (pef_lst pad_nil)) (pad_cons (eCall C_lexeme_from c (pad_cons (eV 0) (pad_cons ped_int pad_nil))) pad_nil)) (by rfl))
    (pssd_cons (psd_while c.ps (tNe c (eIx c (eV 2) ped_int) ped_str)
    (pssd_cons (psd_if (tEq c (eIx c (eV 2) ped_int) ped_str)
    (pssd_one (sRaise c R_BadText (pad_cons (eIx c (eV 2) ped_int) pad_nil)))
    pssd_nil)
    (pssd_cons (psd_expr (eAppend (eV 1) (pad_cons (eV 2) pad_nil)))
    (pssd_one (sSet 2 nd (eCall C_lexeme_from c (pad_cons (eV 0) (pad_cons (ped_bin od_add (eIx c (eV 2) ped_int) (eLen g_len (pad_cons (eIx c (eV 2) ped_int) pad_nil))) pad_nil))))))))
    (pssd_one (psd_ret (ped_frz (eV 1))))))
abbrev s_is_name : Stmt := top 13
theorem sc_is_name : FnScope ["value", "sign"] ["value"] (defScope s_is_name) := ⟨rfl, rfl, rfl, by decide +kernel, rfl, by decide +kernel, by decide +kernel⟩
noncomputable def b_is_name : DS :=
    (seqS (ifS (orB (notB (truB (callB dcIsi (consL (varD 0) (consL (cD (.cst (.ty "str"))) nilL))))) (orB (notB (tstD (chD (cmpI fun i j => decide (i < j)) (cmpI fun i j => decide (i ≤ j)) (cD (.int 0)) (callB dcLen (consL (varD 0) nilL)) (cD (.int 12))))) (orB (tstD (binD (inD true) (binD ixD (varD 0) (cD (.int 0))) (cD (.str "abcdefghijklmnopqrstuvwxyz")))) (tstD (binD (inD false) (varD 0) (cD (.tup (v_KEPT.map D.str))))))))
    (retS (cD (.bl false)))
    nxS)
    (retS (callB dcAll (consL (newD (lcD [1] (anySrc (varD 0)) (.nm 1) yesB (binD (inD false) (varD 1) (binD addD (cD (.str "abcdefghijklmnopqrstuvwxyz")) (cD (.str "0123456789")))))) nilL))))
noncomputable def f_is_name : DC := bodyR b_is_name 2
theorem ok_is_name {P : Program} {w : World} {K : PySem.W.Frag} {mg : Str → Option Value} {base : Heap} (D : DefFact K mg "is_name" s_is_name) (g_all : mg "all" = none) (g_isinstance : mg "isinstance" = none) (g_len : mg "len" = none) (g_str : mg "str" = none) (k_FIGURES : ∃ t, mg "FIGURES" = some (.str "0123456789" t)) (k_MOST_LETTERS : ∃ t, mg "MOST_LETTERS" = some (.int 12 t)) (k_SMALL : ∃ t, mg "SMALL" = some (.str "abcdefghijklmnopqrstuvwxyz" t)) (k_KEPT : TupE K mg "KEPT" v_KEPT) :
    CalleeG P w K mg base "is_name" 1 ["value"] f_is_name :=
  calleeG D sc_is_name (fun _ _ _ _ _ _ us hl => match us, hl with | [_], _ => rfl) fun f cdv A outer s H E c => have nd := sc_is_name.nd
    (pssd_cons (psd_if (PW.pt (ptd_or (ptd_not (tTr (eIsi g_isinstance (pad_cons (eV 0) (pad_cons (ped_ty g_str (by kernel_rfl)) pad_nil))))) (ptd_or (ptd_not (ptd_chain od_lt od_le ped_int (eLen g_len (pad_cons (eV 0) pad_nil)) (eGI k_MOST_LETTERS))) (ptd_or (tNin c (eIx c (eV 0) ped_int) (eGS k_SMALL)) (ptd_or1 (tIn c (eV 0) (eGTE k_KEPT)))))))
    (pssd_one (psd_ret ped_bl))
    pssd_nil)
    (pssd_one (psd_ret (eAll c g_all (pad_cons (pef_new (pef_lc c.calm nd (pid_any (eV 0)) (blkOk_by (own := [("sign", 1)]) (by kernel_rfl)) (by decide) (fun s1 H1 C1 l1 p1 => (gN 1 nd)) (fun s1 H1 C1 l1 p1 => ptsd_nil) (fun s1 H1 C1 l1 p1 => (eIn (c.blk _ _ _ _ _) (eV 1) (ped_bin od_add (eGS k_SMALL) (eGS k_FIGURES)))))) pad_nil)))))
abbrev s__law_source : Stmt := top 15
theorem sc__law_source : FnScope ["script", "mixed", "cell"] ["script"] (defScope s__law_source) := ⟨rfl, rfl, rfl, by decide +kernel, rfl, by decide +kernel, by decide +kernel⟩
noncomputable def b__law_source : DS :=
    (seqS (asgS (cD (.int 11)) (.nm 1))
    (seqS (forS (seqSrc' (varD 0)) (.nm 2)
    (asgS (binD modI (callB dcInt (consL (binD addD (binD addD (binD mulX (varD 1) (cD (.int 69069))) (binD mulX (varD 2) (cD (.int 31)))) (cD (.int 5))) nilL)) (cD (.int 2147483629))) (.nm 1)))
    (retS (boxD (dispD [((cD (.str "cells")), (boxD (revL (newD (lcD [2] (seqSrc' (varD 0)) (.nm 2) yesB (callB dcAbs (consL (varD 2) nilL))))))), ((cD (.str "left")), (cD (.int 1))), ((cD (.str "mixed")), (varD 1)), ((cD (.str "turn")), (cD (.int 0)))])))))
noncomputable def f__law_source : DC := bodyR b__law_source 3
theorem ok__law_source {P : Program} {w : World} {K : PySem.W.Frag} {mg : Str → Option Value} {base : Heap} (D : DefFact K mg "_law_source" s__law_source) (g_abs : mg "abs" = none) (g_int : mg "int" = none) :
    CalleeG P w K mg base "_law_source" 1 ["script"] f__law_source :=
  calleeG D sc__law_source (fun _ _ _ _ _ _ us hl => match us, hl with | [_], _ => rfl) fun f cdv A outer s H E c => have nd := sc__law_source.nd
    (pssd_cons (sSet 1 nd ped_int)
    (pssd_cons (psd_for c.ps c.calm (pid_seq (eV 0)) (gN 2 nd)
    (pssd_one (sSet 1 nd (ped_bin od_mod (eInt g_int (pad_cons (ped_bin od_add (ped_bin od_add (ped_bin od_mulX (eV 1) ped_int) (ped_bin od_mulX (eV 2) ped_int)) ped_int) pad_nil)) ped_int))))
    (pssd_one (psd_ret (pef_box (pef_disp (.cons ped_str (pef_box (pef_rev (pef_new (pef_lc c.calm nd (pid_seq (eV 0)) (blkOk_by (own := [("cell", 2)]) (by kernel_rfl)) (by decide) (fun s1 H1 C1 l1 p1 => (gN 2 nd)) (fun s1 H1 C1 l1 p1 => ptsd_nil) (fun s1 H1 C1 l1 p1 => (eAbs g_abs (pad_cons (eV 2) pad_nil))))))) (.cons ped_str ped_int (.cons ped_str (eV 1) (.cons ped_str ped_int Prs.nil)))) rfl rfl (by decide) (by decide)))))))
abbrev s__law_pick : Stmt := top 16
theorem sc__law_pick : FnScope ["source", "many", "left", "mixed"] ["source", "many"] (defScope s__law_pick) := ⟨rfl, rfl, rfl, by decide +kernel, rfl, by decide +kernel, by decide +kernel⟩
noncomputable def b__law_pick : DS :=
    (seqS (whS (andB (tstD (binD (cmpI fun i j => decide (j < i)) (varD 1) (cD (.int 1)))) (andB (tstD (binD (cmpI fun i j => decide (i < j)) (binD ixD (varD 0) (cD (.str "left"))) (cD (.int 2)))) (tstD (binD (cmpI fun i j => decide (j < i)) (callB dcLen (consL (binD ixD (varD 0) (cD (.str "cells"))) nilL)) (cD (.int 0))))))
    (setS (meth0 .lst dmPop (binD ixD (varD 0) (cD (.str "cells")))) (varD 0) (cD (.str "left"))))
    (seqS (asgS (binD ixD (varD 0) (cD (.str "left"))) (.nm 2))
    (seqS (ifS (orB (tstD (binD (cmpI fun i j => decide (i < j)) (varD 1) (cD (.int 2)))) (tstD (binD (cmpI fun i j => decide (j < i)) (varD 2) (cD (.int 1)))))
    (seqS (setS (binD fdivI (varD 2) (callB dcMax2 (consL (cD (.int 1)) (consL (varD 1) nilL)))) (varD 0) (cD (.str "left")))
    (retS (binD modI (callB dcInt (consL (varD 2) nilL)) (callB dcMax2 (consL (cD (.int 1)) (consL (varD 1) nilL))))))
    nxS)
    (seqS (setS (binD addD (binD ixD (varD 0) (cD (.str "turn"))) (cD (.int 1))) (varD 0) (cD (.str "turn")))
    (seqS (asgS (binD modI (callB dcInt (consL (binD addD (binD ixD (varD 0) (cD (.str "mixed"))) (binD mulX (binD ixD (varD 0) (cD (.str "turn"))) (cD (.int 104729)))) nilL)) (cD (.int 998244353))) (.nm 3))
    (seqS (asgS (binD modI (callB dcInt (consL (binD addD (binD mulX (varD 3) (varD 3)) (binD mulX (binD ixD (varD 0) (cD (.str "turn"))) (cD (.int 17)))) nilL)) (cD (.int 2147483647))) (.nm 3))
    (seqS (setS (varD 3) (varD 0) (cD (.str "mixed")))
    (retS (binD modI (callB dcInt (consL (binD fdivI (varD 3) (cD (.int 16))) nilL)) (varD 1))))))))))
noncomputable def f__law_pick : DC := bodyR b__law_pick 4
theorem ok__law_pick {P : Program} {w : World} {K : PySem.W.Frag} {mg : Str → Option Value} {base : Heap} (D : DefFact K mg "_law_pick" s__law_pick) (g_int : mg "int" = none) (g_len : mg "len" = none) (g_max : mg "max" = none) :
    CalleeG P w K mg base "_law_pick" 1 ["source", "many"] f__law_pick :=
  calleeG D sc__law_pick (fun _ _ _ _ _ _ us hl => match us, hl with | [_, _], _ => rfl) fun f cdv A outer s H E c => have nd := sc__law_pick.nd
    (pssd_cons (psd_while c.ps (PW.pt (ptd_and (tGt (eV 1) ped_int) (ptd_and (tLt (eIx c (eV 0) ped_str) ped_int) (ptd_and1 (tGt (eLen g_len (pad_cons (eIx c (eV 0) ped_str) pad_nil)) ped_int)))))
    (pssd_one (psd_sub c.u1 (ePop (eIx c (eV 0) ped_str)) (eV 0) ped_str)))
    (pssd_cons (sSet 2 nd (eIx c (eV 0) ped_str))
    (pssd_cons (psd_if (PW.pt (ptd_or (tLt (eV 1) ped_int) (ptd_or1 (tGt (eV 2) ped_int))))
    (pssd_cons (psd_sub c.u1 (ped_bin od_fdiv (eV 2) (eMax2 c g_max (pad_cons ped_int (pad_cons (eV 1) pad_nil)))) (eV 0) ped_str)
    (pssd_one (psd_ret (ped_bin od_mod (eInt g_int (pad_cons (eV 2) pad_nil)) (eMax2 c g_max (pad_cons ped_int (pad_cons (eV 1) pad_nil)))))))
    pssd_nil)
    (pssd_cons (psd_sub c.u1 (ped_bin od_add (eIx c (eV 0) ped_str) ped_int) (eV 0) ped_str)
    (pssd_cons (sSet 3 nd (ped_bin od_mod (eInt g_int (pad_cons (ped_bin od_add (eIx c (eV 0) ped_str) (ped_bin od_mulX (eIx c (eV 0) ped_str) ped_int)) pad_nil)) ped_int))
    (pssd_cons (sSet 3 nd (ped_bin od_mod (eInt g_int (pad_cons (ped_bin od_add (ped_bin od_mulX (eV 3) (eV 3)) (ped_bin od_mulX (eIx c (eV 0) ped_str) ped_int)) pad_nil)) ped_int))
    (pssd_cons (psd_sub c.u1 (eV 3) (eV 0) ped_str)
    (pssd_one (psd_ret (ped_bin od_mod (eInt g_int (pad_cons (ped_bin od_fdiv (eV 3) ped_int) pad_nil)) (eV 1)))))))))))
abbrev s__law_of : Stmt := top 17
theorem sc__law_of : FnScope ["source", "some"] ["source", "some"] (defScope s__law_of) := ⟨rfl, rfl, rfl, by decide +kernel, rfl, by decide +kernel, by decide +kernel⟩
noncomputable def b__law_of : DS :=
    (retS (binD ixD (varD 1) (callB (callN 2 f__law_pick) (consL (varD 0) (consL (callB dcLen (consL (varD 1) nilL)) nilL)))))
noncomputable def f__law_of : DC := bodyR b__law_of 2
theorem ok__law_of {P : Program} {w : World} {K : PySem.W.Frag} {mg : Str → Option Value} {base : Heap} (D : DefFact K mg "_law_of" s__law_of) (g_len : mg "len" = none) (C__law_pick : CalleeG P w K mg base "_law_pick" 1 ["source", "many"] f__law_pick) :
    CalleeG P w K mg base "_law_of" 2 ["source", "some"] f__law_of :=
  calleeG D sc__law_of (fun _ _ _ _ _ _ us hl => match us, hl with | [_, _], _ => rfl) fun f cdv A outer s H E c => have nd := sc__law_of.nd
    (pssd_one (psd_ret (eIx c (eV 1) (eCall C__law_pick c (pad_cons (eV 0) (pad_cons (eLen g_len (pad_cons (eV 1) pad_nil)) pad_nil))))))
abbrev s__law_kept : Stmt := top 18
theorem sc__law_kept : FnScope ["found"] [] (defScope s__law_kept) := ⟨rfl, rfl, rfl, by decide +kernel, rfl, by decide +kernel, by decide +kernel⟩
noncomputable def b__law_kept : DS :=
    (seqS (asgS (cD (.str "again and as back bars behind by feed forth from gluings grow hears kept led left lost measures none of")) (.nm 0))
    (seqS (asgS (binD addD (varD 0) (cD (.str " one onto part parts past pipe promise push pushes rank row same split table taken through tie to"))) (.nm 0))
    (retS (meth0 .str dmWords (binD addD (varD 0) (cD (.str " turned when where")))))))
noncomputable def f__law_kept : DC := bodyR b__law_kept 1
theorem ok__law_kept {P : Program} {w : World} {K : PySem.W.Frag} {mg : Str → Option Value} {base : Heap} (D : DefFact K mg "_law_kept" s__law_kept) :
    CalleeG P w K mg base "_law_kept" 1 [] f__law_kept :=
  calleeG D sc__law_kept (fun _ _ _ _ _ _ us hl => match us, hl with | [], _ => rfl) fun f cdv A outer s H E c => have nd := sc__law_kept.nd
    (pssd_cons (sSet 0 nd ped_str)
    (pssd_cons (sSet 0 nd (ped_bin od_add (eV 0) ped_str))
    (pssd_one (psd_ret (eWords (ped_bin od_add (eV 0) ped_str))))))
abbrev s__law_signs : Stmt := top 19
theorem sc__law_signs : FnScope [] [] (defScope s__law_signs) := ⟨rfl, rfl, rfl, by decide +kernel, rfl, by decide +kernel, by decide +kernel⟩
noncomputable def b__law_signs : DS :=
    (retS (tupD (consL (cD (.str ",:;-")) (consL (cD (.str "abcdefghijklmnopqrstuvwxyz0123456789")) nilL))))
noncomputable def f__law_signs : DC := bodyR b__law_signs 0
theorem ok__law_signs {P : Program} {w : World} {K : PySem.W.Frag} {mg : Str → Option Value} {base : Heap} (D : DefFact K mg "_law_signs" s__law_signs) :
    CalleeG P w K mg base "_law_signs" 1 [] f__law_signs :=
  calleeG D sc__law_signs (fun _ _ _ _ _ _ us hl => match us, hl with | [], _ => rfl) fun f cdv A outer s H E c => have nd := sc__law_signs.nd
    (pssd_one (psd_ret (ped_tup (pad_cons ped_str (pad_cons ped_str pad_nil)))))
abbrev s__law_read : Stmt := top 20
theorem sc__law_read : FnScope ["text", "signs", "letters", "found", "k", "begin"] ["text"] (defScope s__law_read) := ⟨rfl, rfl, rfl, by decide +kernel, rfl, by decide +kernel, by decide +kernel⟩
noncomputable def b__law_read : DS :=
    (seqS (asgS (fun _ μ => f__law_signs [] μ) (.tp [(.nm 1), (.nm 2)]))
    (seqS (parS [3, 4] (consL (boxD (lstD nilL)) (consL (cD (.int 0)) nilL)))
    (seqS (whS (tstD (binD (cmpI fun i j => decide (i < j)) (varD 4) (callB dcLen (consL (varD 0) nilL))))
    (seqS (asgS (varD 4) (.nm 5))
    (seqS (ifS (tstD (binD (inD false) (binD ixD (varD 0) (varD 4)) (varD 2)))
    (seqS (whS (andB (tstD (binD (cmpI fun i j => decide (i < j)) (varD 4) (callB dcLen (consL (varD 0) nilL)))) (tstD (binD (inD false) (binD ixD (varD 0) (varD 4)) (varD 2))))
    (asgS (binD addD (varD 4) (cD (.int 1))) (.nm 4)))
    (seqS (expS (methB .lst dmAppend (varD 3) (consL (tupD (consL (cD (.str "word")) (consL (sliceD (varD 0) (someO (varD 5)) (someO (varD 4))) (consL (varD 5) nilL)))) nilL)))
    ctS))
    nxS)
    (seqS (ifS (tstD (binD (inD false) (binD ixD (varD 0) (varD 4)) (varD 1)))
    (expS (methB .lst dmAppend (varD 3) (consL (tupD (consL (cD (.str "sign")) (consL (binD ixD (varD 0) (varD 4)) (consL (varD 4) nilL)))) nilL)))
    (ifS (tstD (binD (inD true) (binD ixD (varD 0) (varD 4)) (cD (.str " \n"))))
    (retS (tupD (consL (frzD (varD 3)) (consL (varD 4) nilL))))
    nxS))
    (asgS (binD addD (varD 4) (cD (.int 1))) (.nm 4))))))
    (retS (tupD (consL (frzD (varD 3)) (consL (cD .non) nilL)))))))
noncomputable def f__law_read : DC := bodyR b__law_read 6
theorem ok__law_read {P : Program} {w : World} {K : PySem.W.Frag} {mg : Str → Option Value} {base : Heap} (D : DefFact K mg "_law_read" s__law_read) (g_len : mg "len" = none) (C__law_signs : CalleeG P w K mg base "_law_signs" 1 [] f__law_signs) :
    CalleeG P w K mg base "_law_read" 2 ["text"] f__law_read :=
  calleeG D sc__law_read (fun _ _ _ _ _ _ us hl => match us, hl with | [_], _ => rfl) fun f cdv A outer s H E c => have nd := sc__law_read.nd
    (pssd_cons (psd_asg (eCall0 C__law_signs c) (gT c (pgsd_cons (gN 1 nd) (pgsd_cons (gN 2 nd) pgsd_nil))))
    (pssd_cons (psd_par (i := 3) (j := 4) c.calm nd rfl rfl (by decide) rfl rfl (pad_cons (pef_box (pef_lst pad_nil)) (pad_cons ped_int pad_nil)) (by rfl))
    (pssd_cons (psd_while c.ps (tLt (eV 4) (eLen g_len (pad_cons (eV 0) pad_nil)))
    (pssd_cons (sSet 5 nd (eV 4))
    (pssd_cons (psd_if (tIn c (eIx c (eV 0) (eV 4)) (eV 2))
    (pssd_cons (psd_while c.ps (PW.pt (ptd_and (tLt (eV 4) (eLen g_len (pad_cons (eV 0) pad_nil))) (ptd_and1 (tIn c (eIx c (eV 0) (eV 4)) (eV 2)))))
    (pssd_one (sSet 4 nd (ped_bin od_add (eV 4) ped_int))))
    (pssd_cons (psd_expr (eAppend (eV 3) (pad_cons (ped_tup (pad_cons ped_str (pad_cons (ped_slice (eV 0) (pod_some (eV 5)) (pod_some (eV 4))) (pad_cons (eV 5) pad_nil)))) pad_nil)))
    (pssd_one psd_cont)))
    pssd_nil)
    (pssd_cons (psd_if (tIn c (eIx c (eV 0) (eV 4)) (eV 1))
    (pssd_one (psd_expr (eAppend (eV 3) (pad_cons (ped_tup (pad_cons ped_str (pad_cons (eIx c (eV 0) (eV 4)) (pad_cons (eV 4) pad_nil)))) pad_nil))))
    (pssd_one (psd_if (tNin c (eIx c (eV 0) (eV 4)) ped_str)
    (pssd_one (psd_ret (ped_tup (pad_cons (ped_frz (eV 3)) (pad_cons (eV 4) pad_nil)))))
    pssd_nil)))
    (pssd_one (sSet 4 nd (ped_bin od_add (eV 4) ped_int)))))))
    (pssd_one (psd_ret (ped_tup (pad_cons (ped_frz (eV 3)) (pad_cons ped_non pad_nil))))))))
abbrev s__law_piece : Stmt := top 21
theorem sc__law_piece : FnScope ["source", "some"] ["source"] (defScope s__law_piece) := ⟨rfl, rfl, rfl, by decide +kernel, rfl, by decide +kernel, by decide +kernel⟩
noncomputable def b__law_piece : DS :=
    (seqS (asgS (newD (lstD (consL (cD (.str "a")) (consL (cD (.str "w2")) (consL (cD (.str "table")) (consL (cD (.str "from")) (consL (cD (.str "0")) (consL (cD (.str "007")) (consL (cD (.str "12")) (consL (cD (.str "999999999")) (consL (cD (.str "-")) (consL (cD (.str ",")) (consL (cD (.str ":")) (consL (cD (.str ";")) (consL (cD (.str " ")) (consL (cD (.str " ")) (consL (cD (.str "\n")) (consL (cD (.str "  ")) (consL (cD (.str "-5")) nilL))))))))))))))))))) (.nm 1))
    (seqS (asgS (binD addD (varD 1) (newD (lstD (consL (cD (.str "abcdefghijkl")) (consL (cD (.str "abcdefghijklm")) (consL (binD mulX (cD (.str "x")) (cD (.int 25))) (consL (cD (.str "--")) (consL (cD (.str ",;")) (consL (cD (.str "1a")) (consL (cD (.str "a1")) (consL (cD (.str "parts")) (consL (cD (.str "partsx")) (consL (cD (.str "a-b")) nilL))))))))))))) (.nm 1))
    (retS (callB (callN 2 f__law_of) (consL (varD 0) (consL (varD 1) nilL))))))
noncomputable def f__law_piece : DC := bodyR b__law_piece 2
theorem ok__law_piece {P : Program} {w : World} {K : PySem.W.Frag} {mg : Str → Option Value} {base : Heap} (D : DefFact K mg "_law_piece" s__law_piece) (C__law_of : CalleeG P w K mg base "_law_of" 2 ["source", "some"] f__law_of) :
    CalleeG P w K mg base "_law_piece" 3 ["source"] f__law_piece :=
  calleeG D sc__law_piece (fun _ _ _ _ _ _ us hl => match us, hl with | [_], _ => rfl) fun f cdv A outer s H E c => have nd := sc__law_piece.nd
    (pssd_cons (sSet 1 nd (pef_new (pef_lst (pad_cons ped_str (pad_cons ped_str (pad_cons ped_str (pad_cons ped_str (pad_cons ped_str (pad_cons ped_str (pad_cons ped_str (pad_cons ped_str (pad_cons ped_str (pad_cons ped_str (pad_cons ped_str (pad_cons ped_str (pad_cons ped_str (pad_cons ped_str (pad_cons ped_str (pad_cons ped_str (pad_cons ped_str pad_nil))))))))))))))))))))
    (pssd_cons (sSet 1 nd (ped_bin od_add (eV 1) (pef_new (pef_lst (pad_cons ped_str (pad_cons ped_str (pad_cons (ped_bin od_mulX ped_str ped_int) (pad_cons ped_str (pad_cons ped_str (pad_cons ped_str (pad_cons ped_str (pad_cons ped_str (pad_cons ped_str (pad_cons ped_str pad_nil))))))))))))))
    (pssd_one (psd_ret (eCall C__law_of c (pad_cons (eV 0) (pad_cons (eV 1) pad_nil)))))))
abbrev s__law_told : Stmt := top 22
theorem sc__law_told : FnScope ["text", "found", "error"] ["text"] (defScope s__law_told) := ⟨rfl, rfl, rfl, by decide +kernel, rfl, by decide +kernel, by decide +kernel⟩
noncomputable def b__law_told : DS :=
    (seqS (tryS "BadText" [] 2 (asgS (callB (callN 1 f_lexemes) (consL (varD 0) nilL)) (.nm 1)) (fun a d => (retS (tupD (consL (cD (.str "wrong")) (consL (fldD a d "place" (varD 2)) nilL))))))
    (retS (tupD (consL (cD (.str "told")) (consL (varD 1) nilL)))))
noncomputable def f__law_told : DC := bodyR b__law_told 3
theorem ok__law_told {P : Program} {w : World} {K : PySem.W.Frag} {mg : Str → Option Value} {base : Heap} (D : DefFact K mg "_law_told" s__law_told) (E_BadText : CatchE K mg "BadText" ["place"] []) (C_lexemes : CalleeG P w K mg base "lexemes" 3 ["text"] f_lexemes) :
    CalleeG P w K mg base "_law_told" 4 ["text"] f__law_told :=
  calleeG D sc__law_told (fun _ _ _ _ _ _ us hl => match us, hl with | [_], _ => rfl) fun f cdv A outer s H E c => have nd := sc__law_told.nd
    (pssd_cons (sTry c E_BadText rfl rfl nd 2 (fun W1 pn xe c1 => (pssd_one (sSet 1 nd (eCall C_lexemes c1 (pad_cons (eV 0) pad_nil))))) (fun a d oe pn hz hfl => (pssd_one (psd_ret (ped_tup (pad_cons ped_str (pad_cons (ped_fld E_BadText.xf (E_BadText.fld _ (by decide)) hz hfl (eV 2)) pad_nil)))))) (ind_ret (ind_tup (ind_cons ind_c (ind_cons ind_fld ind_nil)))))
    (pssd_one (psd_ret (ped_tup (pad_cons ped_str (pad_cons (eV 1) pad_nil))))))
abbrev s__law_is_name : Stmt := top 23
theorem sc__law_is_name : FnScope ["value", "signs", "letters", "one"] ["value"] (defScope s__law_is_name) := ⟨rfl, rfl, rfl, by decide +kernel, rfl, by decide +kernel, by decide +kernel⟩
noncomputable def b__law_is_name : DS :=
    (seqS (asgS (fun _ μ => f__law_signs [] μ) (.tp [(.nm 1), (.nm 2)]))
    (seqS (ifS (orB (tstD (binD eqD (varD 0) (cD (.str "")))) (orB (tstD (binD (cmpI fun i j => decide (j < i)) (callB dcLen (consL (varD 0) nilL)) (cD (.int 12)))) (tstD (binD (inD false) (varD 0) (fun _ μ => f__law_kept [] μ)))))
    (retS (cD (.bl false)))
    nxS)
    (retS (andD (binD eqD (newD (lcD [3] (anySrc (varD 0)) (.nm 3) (tstD (binD (inD true) (varD 3) (varD 2))) (varD 3))) (newD (lstD nilL))) (binD (inD true) (binD ixD (varD 0) (cD (.int 0))) (cD (.str "0123456789")))))))
noncomputable def f__law_is_name : DC := bodyR b__law_is_name 4
theorem ok__law_is_name {P : Program} {w : World} {K : PySem.W.Frag} {mg : Str → Option Value} {base : Heap} (D : DefFact K mg "_law_is_name" s__law_is_name) (g_len : mg "len" = none) (C__law_kept : CalleeG P w K mg base "_law_kept" 1 [] f__law_kept) (C__law_signs : CalleeG P w K mg base "_law_signs" 1 [] f__law_signs) :
    CalleeG P w K mg base "_law_is_name" 2 ["value"] f__law_is_name :=
  calleeG D sc__law_is_name (fun _ _ _ _ _ _ us hl => match us, hl with | [_], _ => rfl) fun f cdv A outer s H E c => have nd := sc__law_is_name.nd
    (pssd_cons (psd_asg (eCall0 C__law_signs c) (gT c (pgsd_cons (gN 1 nd) (pgsd_cons (gN 2 nd) pgsd_nil))))
    (pssd_cons (psd_if (PW.pt (ptd_or (tEq c (eV 0) ped_str) (ptd_or (tGt (eLen g_len (pad_cons (eV 0) pad_nil)) ped_int) (ptd_or1 (tIn c (eV 0) (eCall0 C__law_kept c))))))
    (pssd_one (psd_ret ped_bl))
    pssd_nil)
    (pssd_one (psd_ret (ped_and (eEq c (pef_new (pef_lc c.calm nd (pid_any (eV 0)) (blkOk_by (own := [("one", 3)]) (by kernel_rfl)) (by decide) (fun s1 H1 C1 l1 p1 => (gN 3 nd)) (fun s1 H1 C1 l1 p1 => (ptsd_one (tNin (c.blk _ _ _ _ _) (eV 3) (eV 2)))) (fun s1 H1 C1 l1 p1 => (eV 3)))) (pef_new (pef_lst pad_nil))) (ped_one (eNin c (eIx c (eV 0) ped_int) ped_str)))))))
abbrev s_law : Stmt := top 24
theorem sc_law : FnScope ["script", "source", "lap", "text", "turn", "k", "found", "wrong", "due", "word", "some", "value", "odd", "many"] ["script"] (defScope s_law) := ⟨rfl, rfl, rfl, by decide +kernel, rfl, by decide +kernel, by decide +kernel⟩
noncomputable def b_law : DS :=
    (seqS (asgS (callB (callN 1 f__law_source) (consL (varD 0) nilL)) (.nm 1))
    (seqS (forS (rngSrc1 (consL (cD (.int 4)) nilL)) (.nm 2)
    (seqS (asgS (cD (.str "")) (.nm 3))
    (seqS (forS (rngSrc1 (consL (callB (callN 2 f__law_pick) (consL (varD 1) (consL (cD (.int 24)) nilL))) nilL)) (.nm 4)
    (asgS (binD addD (varD 3) (callB (callN 1 f__law_piece) (consL (varD 1) nilL))) (.nm 3)))
    (seqS (ifS (tstD (binD eqD (callB (callN 2 f__law_pick) (consL (varD 1) (consL (cD (.int 2)) nilL))) (cD (.int 0))))
    (seqS (asgS (callB (callN 2 f__law_pick) (consL (varD 1) (consL (binD addD (callB dcLen (consL (varD 3) nilL)) (cD (.int 1))) nilL))) (.nm 5))
    (asgS (binD addD (binD addD (sliceD (varD 3) noO (someO (varD 5))) (callB (callN 2 f__law_of) (consL (varD 1) (consL (newD (lstD (consL (cD (.str "A")) (consL (cD (.str ".")) (consL (cD (.str "_")) (consL (cD (.str "\t")) (consL (cD (.str "+")) (consL (cD (.str "(")) (consL (cD (.str "=")) (consL (cD (.str "~")) (consL (cD (.str "'")) (consL (cD (.str "Z")) nilL)))))))))))) nilL)))) (sliceD (varD 3) (someO (varD 5)) noO)) (.nm 3)))
    nxS)
    (seqS (asgS (callB (callN 1 f__law_read) (consL (varD 3) nilL)) (.tp [(.nm 6), (.nm 7)]))
    (seqS (asgS (ifD (tstD (binD isD (varD 7) (cD .non))) (tupD (consL (cD (.str "told")) (consL (varD 6) nilL))) (tupD (consL (cD (.str "wrong")) (consL (varD 7) nilL)))) (.nm 8))
    (ifS (tstD (binD neD (callB dcRepr (consL (callB (callN 1 f__law_told) (consL (varD 3) nilL)) nilL)) (callB dcRepr (consL (varD 8) nilL))))
    (retS (cD (.bl false)))
    nxS)))))))
    (seqS (ifS (tstD (binD neD (newD (lcD [9] (seqSrc' (fun _ μ => f__law_kept [] μ)) (.nm 9) (orB (tstD (binD isnotD (callB (callN 1 f_is_name) (consL (varD 9) nilL)) (cD (.bl false)))) (tstD (binD isnotD (callB (callN 1 f_is_name) (consL (binD addD (varD 9) (cD (.str "x"))) nilL)) (cD (.bl true))))) (varD 9))) (newD (lstD nilL))))
    (retS (cD (.bl false)))
    nxS)
    (seqS (forS (rngSrc1 (consL (cD (.int 6)) nilL)) (.nm 2)
    (seqS (asgS (newD (lstD (consL (cD (.str "")) (consL (cD (.str "a")) (consL (cD (.str "z9")) (consL (cD (.str "9z")) (consL (cD (.str "abcdefghijkl")) (consL (cD (.str "abcdefghijklm")) (consL (cD (.str "a-b")) (consL (cD (.str "A")) (consL (cD (.str "to")) (consL (cD (.str "tov")) (consL (cD (.str "a b")) (consL (cD (.str "n")) nilL)))))))))))))) (.nm 10))
    (seqS (asgS (callB (callN 2 f__law_of) (consL (varD 1) (consL (varD 10) nilL))) (.nm 11))
    (seqS (ifS (tstD (binD eqD (callB (callN 2 f__law_pick) (consL (varD 1) (consL (cD (.int 3)) nilL))) (cD (.int 0))))
    (asgS (binD addD (varD 11) (callB (callN 2 f__law_of) (consL (varD 1) (consL (newD (lstD (consL (cD (.str "\n")) (consL (cD (.str "~")) (consL (cD (.str "1")) (consL (cD (.str "\t")) (consL (cD (.str " ")) (consL (binD mulX (cD (.str "x")) (cD (.int 9))) nilL)))))))) nilL)))) (.nm 11))
    nxS)
    (ifS (tstD (binD neD (callB dcRepr (consL (callB (callN 1 f_is_name) (consL (varD 11) nilL)) nilL)) (callB dcRepr (consL (callB (callN 1 f__law_is_name) (consL (varD 11) nilL)) nilL))))
    (retS (cD (.bl false)))
    nxS)))))
    (seqS (asgS (callB (callN 2 f__law_of) (consL (varD 1) (consL (newD (lstD (consL (cD (.int 1)) (consL (cD .non) (consL (tupD (consL (cD (.str "a")) nilL)) (consL (newD (lstD (consL (cD (.str "a")) nilL))) (consL (cD (.bl true)) (consL (cD (.int 0)) (consL (newD (dispD [((cD (.str "a")), (cD (.int 1)))])) nilL))))))))) nilL))) (.nm 12))
    (seqS (asgS (binD addD (cD (.int 200)) (callB (callN 2 f__law_pick) (consL (varD 1) (consL (cD (.int 300)) nilL)))) (.nm 13))
    (seqS (ifS (tstD (binD neD (callB (callN 1 f_lexemes) (consL (binD mulX (cD (.str "a ")) (varD 13)) nilL)) (newD (lcD [5] (rngSrc1 (consL (varD 13) nilL)) (.nm 5) yesB (tupD (consL (cD (.str "word")) (consL (cD (.str "a")) (consL (binD mulX (cD (.int 2)) (varD 5)) nilL))))))))
    (retS (cD (.bl false)))
    nxS)
    (retS (andD (binD isD (callB (callN 1 f_is_name) (consL (varD 12) nilL)) (cD (.bl false))) (andD (binD eqD (callB (callN 1 f_lexemes) (consL (cD (.str "")) nilL)) (newD (lstD nilL))) (binD eqD (callB (callN 1 f_lexemes) (consL (binD mulX (cD (.str "y")) (cD (.int 500))) nilL)) (newD (lstD (consL (tupD (consL (cD (.str "word")) (consL (binD mulX (cD (.str "y")) (cD (.int 500))) (consL (cD (.int 0)) nilL)))) nilL))))))))))))))
noncomputable def f_law : DC := bodyR b_law 14
theorem ok_law {P : Program} {w : World} {K : PySem.W.Frag} {mg : Str → Option Value} {base : Heap} {f : Addr} {fd : FuncData} (F : FunD K "law" "law" (defArgs s_law) (defBody s_law) (defScope s_law) [] [] f fd) (g_len : mg "len" = none) (g_range : mg "range" = none) (g_repr : mg "repr" = none) (C_lexemes : CalleeG P w K mg base "lexemes" 3 ["text"] f_lexemes) (C_is_name : CalleeG P w K mg base "is_name" 1 ["value"] f_is_name) (C__law_source : CalleeG P w K mg base "_law_source" 1 ["script"] f__law_source) (C__law_pick : CalleeG P w K mg base "_law_pick" 1 ["source", "many"] f__law_pick) (C__law_of : CalleeG P w K mg base "_law_of" 2 ["source", "some"] f__law_of) (C__law_kept : CalleeG P w K mg base "_law_kept" 1 [] f__law_kept) (C__law_read : CalleeG P w K mg base "_law_read" 2 ["text"] f__law_read) (C__law_piece : CalleeG P w K mg base "_law_piece" 3 ["source"] f__law_piece) (C__law_told : CalleeG P w K mg base "_law_told" 4 ["text"] f__law_told) (C__law_is_name : CalleeG P w K mg base "_law_is_name" 2 ["value"] f__law_is_name) :
    FnG P w K mg base 5 f fd ["script"] f_law :=
  fnG F sc_law fun cdv A outer s H E c => have nd := sc_law.nd
    (pssd_cons (sSet 1 nd (eCall C__law_source c (pad_cons (eV 0) pad_nil)))
    (pssd_cons (psd_for c.ps c.calm (pid_range1 (by rfl) g_range (pad_cons ped_int pad_nil)) (gN 2 nd)
    (pssd_cons (sSet 3 nd ped_str)
    (pssd_cons (psd_for c.ps c.calm (pid_range1 (by rfl) g_range (pad_cons (eCall C__law_pick c (pad_cons (eV 1) (pad_cons ped_int pad_nil))) pad_nil)) (gN 4 nd)
    (pssd_one (sSet 3 nd (ped_bin od_add (eV 3) (eCall C__law_piece c (pad_cons (eV 1) pad_nil))))))
    (pssd_cons (psd_if (tEq c (eCall C__law_pick c (pad_cons (eV 1) (pad_cons ped_int pad_nil))) ped_int)
    (pssd_cons (sSet 5 nd (eCall C__law_pick c (pad_cons (eV 1) (pad_cons (ped_bin od_add (eLen g_len (pad_cons (eV 3) pad_nil)) ped_int) pad_nil))))
    (pssd_one (sSet 3 nd (ped_bin od_add (ped_bin od_add (ped_slice (eV 3) pod_none (pod_some (eV 5))) (eCall C__law_of c (pad_cons (eV 1) (pad_cons (pef_new (pef_lst (pad_cons ped_str (pad_cons ped_str (pad_cons ped_str (pad_cons ped_str (pad_cons ped_str (pad_cons ped_str (pad_cons ped_str (pad_cons ped_str (pad_cons ped_str (pad_cons ped_str pad_nil)))))))))))) pad_nil)))) (ped_slice (eV 3) (pod_some (eV 5)) pod_none)))))
    pssd_nil)
    (pssd_cons (psd_asg (eCall C__law_read c (pad_cons (eV 3) pad_nil)) (gT c (pgsd_cons (gN 6 nd) (pgsd_cons (gN 7 nd) pgsd_nil))))
    (pssd_cons (sSet 8 nd (ped_if (tIs (eV 7) ped_non) (ped_tup (pad_cons ped_str (pad_cons (eV 6) pad_nil))) (ped_tup (pad_cons ped_str (pad_cons (eV 7) pad_nil)))))
    (pssd_one (psd_if (tNe c (eRepr c g_repr (pad_cons (eCall C__law_told c (pad_cons (eV 3) pad_nil)) pad_nil)) (eRepr c g_repr (pad_cons (eV 8) pad_nil)))
    (pssd_one (psd_ret ped_bl))
    pssd_nil))))))))
    (pssd_cons (psd_if (tNe c (pef_new (pef_lc c.calm nd (pid_seq (eCall0 C__law_kept c)) (blkOk_by (own := [("word", 9)]) (by kernel_rfl)) (by decide) (fun s1 H1 C1 l1 p1 => (gN 9 nd)) (fun s1 H1 C1 l1 p1 => (ptsd_one (PW.pt (ptd_or (tIsn (eCall C_is_name (c.blk _ _ _ _ _) (pad_cons (eV 9) pad_nil)) ped_bl) (ptd_or1 (tIsn (eCall C_is_name (c.blk _ _ _ _ _) (pad_cons (ped_bin od_add (eV 9) ped_str) pad_nil)) ped_bl)))))) (fun s1 H1 C1 l1 p1 => (eV 9)))) (pef_new (pef_lst pad_nil)))
    (pssd_one (psd_ret ped_bl))
    pssd_nil)
    (pssd_cons (psd_for c.ps c.calm (pid_range1 (by rfl) g_range (pad_cons ped_int pad_nil)) (gN 2 nd)
    (pssd_cons (sSet 10 nd (pef_new (pef_lst (pad_cons ped_str (pad_cons ped_str (pad_cons ped_str (pad_cons ped_str (pad_cons ped_str (pad_cons ped_str (pad_cons ped_str (pad_cons ped_str (pad_cons ped_str (pad_cons ped_str (pad_cons ped_str (pad_cons ped_str pad_nil)))))))))))))))
    (pssd_cons (sSet 11 nd (eCall C__law_of c (pad_cons (eV 1) (pad_cons (eV 10) pad_nil))))
    (pssd_cons (psd_if (tEq c (eCall C__law_pick c (pad_cons (eV 1) (pad_cons ped_int pad_nil))) ped_int)
    (pssd_one (sSet 11 nd (ped_bin od_add (eV 11) (eCall C__law_of c (pad_cons (eV 1) (pad_cons (pef_new (pef_lst (pad_cons ped_str (pad_cons ped_str (pad_cons ped_str (pad_cons ped_str (pad_cons ped_str (pad_cons (ped_bin od_mulX ped_str ped_int) pad_nil)))))))) pad_nil))))))
    pssd_nil)
    (pssd_one (psd_if (tNe c (eRepr c g_repr (pad_cons (eCall C_is_name c (pad_cons (eV 11) pad_nil)) pad_nil)) (eRepr c g_repr (pad_cons (eCall C__law_is_name c (pad_cons (eV 11) pad_nil)) pad_nil)))
    (pssd_one (psd_ret ped_bl))
    pssd_nil))))))
    (pssd_cons (sSet 12 nd (eCall C__law_of c (pad_cons (eV 1) (pad_cons (pef_new (pef_lst (pad_cons ped_int (pad_cons ped_non (pad_cons (ped_tup (pad_cons ped_str pad_nil)) (pad_cons (pef_new (pef_lst (pad_cons ped_str pad_nil))) (pad_cons ped_bl (pad_cons ped_int (pad_cons (pef_new (pef_disp (.cons ped_str ped_int Prs.nil) rfl rfl (by decide) (by decide))) pad_nil))))))))) pad_nil))))
    (pssd_cons (sSet 13 nd (ped_bin od_add ped_int (eCall C__law_pick c (pad_cons (eV 1) (pad_cons ped_int pad_nil)))))
    (pssd_cons (psd_if (tNe c (eCall C_lexemes c (pad_cons (ped_bin od_mulX ped_str (eV 13)) pad_nil)) (pef_new (pef_lc c.calm nd (pid_range1 (by rfl) g_range (pad_cons (eV 13) pad_nil)) (blkOk_by (own := [("k", 5)]) (by kernel_rfl)) (by decide) (fun s1 H1 C1 l1 p1 => (gN 5 nd)) (fun s1 H1 C1 l1 p1 => ptsd_nil) (fun s1 H1 C1 l1 p1 => (ped_tup (pad_cons ped_str (pad_cons ped_str (pad_cons (ped_bin od_mulX ped_int (eV 5)) pad_nil))))))))
    (pssd_one (psd_ret ped_bl))
    pssd_nil)
    (pssd_one (psd_ret (ped_and (eIs (eCall C_is_name c (pad_cons (eV 12) pad_nil)) ped_bl) (ped_and (eEq c (eCall C_lexemes c (pad_cons ped_str pad_nil)) (pef_new (pef_lst pad_nil))) (ped_one (eEq c (eCall C_lexemes c (pad_cons (ped_bin od_mulX ped_str ped_int) pad_nil)) (pef_new (pef_lst (pad_cons (ped_tup (pad_cons ped_str (pad_cons (ped_bin od_mulX ped_str ped_int) (pad_cons ped_int pad_nil)))) pad_nil))))))))))))))))
/-! the head -/
def fn : List He.DefD := [⟨("run_behind", none), "run_behind", "run_behind", defArgs s_run_behind, defBody s_run_behind, defScope s_run_behind, [], []⟩,
  ⟨("lexeme_from", none), "lexeme_from", "lexeme_from", defArgs s_lexeme_from, defBody s_lexeme_from, defScope s_lexeme_from, [], []⟩,
  ⟨("lexemes", none), "lexemes", "lexemes", defArgs s_lexemes, defBody s_lexemes, defScope s_lexemes, [], []⟩,
  ⟨("is_name", none), "is_name", "is_name", defArgs s_is_name, defBody s_is_name, defScope s_is_name, [], []⟩,
  ⟨("_law_source", none), "_law_source", "_law_source", defArgs s__law_source, defBody s__law_source, defScope s__law_source, [], []⟩,
  ⟨("_law_pick", none), "_law_pick", "_law_pick", defArgs s__law_pick, defBody s__law_pick, defScope s__law_pick, [], []⟩,
  ⟨("_law_of", none), "_law_of", "_law_of", defArgs s__law_of, defBody s__law_of, defScope s__law_of, [], []⟩,
  ⟨("_law_kept", none), "_law_kept", "_law_kept", defArgs s__law_kept, defBody s__law_kept, defScope s__law_kept, [], []⟩,
  ⟨("_law_signs", none), "_law_signs", "_law_signs", defArgs s__law_signs, defBody s__law_signs, defScope s__law_signs, [], []⟩,
  ⟨("_law_read", none), "_law_read", "_law_read", defArgs s__law_read, defBody s__law_read, defScope s__law_read, [], []⟩,
  ⟨("_law_piece", none), "_law_piece", "_law_piece", defArgs s__law_piece, defBody s__law_piece, defScope s__law_piece, [], []⟩,
  ⟨("_law_told", none), "_law_told", "_law_told", defArgs s__law_told, defBody s__law_told, defScope s__law_told, [], []⟩,
  ⟨("_law_is_name", none), "_law_is_name", "_law_is_name", defArgs s__law_is_name, defBody s__law_is_name, defScope s__law_is_name, [], []⟩,
  ⟨("law", none), "law", "law", defArgs s_law, defBody s_law, defScope s_law, [], []⟩]
def fa : List He.Fa := [.glo "run_behind", .glo "lexeme_from", .glo "lexemes", .glo "is_name", .glo "_law_source", .glo "_law_pick", .glo "_law_of", .glo "_law_kept", .glo "_law_signs", .glo "_law_read", .glo "_law_piece", .glo "_law_told", .glo "_law_is_name", .glo "law", .glo "KEPT", .free "abs", .free "all", .free "int", .free "isinstance", .free "len", .free "max", .free "range", .free "repr", .free "str", .str "BLANKS" " \n", .str "FIGURES" "0123456789", .int "MOST_LETTERS" 12, .str "SIGNS" ",:;-", .str "SMALL" "abcdefghijklmnopqrstuvwxyz"]
def cs : List ExcD := [x_BadText]
def ex (K : PySem.W.Frag) : Bool := He.tupB K "KEPT" (v_KEPT.map He.Dv.str)
abbrev PP : Program := PySem.Challenge.pw_forthandback_k01_lexemes
abbrev RR : PySem.W.OpenRow := PySem.W.OpenLaw.row PySem.Challenge.rw_forthandback_k01_lexemes
abbrev hk : PySem.W.Hook := hookE PP 6 fa fn cs ex
def ob (s : PySem.W.SharedT) : AlE := obsE PP 6 fa fn cs ex (HandSHeadRun.getT s)
theorem ob_eq (s : PySem.W.SharedT) : ob s = hk.obs s.abs := obsE_eq (HandSHeadRun.getT_eq s)
def loose : List PySem.Str := (["WayError", "BadText", "BLANKS", "SIGNS", "SMALL", "FIGURES", "MOST_LETTERS", "KEPT", "run_behind", "lexeme_from", "lexemes", "is_name", "_law_source", "_law_pick", "_law_of", "_law_kept", "_law_signs", "_law_read", "_law_piece", "_law_told", "_law_is_name"] : List PySem.Str)
theorem run (w : World) : HandSHeadRun.RunEq RR (PySem.W.view RR.prog [24]) hk ob 3000 loose w := by
  intro os
  kernel_rfl
theorem facts {w : World} {K : PySem.W.Frag} {h : Heap} {mg : Str → Option Value} {f : Addr} (X : K.In h) (G : h.Ns mainGlobals mg) (hfa : mg ("law" : Str) = some (.ref f)) (c : SaysE PP fa fn cs ex K) :
    ∃ fd : FuncData, (∀ (s : Shared) (v : Value), BindsTo s fd ⟨[v], []⟩ [("script", v)]) ∧ ∀ base : Heap, K.In base → base.Ns mainGlobals mg → FnG PP w K mg base 5 f fd ["script"] f_law := by
  obtain ⟨fd, F⟩ := c.d.def_ 13
  have e := hfa.symm.trans (He.glo_ok X G (c.d.fact 13 (f := .glo "law") rfl))
  cases e
  have g_abs := He.free_ok X G (c.d.fact 15 (f := .free "abs") rfl)
  have g_all := He.free_ok X G (c.d.fact 16 (f := .free "all") rfl)
  have g_int := He.free_ok X G (c.d.fact 17 (f := .free "int") rfl)
  have g_isinstance := He.free_ok X G (c.d.fact 18 (f := .free "isinstance") rfl)
  have g_len := He.free_ok X G (c.d.fact 19 (f := .free "len") rfl)
  have g_max := He.free_ok X G (c.d.fact 20 (f := .free "max") rfl)
  have g_range := He.free_ok X G (c.d.fact 21 (f := .free "range") rfl)
  have g_repr := He.free_ok X G (c.d.fact 22 (f := .free "repr") rfl)
  have g_str := He.free_ok X G (c.d.fact 23 (f := .free "str") rfl)
  have k_BLANKS := He.str_ok X G (c.d.fact 24 (f := .str "BLANKS" " \n") rfl)
  have k_FIGURES := He.str_ok X G (c.d.fact 25 (f := .str "FIGURES" "0123456789") rfl)
  have k_MOST_LETTERS := He.int_ok X G (c.d.fact 26 (f := .int "MOST_LETTERS" 12) rfl)
  have k_SIGNS := He.str_ok X G (c.d.fact 27 (f := .str "SIGNS" ",:;-") rfl)
  have k_SMALL := He.str_ok X G (c.d.fact 28 (f := .str "SMALL" "abcdefghijklmnopqrstuvwxyz") rfl)
  have k_KEPT : TupE K mg "KEPT" v_KEPT := ⟨_, He.glo_ok X G (c.d.fact 14 (f := .glo "KEPT") rfl), fun H => by
    have q := He.tupB_ok (show He.tupB K "KEPT" (v_KEPT.map He.Dv.str) = true from c.more) H
    rw [List.map_map] at q
    exact q⟩
  have F_BadText := c.exc X G 0 (x := x_BadText) rfl
  have D_run_behind : DefFact K mg "run_behind" s_run_behind := by
    obtain ⟨fd1, F1⟩ := c.d.def_ 0
    exact ⟨_, fd1, F1, He.glo_ok X G (c.d.fact 0 (f := .glo "run_behind") rfl)⟩
  have D_lexeme_from : DefFact K mg "lexeme_from" s_lexeme_from := by
    obtain ⟨fd1, F1⟩ := c.d.def_ 1
    exact ⟨_, fd1, F1, He.glo_ok X G (c.d.fact 1 (f := .glo "lexeme_from") rfl)⟩
  have D_lexemes : DefFact K mg "lexemes" s_lexemes := by
    obtain ⟨fd1, F1⟩ := c.d.def_ 2
    exact ⟨_, fd1, F1, He.glo_ok X G (c.d.fact 2 (f := .glo "lexemes") rfl)⟩
  have D_is_name : DefFact K mg "is_name" s_is_name := by
    obtain ⟨fd1, F1⟩ := c.d.def_ 3
    exact ⟨_, fd1, F1, He.glo_ok X G (c.d.fact 3 (f := .glo "is_name") rfl)⟩
  have D__law_source : DefFact K mg "_law_source" s__law_source := by
    obtain ⟨fd1, F1⟩ := c.d.def_ 4
    exact ⟨_, fd1, F1, He.glo_ok X G (c.d.fact 4 (f := .glo "_law_source") rfl)⟩
  have D__law_pick : DefFact K mg "_law_pick" s__law_pick := by
    obtain ⟨fd1, F1⟩ := c.d.def_ 5
    exact ⟨_, fd1, F1, He.glo_ok X G (c.d.fact 5 (f := .glo "_law_pick") rfl)⟩
  have D__law_of : DefFact K mg "_law_of" s__law_of := by
    obtain ⟨fd1, F1⟩ := c.d.def_ 6
    exact ⟨_, fd1, F1, He.glo_ok X G (c.d.fact 6 (f := .glo "_law_of") rfl)⟩
  have D__law_kept : DefFact K mg "_law_kept" s__law_kept := by
    obtain ⟨fd1, F1⟩ := c.d.def_ 7
    exact ⟨_, fd1, F1, He.glo_ok X G (c.d.fact 7 (f := .glo "_law_kept") rfl)⟩
  have D__law_signs : DefFact K mg "_law_signs" s__law_signs := by
    obtain ⟨fd1, F1⟩ := c.d.def_ 8
    exact ⟨_, fd1, F1, He.glo_ok X G (c.d.fact 8 (f := .glo "_law_signs") rfl)⟩
  have D__law_read : DefFact K mg "_law_read" s__law_read := by
    obtain ⟨fd1, F1⟩ := c.d.def_ 9
    exact ⟨_, fd1, F1, He.glo_ok X G (c.d.fact 9 (f := .glo "_law_read") rfl)⟩
  have D__law_piece : DefFact K mg "_law_piece" s__law_piece := by
    obtain ⟨fd1, F1⟩ := c.d.def_ 10
    exact ⟨_, fd1, F1, He.glo_ok X G (c.d.fact 10 (f := .glo "_law_piece") rfl)⟩
  have D__law_told : DefFact K mg "_law_told" s__law_told := by
    obtain ⟨fd1, F1⟩ := c.d.def_ 11
    exact ⟨_, fd1, F1, He.glo_ok X G (c.d.fact 11 (f := .glo "_law_told") rfl)⟩
  have D__law_is_name : DefFact K mg "_law_is_name" s__law_is_name := by
    obtain ⟨fd1, F1⟩ := c.d.def_ 12
    exact ⟨_, fd1, F1, He.glo_ok X G (c.d.fact 12 (f := .glo "_law_is_name") rfl)⟩
  have b := FunD.bindsA (ps := ["script"]) F fun _ _ _ _ _ _ us hl => match us, hl with | [_], _ => rfl
  refine ⟨fd, fun s v => b s [v] rfl, fun base _ _ => ?_⟩
  have R_BadText : RaiseE PP w K mg base "BadText" 1 fs_BadText := r_BadText F_BadText
  have E_BadText := c_BadText F_BadText
  have C_run_behind : CalleeG PP w K mg base "run_behind" 1 ["text", "place", "signs"] f_run_behind := ok_run_behind D_run_behind g_len
  have C_is_name : CalleeG PP w K mg base "is_name" 1 ["value"] f_is_name := ok_is_name D_is_name g_all g_isinstance g_len g_str k_FIGURES k_MOST_LETTERS k_SMALL k_KEPT
  have C__law_source : CalleeG PP w K mg base "_law_source" 1 ["script"] f__law_source := ok__law_source D__law_source g_abs g_int
  have C__law_pick : CalleeG PP w K mg base "_law_pick" 1 ["source", "many"] f__law_pick := ok__law_pick D__law_pick g_int g_len g_max
  have C__law_kept : CalleeG PP w K mg base "_law_kept" 1 [] f__law_kept := ok__law_kept D__law_kept 
  have C__law_signs : CalleeG PP w K mg base "_law_signs" 1 [] f__law_signs := ok__law_signs D__law_signs 
  have C_lexeme_from : CalleeG PP w K mg base "lexeme_from" 2 ["text", "place"] f_lexeme_from := ok_lexeme_from D_lexeme_from g_len k_BLANKS k_FIGURES k_SIGNS k_SMALL C_run_behind
  have C__law_of : CalleeG PP w K mg base "_law_of" 2 ["source", "some"] f__law_of := ok__law_of D__law_of g_len C__law_pick
  have C__law_read : CalleeG PP w K mg base "_law_read" 2 ["text"] f__law_read := ok__law_read D__law_read g_len C__law_signs
  have C__law_is_name : CalleeG PP w K mg base "_law_is_name" 2 ["value"] f__law_is_name := ok__law_is_name D__law_is_name g_len C__law_kept C__law_signs
  have C_lexemes : CalleeG PP w K mg base "lexemes" 3 ["text"] f_lexemes := ok_lexemes D_lexemes g_len R_BadText C_lexeme_from
  have C__law_piece : CalleeG PP w K mg base "_law_piece" 3 ["source"] f__law_piece := ok__law_piece D__law_piece C__law_of
  have C__law_told : CalleeG PP w K mg base "_law_told" 4 ["text"] f__law_told := ok__law_told D__law_told E_BadText C_lexemes
  exact ok_law F g_len g_range g_repr C_lexemes C_is_name C__law_source C__law_pick C__law_of C__law_kept C__law_read C__law_piece C__law_told C__law_is_name
theorem law_holds (hL : LawD 63 f_law) : PySem.Challenge.rw_forthandback_k01_lexemes.Holds := by
  w_on; o_law
  refine HandSHeadRun.head_any (r := RR) (q := PySem.W.view RR.prog [24]) (H := hk) (ob := ob) (M := 3000) (loose := loose) (d := HandSHeadRun.topDef RR.prog 24) (kwd := []) ob_eq
    (by kernel_rfl) (fun s => by kernel_rfl) run (by kernel_rfl) (by kernel_rfl) (by kernel_rfl) (by rfl) (by first | assumption | decide +kernel) (by decide +kernel) ⟨rfl, rfl, rfl, rfl, rfl, by decide +kernel⟩ ?hw ?hc
  case hw => w_witness2
  case hc =>
    refine walkG (l := PySem.Challenge.rw_forthandback_k01_lexemes) (n := 63) (k := 5) (x := "script") rfl (by decide) (by kernel_rfl) ⟨rfl, by decide, by decide⟩ ?F
    intro w mg fa h Y G hmg0
    obtain ⟨K, KX, c⟩ := Y
    have hmg : mg ("law" : PySem.Str) = some (.ref fa) := by
      have e : (HandSHeadRun.topDef RR.prog 24).name = ("law" : PySem.Str) := by kernel_rfl
      rw [← e]
      exact hmg0
    obtain ⟨fd, hb, hF⟩ := facts (w := w) KX G hmg c
    exact ⟨K, fd, f_law, KX, hb, hL, hF⟩
end Kn
end
section
namespace Kn
open PySem PySem.Spec L2 Pd
/-! ### k01: the plain law -/
theorem pick_same : f__law_pick = Pd.f__law_pick := rfl
theorem source_same : f__law_source = Pd.f__law_source := rfl
def bl (c : Nat) : Bool := decide (c ∈ (Str.ofString " \n").cps.toList)
def sg (c : Nat) : Bool := decide (c ∈ (Str.ofString ",:;-").cps.toList)
def lt (c : Nat) : Bool := decide (c ∈ (Str.ofString "abcdefghijklmnopqrstuvwxyz0123456789").cps.toList)
theorem letters : Str.ofString "abcdefghijklmnopqrstuvwxyz" ++ Str.ofString "0123456789" = Str.ofString "abcdefghijklmnopqrstuvwxyz0123456789" := by kernel_rfl
theorem parted (c : Nat) : (bl c = true → sg c = false ∧ lt c = false) ∧ (sg c = true → lt c = false) := by
  have h1 : (Str.ofString " \n").cps.toList = [32, 10] := by kernel_rfl
  have h2 : (Str.ofString ",:;-").cps.toList = [44, 58, 59, 45] := by kernel_rfl
  have h3 : (Str.ofString "abcdefghijklmnopqrstuvwxyz0123456789").cps.toList = [97, 98, 99, 100, 101, 102, 103, 104, 105, 106, 107, 108, 109, 110, 111, 112, 113, 114, 115, 116, 117, 118, 119, 120, 121, 122, 48, 49, 50, 51, 52, 53, 54, 55, 56, 57] := by kernel_rfl
  unfold bl sg lt
  rw [h1, h2, h3]
  constructor
  · intro h
    have h : c ∈ [32, 10] := by simpa using h
    simp only [List.mem_cons, List.not_mem_nil, or_false] at h
    rcases h with rfl | rfl <;> decide
  · intro h
    have h : c ∈ [44, 58, 59, 45] := by simpa using h
    simp only [List.mem_cons, List.not_mem_nil, or_false] at h
    rcases h with rfl | rfl | rfl | rfl <;> decide
/-- run_behind -/
def runC : Sl → Mu → R Bool := (andB (tstD (binD (cmpI fun i j => decide (i < j)) (varD 1) (callB dcLen (consL (varD 0) nilL)))) (tstD (binD (inD false) (binD ixD (varD 0) (varD 1)) (varD 2))))
def runB : DS := (augS 1 ipAdd (cD (.int 1)))
theorem run_loop {s : Str} {μ : Mu} : ∀ (l pre : List Nat), (pre ++ l).length ≤ sizeLine →
    ∃ n, whF runC runB n [some (.str (Tx (pre ++ l))), some (.int pre.length), some (.str s)] μ = some (.nx [some (.str (Tx (pre ++ l))), some (.int ((pre.length + (l.takeWhile fun c => decide (c ∈ s.cps.toList)).length : Nat) : Int)), some (.str s)] μ)
  | [], pre, hz => by
    refine ⟨1, ?_⟩
    rw [whF_end (μ1 := μ)]
    · simp
    · unfold runC
      rw [List.append_nil] at *
      simp only [lifA_run, runA_ok, runA_exc, seqS_run, seqR_nx, seqR_rt, seqR_ct, seqR_bk, seqR_exc, nxS_run, ctS_run, bkS_run, asgS, parS, retS, expS, ifS, setS, augS, varD, cD, binD, tstD, andB, orB, notB, truB, callB, callN, consL, nilL, meth0, bindR_ok, bindR_none, bindR_exc, bindT, bindTs, int2, cmpI, addD, addI, subI, mulX, mulD, mulI, fdivI, modI, dcInt, dcMax2, dcMin2, dcAbs, List.getElem?_cons_zero, List.getElem?_cons_succ, List.getElem?_nil, if_true, if_false, Bool.true_and, Bool.and_true, List.set_cons_zero, List.set_cons_succ, List.length_cons, List.length_nil, reduceIte, Nat.reduceAdd, Nat.reduceEqDiff, decide_true, decide_false, Bool.false_eq_true, len_tx hz]
      simp
  | c :: l, pre, hz => by
    have hget : (pre ++ c :: l)[pre.length]? = some c := by simp
    have hlt : decide (((pre.length : Nat) : Int) < (((pre ++ c :: l).length : Nat) : Int)) = true := decide_eq_true (by simp; omega)
    by_cases hc : c ∈ s.cps.toList
    · obtain ⟨n, ih⟩ := run_loop l (pre ++ [c]) (by simpa using hz)
      refine ⟨n + 1, ?_⟩
      have e : (pre ++ [c]) ++ l = pre ++ c :: l := by simp
      rw [e] at ih
      have e2 : (((pre ++ [c]).length : Nat) : Int) = (pre.length : Int) + 1 := by simp
      rw [whF_go (μ1 := μ) (sl2 := [some (.str (Tx (pre ++ c :: l))), some (.int ((pre.length : Int) + 1)), some (.str s)]) (μ2 := μ), ← e2, ih]
      · have hw : (List.takeWhile (fun c => decide (c ∈ s.cps.toList)) (c :: l)) = c :: List.takeWhile (fun c => decide (c ∈ s.cps.toList)) l := by
          rw [List.takeWhile_cons, decide_eq_true hc]; rfl
        rw [hw]
        have : (pre ++ [c]).length + (List.takeWhile (fun c => decide (c ∈ s.cps.toList)) l).length = pre.length + (c :: List.takeWhile (fun c => decide (c ∈ s.cps.toList)) l).length := by simp; omega
        rw [this]
      · unfold runC
        simp only [lifA_run, runA_ok, runA_exc, seqS_run, seqR_nx, seqR_rt, seqR_ct, seqR_bk, seqR_exc, nxS_run, ctS_run, bkS_run, asgS, parS, retS, expS, ifS, setS, augS, varD, cD, binD, tstD, andB, orB, notB, truB, callB, callN, consL, nilL, meth0, bindR_ok, bindR_none, bindR_exc, bindT, bindTs, int2, cmpI, addD, addI, subI, mulX, mulD, mulI, fdivI, modI, dcInt, dcMax2, dcMin2, dcAbs, List.getElem?_cons_zero, List.getElem?_cons_succ, List.getElem?_nil, if_true, if_false, Bool.true_and, Bool.and_true, List.set_cons_zero, List.set_cons_succ, List.length_cons, List.length_nil, reduceIte, Nat.reduceAdd, Nat.reduceEqDiff, decide_true, decide_false, Bool.false_eq_true, len_tx hz, hlt, ix_tx hget hz, in_tx, decide_eq_true hc]
      · refine .inl ?_
        unfold runB
        simp only [lifA_run, runA_ok, runA_exc, seqS_run, seqR_nx, seqR_rt, seqR_ct, seqR_bk, seqR_exc, nxS_run, ctS_run, bkS_run, asgS, parS, retS, expS, ifS, setS, augS, varD, cD, binD, tstD, andB, orB, notB, truB, callB, callN, consL, nilL, meth0, bindR_ok, bindR_none, bindR_exc, bindT, bindTs, int2, cmpI, addD, addI, subI, mulX, mulD, mulI, fdivI, modI, dcInt, dcMax2, dcMin2, dcAbs, List.getElem?_cons_zero, List.getElem?_cons_succ, List.getElem?_nil, if_true, if_false, Bool.true_and, Bool.and_true, List.set_cons_zero, List.set_cons_succ, List.length_cons, List.length_nil, reduceIte, Nat.reduceAdd, Nat.reduceEqDiff, decide_true, decide_false, Bool.false_eq_true, ipAdd]
    · refine ⟨1, ?_⟩
      rw [whF_end (μ1 := μ)]
      · rw [List.takeWhile_cons, decide_eq_false hc]
        simp
      · unfold runC
        simp only [lifA_run, runA_ok, runA_exc, seqS_run, seqR_nx, seqR_rt, seqR_ct, seqR_bk, seqR_exc, nxS_run, ctS_run, bkS_run, asgS, parS, retS, expS, ifS, setS, augS, varD, cD, binD, tstD, andB, orB, notB, truB, callB, callN, consL, nilL, meth0, bindR_ok, bindR_none, bindR_exc, bindT, bindTs, int2, cmpI, addD, addI, subI, mulX, mulD, mulI, fdivI, modI, dcInt, dcMax2, dcMin2, dcAbs, List.getElem?_cons_zero, List.getElem?_cons_succ, List.getElem?_nil, if_true, if_false, Bool.true_and, Bool.and_true, List.set_cons_zero, List.set_cons_succ, List.length_cons, List.length_nil, reduceIte, Nat.reduceAdd, Nat.reduceEqDiff, decide_true, decide_false, Bool.false_eq_true, len_tx hz, hlt, ix_tx hget hz, in_tx, decide_eq_false hc]
theorem run_ok {s : Str} {μ : Mu} (pre l : List Nat) (hz : (pre ++ l).length ≤ sizeLine) :
    f_run_behind [.str (Tx (pre ++ l)), .int pre.length, .str s] μ = ok (.int ((pre.length + (l.takeWhile fun c => decide (c ∈ s.cps.toList)).length : Nat) : Int)) μ := by
  obtain ⟨n, h⟩ := run_loop (s := s) (μ := μ) l pre hz
  refine bodyR_rt ?_
  show b_run_behind [some (.str (Tx (pre ++ l))), some (.int pre.length), some (.str s)] μ = _
  unfold b_run_behind
  refine (seqS_nx (whS_of h)).trans ?_
  simp only [lifA_run, runA_ok, runA_exc, seqS_run, seqR_nx, seqR_rt, seqR_ct, seqR_bk, seqR_exc, nxS_run, ctS_run, bkS_run, asgS, parS, retS, expS, ifS, setS, augS, varD, cD, binD, tstD, andB, orB, notB, truB, callB, callN, consL, nilL, meth0, bindR_ok, bindR_none, bindR_exc, bindT, bindTs, int2, cmpI, addD, addI, subI, mulX, mulD, mulI, fdivI, modI, dcInt, dcMax2, dcMin2, dcAbs, List.getElem?_cons_zero, List.getElem?_cons_succ, List.getElem?_nil, if_true, if_false, Bool.true_and, Bool.and_true, List.set_cons_zero, List.set_cons_succ, List.length_cons, List.length_nil, reduceIte, Nat.reduceAdd, Nat.reduceEqDiff, decide_true, decide_false, Bool.false_eq_true]
end Kn
end
section
namespace Kn
open PySem PySem.Spec L2 Pd
abbrev tok (kind : Str) (t : List Nat) (k : Nat) : D := .tup [.str kind, .str (Tx t), .int (k : Nat)]
def atL (k : Nat) : List Nat → D
  | [] => tok "end" [] k
  | c :: r => if sg c then tok "sign" [c] k else if lt c then tok "word" ((c :: r).takeWhile lt) k else tok "wrong" [] k
def hereOf (l : List Nat) (k : Nat) : D := atL (k + (l.takeWhile bl).length) (l.dropWhile bl)
theorem eq_int {i j : Int} {μ : Mu} : eqD (.int i) (.int j) μ = ok (.bl (decide (i = j))) μ := by
  rw [eqD_pl (pl_int i) (pl_int j)]
  simp only [PyData.eqv]
  rfl
theorem tx_nil : (Str.ofString "") = Tx [] := by kernel_rfl
theorem lex_ok {μ : Mu} (pre l : List Nat) (hz : (pre ++ l).length ≤ sizeLine) : f_lexeme_from [.str (Tx (pre ++ l)), .int pre.length] μ = ok (hereOf l pre.length) μ := by
  have r1 := run_ok (s := Str.ofString " \n") (μ := μ) pre l hz
  have eb : (fun c => decide (c ∈ (Str.ofString " \n").cps.toList)) = bl := rfl
  rw [eb] at r1
  obtain ⟨p, hp⟩ : ∃ p, p = pre ++ l.takeWhile bl := ⟨_, rfl⟩
  obtain ⟨r, hr⟩ : ∃ r, r = l.dropWhile bl := ⟨_, rfl⟩
  have e : pre ++ l = p ++ r := by rw [hp, hr, List.append_assoc, List.takeWhile_append_dropWhile]
  have el : pre.length + (l.takeWhile bl).length = p.length := by rw [hp, List.length_append]
  have hh : hereOf l pre.length = atL p.length r := by unfold hereOf; rw [el, ← hr]
  rw [hh]
  rw [el] at r1
  rw [e] at r1 hz ⊢
  have three : (3 : Nat) ≤ sizeLine := by rw [sizeLine_eq]; decide
  refine bodyR_rt ?_
  show b_lexeme_from [some (.str (Tx (p ++ r))), some (.int pre.length), none] μ = _
  unfold b_lexeme_from
  cases r with
  | nil =>
    have hd : decide (((p.length : Nat) : Int) = (((p ++ ([] : List Nat)).length : Nat) : Int)) = true := decide_eq_true (by simp)
    simp only [lifA_run, runA_ok, runA_exc, seqS_run, seqR_nx, seqR_rt, seqR_ct, seqR_bk, seqR_exc, nxS_run, ctS_run, bkS_run, asgS, parS, retS, expS, ifS, setS, augS, varD, cD, binD, tstD, andB, orB, notB, truB, callB, callN, consL, nilL, meth0, bindR_ok, bindR_none, bindR_exc, bindT, bindTs, int2, cmpI, addD, addI, subI, mulX, mulD, mulI, fdivI, modI, dcInt, dcMax2, dcMin2, dcAbs, List.getElem?_cons_zero, List.getElem?_cons_succ, List.getElem?_nil, if_true, if_false, Bool.true_and, Bool.and_true, List.set_cons_zero, List.set_cons_succ, List.length_cons, List.length_nil, reduceIte, Nat.reduceAdd, Nat.reduceEqDiff, decide_true, decide_false, Bool.false_eq_true, r1, len_tx hz, eq_int, hd, tupD, if_pos three]
    rw [tx_nil]; rfl
  | cons c r =>
    have hd : decide (((p.length : Nat) : Int) = (((p ++ c :: r).length : Nat) : Int)) = false := decide_eq_false (by simp; omega)
    have hget : (p ++ c :: r)[p.length]? = some c := by simp
    have esg : ∀ c : Nat, decide (c ∈ (Str.ofString ",:;-").cps.toList) = sg c := fun _ => rfl
    by_cases hs : sg c = true
    · simp only [lifA_run, runA_ok, runA_exc, seqS_run, seqR_nx, seqR_rt, seqR_ct, seqR_bk, seqR_exc, nxS_run, ctS_run, bkS_run, asgS, parS, retS, expS, ifS, setS, augS, varD, cD, binD, tstD, andB, orB, notB, truB, callB, callN, consL, nilL, meth0, bindR_ok, bindR_none, bindR_exc, bindT, bindTs, int2, cmpI, addD, addI, subI, mulX, mulD, mulI, fdivI, modI, dcInt, dcMax2, dcMin2, dcAbs, List.getElem?_cons_zero, List.getElem?_cons_succ, List.getElem?_nil, if_true, if_false, Bool.true_and, Bool.and_true, List.set_cons_zero, List.set_cons_succ, List.length_cons, List.length_nil, reduceIte, Nat.reduceAdd, Nat.reduceEqDiff, decide_true, decide_false, Bool.false_eq_true, r1, len_tx hz, eq_int, hd, ix_tx hget hz, in_tx, esg, hs, tupD, if_pos three]
      simp only [atL, hs, if_true]
    · have hs' : sg c = false := by simpa using hs
      have r2 := run_ok (s := Str.ofString "abcdefghijklmnopqrstuvwxyz0123456789") (μ := μ) p (c :: r) hz
      have elt : (fun c => decide (c ∈ (Str.ofString "abcdefghijklmnopqrstuvwxyz0123456789").cps.toList)) = lt := rfl
      rw [elt] at r2
      have ladd : addS (.str (Str.ofString "abcdefghijklmnopqrstuvwxyz")) (.str (Str.ofString "0123456789")) μ = ok (.str (Str.ofString "abcdefghijklmnopqrstuvwxyz0123456789")) μ := by
        have h0 : (Str.ofString "abcdefghijklmnopqrstuvwxyz").length + (Str.ofString "0123456789").length ≤ sizeLine := by rw [sizeLine_eq]; decide +kernel
        rw [← letters]
        simp only [addS, if_pos h0]
      have hw : ((c :: r).takeWhile lt).length ≤ (c :: r).length := (List.takeWhile_sublist lt).length_le
      by_cases hl : lt c = true
      · have hpos : 0 < ((c :: r).takeWhile lt).length := by rw [List.takeWhile_cons, if_pos hl]; simp
        have hgt : decide (((p.length : Nat) : Int) < ((p.length + ((c :: r).takeWhile lt).length : Nat) : Int)) = true := decide_eq_true (by omega)
        have hcut : cutS (Tx (p ++ c :: r)) (some ((p.length : Nat) : Int)) (some ((p.length + ((c :: r).takeWhile lt).length : Nat) : Int)) = Tx ((c :: r).takeWhile lt) := by
          rw [cut_tx (by omega) (by rw [List.length_append]; omega)]
          congr 1
          rw [List.drop_left, Nat.add_sub_cancel_left]
          exact (List.prefix_iff_eq_take.mp (List.takeWhile_prefix lt)).symm
        simp only [lifA_run, runA_ok, runA_exc, seqS_run, seqR_nx, seqR_rt, seqR_ct, seqR_bk, seqR_exc, nxS_run, ctS_run, bkS_run, asgS, parS, retS, expS, ifS, setS, augS, varD, cD, binD, tstD, andB, orB, notB, truB, callB, callN, consL, nilL, meth0, bindR_ok, bindR_none, bindR_exc, bindT, bindTs, int2, cmpI, addD, addI, subI, mulX, mulD, mulI, fdivI, modI, dcInt, dcMax2, dcMin2, dcAbs, List.getElem?_cons_zero, List.getElem?_cons_succ, List.getElem?_nil, if_true, if_false, Bool.true_and, Bool.and_true, List.set_cons_zero, List.set_cons_succ, List.length_cons, List.length_nil, reduceIte, Nat.reduceAdd, Nat.reduceEqDiff, decide_true, decide_false, Bool.false_eq_true, r1, len_tx hz, eq_int, hd, ix_tx hget hz, in_tx, esg, hs', ladd, r2, ifD, hgt, sliceD, someO, sl_tx hz, hcut, tupD, if_pos three]
        simp only [atL, hs', hl, if_true, Bool.false_eq_true, if_false]
      · have hl' : lt c = false := by simpa using hl
        have h0 : ((c :: r).takeWhile lt) = [] := by rw [List.takeWhile_cons, if_neg hl]
        rw [h0] at r2
        have hgt : decide (((p.length : Nat) : Int) < ((p.length + 0 : Nat) : Int)) = false := decide_eq_false (by simp)
        simp only [lifA_run, runA_ok, runA_exc, seqS_run, seqR_nx, seqR_rt, seqR_ct, seqR_bk, seqR_exc, nxS_run, ctS_run, bkS_run, asgS, parS, retS, expS, ifS, setS, augS, varD, cD, binD, tstD, andB, orB, notB, truB, callB, callN, consL, nilL, meth0, bindR_ok, bindR_none, bindR_exc, bindT, bindTs, int2, cmpI, addD, addI, subI, mulX, mulD, mulI, fdivI, modI, dcInt, dcMax2, dcMin2, dcAbs, List.getElem?_cons_zero, List.getElem?_cons_succ, List.getElem?_nil, if_true, if_false, Bool.true_and, Bool.and_true, List.set_cons_zero, List.set_cons_succ, List.length_cons, List.length_nil, reduceIte, Nat.reduceAdd, Nat.reduceEqDiff, decide_true, decide_false, Bool.false_eq_true, r1, len_tx hz, eq_int, hd, ix_tx hget hz, in_tx, esg, hs', ladd, r2, ifD, hgt, tupD, if_pos three]
        simp only [atL, hs', hl', Bool.false_eq_true, if_false, tx_nil]
end Kn
end
section
namespace Kn
open PySem PySem.Spec L2 Pd
/-- the lexemes of what is left, and the first place that begins none -/
def lexN : Nat → List Nat → Nat → List D × Option Nat
  | 0, _, _ => ([], none)
  | _ + 1, [], _ => ([], none)
  | n + 1, c :: r, k => if bl c then lexN n r (k + 1) else if sg c then (tok "sign" [c] k :: (lexN n r (k + 1)).1, (lexN n r (k + 1)).2)
      else if lt c then (tok "word" ((c :: r).takeWhile lt) k :: (lexN n ((c :: r).dropWhile lt) (k + ((c :: r).takeWhile lt).length)).1, (lexN n ((c :: r).dropWhile lt) (k + ((c :: r).takeWhile lt).length)).2)
      else ([], some k)
theorem hereOf_bl {c : Nat} {r : List Nat} {k : Nat} (h : bl c = true) : hereOf (c :: r) k = hereOf r (k + 1) := by
  unfold hereOf
  rw [List.takeWhile_cons, List.dropWhile_cons, if_pos h, if_pos h]
  congr 1
  simp; omega
theorem hereOf_no {c : Nat} {r : List Nat} {k : Nat} (h : bl c = false) : hereOf (c :: r) k = atL k (c :: r) := by
  unfold hereOf
  have h' : ¬ bl c = true := by rw [h]; exact Bool.false_ne_true
  rw [List.takeWhile_cons, List.dropWhile_cons, if_neg h', if_neg h']
  simp
theorem hereOf_nil {k : Nat} : hereOf [] k = tok "end" [] k := rfl
theorem eq_str {a b : Str} {μ : Mu} (ha : PyData.strOk a = true) (hb : PyData.strOk b = true) : eqD (.str a) (.str b) μ = ok (.bl (a == b)) μ := by
  rw [eqD_pl (pl_str ha) (pl_str hb)]; simp only [PyData.eqv]
theorem ne_str {a b : Str} {μ : Mu} (ha : PyData.strOk a = true) (hb : PyData.strOk b = true) : neD (.str a) (.str b) μ = ok (.bl (!(a == b))) μ := by
  rw [neD_pl (pl_str ha) (pl_str hb)]; simp only [PyData.eqv]
section
variable {μ : Mu} {a b d : D}
theorem ix0 : ixD (.tup [a, b, d]) (.int 0) μ = ok a μ := rfl
theorem ix1 : ixD (.tup [a, b, d]) (.int 1) μ = ok b μ := rfl
theorem ix2 : ixD (.tup [a, b, d]) (.int 2) μ = ok d μ := rfl
theorem se : neD (.str "sign") (.str "end") μ = ok (.bl true) μ := by rw [ne_str (by kernel_rfl) (by kernel_rfl)]; rfl
theorem we : neD (.str "word") (.str "end") μ = ok (.bl true) μ := by rw [ne_str (by kernel_rfl) (by kernel_rfl)]; rfl
theorem xe : neD (.str "wrong") (.str "end") μ = ok (.bl true) μ := by rw [ne_str (by kernel_rfl) (by kernel_rfl)]; rfl
theorem ee : neD (.str "end") (.str "end") μ = ok (.bl false) μ := by rw [ne_str (by kernel_rfl) (by kernel_rfl)]; rfl
theorem sx : eqD (.str "sign") (.str "wrong") μ = ok (.bl false) μ := by rw [eq_str (by kernel_rfl) (by kernel_rfl)]; rfl
theorem wx : eqD (.str "word") (.str "wrong") μ = ok (.bl false) μ := by rw [eq_str (by kernel_rfl) (by kernel_rfl)]; rfl
theorem xx : eqD (.str "wrong") (.str "wrong") μ = ok (.bl true) μ := by rw [eq_str (by kernel_rfl) (by kernel_rfl)]; rfl
end
def lexC : Sl → Mu → R Bool := (tstD (binD neD (binD ixD (varD 2) (cD (.int 0))) (cD (.str "end"))))
noncomputable def lexB : DS := (seqS (ifS (tstD (binD eqD (binD ixD (varD 2) (cD (.int 0))) (cD (.str "wrong"))))
    (raiseS "BadText" 1 fs_BadText (consL (binD ixD (varD 2) (cD (.int 2))) nilL))
    nxS)
    (seqS (expS (methB .lst dmAppend (varD 1) (consL (varD 2) nilL)))
    (asgS (callB (callN 2 f_lexeme_from) (consL (varD 0) (consL (binD addD (binD ixD (varD 2) (cD (.int 2))) (callB dcLen (consL (binD ixD (varD 2) (cD (.int 1))) nilL))) nilL))) (.nm 2))))
/-- how the loop of lexemes ends -/
def lexEnd (t : D) (c : Nat) (acc : List D) (q : List D × Option Nat) (μ : Mu) (o : Option OutS) : Prop := match q.2 with
  | none => ∃ h, o = some (.nx [some t, some (.ref c), h] (setL μ c (acc ++ q.1)))
  | some w => ∃ sl, o = some (.exc ⟨"BadText", ["place"], [.int (w : Nat)]⟩ sl (setL μ c (acc ++ q.1)))
theorem setL_setL {μ : Mu} {c : Nat} {x y : List D} : setL (setL μ c x) c y = setL μ c y := by unfold setL; rw [List.set_set]
theorem setL_self {μ : Mu} {c : Nat} {x : List D} (h : μ[c]? = some (some (.lst x))) : setL μ c x = μ := by
  unfold setL
  obtain ⟨hc, e⟩ := List.getElem?_eq_some_iff.mp h
  rw [← e]; exact List.set_getElem_self hc
/-- one lexeme more -/
theorem lex_step {μ : Mu} {c k : Nat} {acc : List D} {kind : Str} {t p r : List Nat} {x : D} (hm : μ[c]? = some (some (.lst acc))) (ha : acc.length < sizeLine) (hz : (p ++ r).length ≤ sizeLine) (ht : t.length ≤ sizeLine)
    (hk : k + t.length = p.length) (h1 : ∀ μ, eqD (.str kind) (.str "wrong") μ = ok (.bl false) μ) :
    lexB [some (.str (Tx (p ++ r))), some (.ref c), some (tok kind t k)] μ = some (.nx [some (.str (Tx (p ++ r))), some (.ref c), some (hereOf r p.length)] (setL μ c (acc ++ [tok kind t k]))) := by
  have ty : tyD .lst μ (.ref c) = true := by simp [tyD, lstOf, hm]
  have ap : dmAppend (.ref c) [tok kind t k] μ = ok .non (setL μ c (acc ++ [tok kind t k])) := by
    simp only [dmAppend, rawL, hm, if_pos ha]
  have l1 := lex_ok (μ := setL μ c (acc ++ [tok kind t k])) p r hz
  have e : ((k : Nat) : Int) + ((t.length : Nat) : Int) = ((p.length : Nat) : Int) := by omega
  unfold lexB
  simp only [lifA_run, runA_ok, runA_exc, seqS_run, seqR_nx, seqR_rt, seqR_ct, seqR_bk, seqR_exc, nxS_run, ctS_run, bkS_run, asgS, parS, retS, expS, ifS, setS, augS, varD, cD, binD, tstD, andB, orB, notB, truB, callB, callN, consL, nilL, meth0, bindR_ok, bindR_none, bindR_exc, bindT, bindTs, int2, cmpI, addD, addI, subI, mulX, mulD, mulI, fdivI, modI, dcInt, dcMax2, dcMin2, dcAbs, List.getElem?_cons_zero, List.getElem?_cons_succ, List.getElem?_nil, if_true, if_false, Bool.true_and, Bool.and_true, List.set_cons_zero, List.set_cons_succ, List.length_cons, List.length_nil, reduceIte, Nat.reduceAdd, Nat.reduceEqDiff, decide_true, decide_false, Bool.false_eq_true, ix0, ix1, ix2, h1, methB, ty, ap, len_tx ht, e, l1]
theorem lexemes_loop {c : Nat} : ∀ (n : Nat) (l pre acc : List _) (μ : Mu), l.length ≤ n → (pre ++ l).length ≤ sizeLine → acc.length + l.length < sizeLine → μ[c]? = some (some (.lst acc)) →
    ∃ N, lexEnd (.str (Tx (pre ++ l))) c acc (lexN n l pre.length) μ (whF lexC lexB N [some (.str (Tx (pre ++ l))), some (.ref c), some (hereOf l pre.length)] μ) := by
  intro n
  induction n with
  | zero =>
    intro l pre acc μ hn hz ha hm
    have : l = [] := List.length_eq_zero_iff.mp (Nat.le_zero.mp hn)
    subst this
    refine ⟨1, some (hereOf [] pre.length), ?_⟩
    rw [whF_end (μ1 := μ)]
    · simp only [lexN, List.append_nil, setL_self hm]
    · rw [hereOf_nil]
      unfold lexC
      simp only [lifA_run, runA_ok, runA_exc, seqS_run, seqR_nx, seqR_rt, seqR_ct, seqR_bk, seqR_exc, nxS_run, ctS_run, bkS_run, asgS, parS, retS, expS, ifS, setS, augS, varD, cD, binD, tstD, andB, orB, notB, truB, callB, callN, consL, nilL, meth0, bindR_ok, bindR_none, bindR_exc, bindT, bindTs, int2, cmpI, addD, addI, subI, mulX, mulD, mulI, fdivI, modI, dcInt, dcMax2, dcMin2, dcAbs, List.getElem?_cons_zero, List.getElem?_cons_succ, List.getElem?_nil, if_true, if_false, Bool.true_and, Bool.and_true, List.set_cons_zero, List.set_cons_succ, List.length_cons, List.length_nil, reduceIte, Nat.reduceAdd, Nat.reduceEqDiff, decide_true, decide_false, Bool.false_eq_true, ix0, ee]
  | succ n ih =>
    intro l pre acc μ hn hz ha hm
    cases l with
    | nil =>
      refine ⟨1, some (hereOf [] pre.length), ?_⟩
      rw [whF_end (μ1 := μ)]
      · simp only [lexN, List.append_nil, setL_self hm]
      · rw [hereOf_nil]
        unfold lexC
        simp only [lifA_run, runA_ok, runA_exc, seqS_run, seqR_nx, seqR_rt, seqR_ct, seqR_bk, seqR_exc, nxS_run, ctS_run, bkS_run, asgS, parS, retS, expS, ifS, setS, augS, varD, cD, binD, tstD, andB, orB, notB, truB, callB, callN, consL, nilL, meth0, bindR_ok, bindR_none, bindR_exc, bindT, bindTs, int2, cmpI, addD, addI, subI, mulX, mulD, mulI, fdivI, modI, dcInt, dcMax2, dcMin2, dcAbs, List.getElem?_cons_zero, List.getElem?_cons_succ, List.getElem?_nil, if_true, if_false, Bool.true_and, Bool.and_true, List.set_cons_zero, List.set_cons_succ, List.length_cons, List.length_nil, reduceIte, Nat.reduceAdd, Nat.reduceEqDiff, decide_true, decide_false, Bool.false_eq_true, ix0, ee]
    | cons x r =>
      have hn' : r.length ≤ n := by simpa using hn
      have ha' : acc.length < sizeLine := by simp only [List.length_cons] at ha; omega
      by_cases hb : bl x = true
      · obtain ⟨N, h⟩ := ih r (pre ++ [x]) acc μ hn' (by simpa using hz) (by simp only [List.length_cons] at ha; omega) hm
        refine ⟨N, ?_⟩
        rw [hereOf_bl hb]
        have e : (pre ++ [x]) ++ r = pre ++ x :: r := by simp
        have e2 : (pre ++ [x]).length = pre.length + 1 := by simp
        rw [e, e2] at h
        rw [lexN, if_pos hb]
        exact h
      · have hb' : bl x = false := by simpa using hb
        rw [hereOf_no hb', lexN, if_neg hb]
        have hc : (setL μ c acc)[c]? = some (some (.lst acc)) := by rw [setL_self hm]; exact hm
        have hset : ∀ y, (setL μ c y)[c]? = some (some (.lst y)) := fun y => by
          unfold setL
          exact List.getElem?_set_self (List.getElem?_eq_some_iff.mp hm).1
        by_cases hs : sg x = true
        · rw [if_pos hs]
          have ea : atL pre.length (x :: r) = tok "sign" [x] pre.length := by simp only [atL, hs, if_true]
          rw [ea]
          have e : (pre ++ [x]) ++ r = pre ++ x :: r := by simp
          have e2 : (pre ++ [x]).length = pre.length + 1 := by simp
          obtain ⟨N, h⟩ := ih r (pre ++ [x]) (acc ++ [tok "sign" [x] pre.length]) (setL μ c (acc ++ [tok "sign" [x] pre.length])) hn' (by simpa using hz) (by simp only [List.length_cons, List.length_append, List.length_nil] at ha ⊢; omega) (hset _)
          have st := lex_step (x := .non) (kind := "sign") (t := [x]) (k := pre.length) (p := pre ++ [x]) (r := r) hm ha' (by rw [e]; exact hz) (by simp [sizeLine_eq]) (by simp) (fun μ => sx)
          refine ⟨N + 1, ?_⟩
          rw [e] at st h
          rw [whF_go (μ1 := μ) (by unfold lexC; simp only [lifA_run, runA_ok, runA_exc, seqS_run, seqR_nx, seqR_rt, seqR_ct, seqR_bk, seqR_exc, nxS_run, ctS_run, bkS_run, asgS, parS, retS, expS, ifS, setS, augS, varD, cD, binD, tstD, andB, orB, notB, truB, callB, callN, consL, nilL, meth0, bindR_ok, bindR_none, bindR_exc, bindT, bindTs, int2, cmpI, addD, addI, subI, mulX, mulD, mulI, fdivI, modI, dcInt, dcMax2, dcMin2, dcAbs, List.getElem?_cons_zero, List.getElem?_cons_succ, List.getElem?_nil, if_true, if_false, Bool.true_and, Bool.and_true, List.set_cons_zero, List.set_cons_succ, List.length_cons, List.length_nil, reduceIte, Nat.reduceAdd, Nat.reduceEqDiff, decide_true, decide_false, Bool.false_eq_true, ix0, se]) (.inl st)]
          rw [e2] at h ⊢
          unfold lexEnd at h ⊢
          revert h
          cases (lexN n r (pre.length + 1)).2 with
          | none => rintro ⟨y, h⟩; exact ⟨y, by rw [h, setL_setL, List.append_assoc]; rfl⟩
          | some w => rintro ⟨y, h⟩; exact ⟨y, by rw [h, setL_setL, List.append_assoc]; rfl⟩
        · rw [if_neg hs]
          have hs' : sg x = false := by simpa using hs
          by_cases hl : lt x = true
          · rw [if_pos hl]
            have ea : atL pre.length (x :: r) = tok "word" ((x :: r).takeWhile lt) pre.length := by simp only [atL, hs', hl, if_true, Bool.false_eq_true, if_false]
            rw [ea]
            obtain ⟨w, hw⟩ : ∃ w, w = (x :: r).takeWhile lt := ⟨_, rfl⟩
            obtain ⟨v, hv⟩ : ∃ v, v = (x :: r).dropWhile lt := ⟨_, rfl⟩
            have ewv : w ++ v = x :: r := by rw [hw, hv, List.takeWhile_append_dropWhile]
            have hw0 : 0 < w.length := by rw [hw, List.takeWhile_cons, if_pos hl]; simp
            have hlen : w.length + v.length = r.length + 1 := by rw [← List.length_append, ewv]; rfl
            rw [← hw, ← hv]
            have e : (pre ++ w) ++ v = pre ++ x :: r := by rw [List.append_assoc, ewv]
            have e2 : (pre ++ w).length = pre.length + w.length := List.length_append
            obtain ⟨N, h⟩ := ih v (pre ++ w) (acc ++ [tok "word" w pre.length]) (setL μ c (acc ++ [tok "word" w pre.length])) (by omega) (by rw [e]; exact hz) (by simp only [List.length_cons, List.length_append, List.length_nil] at ha ⊢; omega) (hset _)
            have hz' : pre.length + (r.length + 1) ≤ sizeLine := by simpa using hz
            have st := lex_step (x := .non) (kind := "word") (t := w) (k := pre.length) (p := pre ++ w) (r := v) hm ha' (by rw [e]; exact hz) (by omega) e2.symm (fun μ => wx)
            refine ⟨N + 1, ?_⟩
            rw [e] at st h
            rw [whF_go (μ1 := μ) (by unfold lexC; simp only [lifA_run, runA_ok, runA_exc, seqS_run, seqR_nx, seqR_rt, seqR_ct, seqR_bk, seqR_exc, nxS_run, ctS_run, bkS_run, asgS, parS, retS, expS, ifS, setS, augS, varD, cD, binD, tstD, andB, orB, notB, truB, callB, callN, consL, nilL, meth0, bindR_ok, bindR_none, bindR_exc, bindT, bindTs, int2, cmpI, addD, addI, subI, mulX, mulD, mulI, fdivI, modI, dcInt, dcMax2, dcMin2, dcAbs, List.getElem?_cons_zero, List.getElem?_cons_succ, List.getElem?_nil, if_true, if_false, Bool.true_and, Bool.and_true, List.set_cons_zero, List.set_cons_succ, List.length_cons, List.length_nil, reduceIte, Nat.reduceAdd, Nat.reduceEqDiff, decide_true, decide_false, Bool.false_eq_true, ix0, we]) (.inl st)]
            rw [e2] at h ⊢
            unfold lexEnd at h ⊢
            revert h
            cases (lexN n v (pre.length + w.length)).2 with
            | none => rintro ⟨y, h⟩; exact ⟨y, by rw [h, setL_setL, List.append_assoc]; rfl⟩
            | some w => rintro ⟨y, h⟩; exact ⟨y, by rw [h, setL_setL, List.append_assoc]; rfl⟩
          · rw [if_neg hl]
            have hl' : lt x = false := by simpa using hl
            have ea : atL pre.length (x :: r) = tok "wrong" [] pre.length := by simp only [atL, hs', hl', Bool.false_eq_true, if_false]
            rw [ea]
            refine ⟨1, [some (.str (Tx (pre ++ x :: r))), some (.ref c), some (tok "wrong" [] pre.length)], ?_⟩
            rw [List.append_nil, setL_self hm, whF]
            have c1 : lexC [some (.str (Tx (pre ++ x :: r))), some (.ref c), some (tok "wrong" [] pre.length)] μ = ok true μ := by unfold lexC; simp only [lifA_run, runA_ok, runA_exc, seqS_run, seqR_nx, seqR_rt, seqR_ct, seqR_bk, seqR_exc, nxS_run, ctS_run, bkS_run, asgS, parS, retS, expS, ifS, setS, augS, varD, cD, binD, tstD, andB, orB, notB, truB, callB, callN, consL, nilL, meth0, bindR_ok, bindR_none, bindR_exc, bindT, bindTs, int2, cmpI, addD, addI, subI, mulX, mulD, mulI, fdivI, modI, dcInt, dcMax2, dcMin2, dcAbs, List.getElem?_cons_zero, List.getElem?_cons_succ, List.getElem?_nil, if_true, if_false, Bool.true_and, Bool.and_true, List.set_cons_zero, List.set_cons_succ, List.length_cons, List.length_nil, reduceIte, Nat.reduceAdd, Nat.reduceEqDiff, decide_true, decide_false, Bool.false_eq_true, ix0, xe]
            have b1 : lexB [some (.str (Tx (pre ++ x :: r))), some (.ref c), some (tok "wrong" [] pre.length)] μ = some (.exc ⟨"BadText", ["place"], [.int (pre.length : Nat)]⟩ [some (.str (Tx (pre ++ x :: r))), some (.ref c), some (tok "wrong" [] pre.length)] μ) := by
              unfold lexB
              simp only [lifA_run, runA_ok, runA_exc, seqS_run, seqR_nx, seqR_rt, seqR_ct, seqR_bk, seqR_exc, nxS_run, ctS_run, bkS_run, asgS, parS, retS, expS, ifS, setS, augS, varD, cD, binD, tstD, andB, orB, notB, truB, callB, callN, consL, nilL, meth0, bindR_ok, bindR_none, bindR_exc, bindT, bindTs, int2, cmpI, addD, addI, subI, mulX, mulD, mulI, fdivI, modI, dcInt, dcMax2, dcMin2, dcAbs, List.getElem?_cons_zero, List.getElem?_cons_succ, List.getElem?_nil, if_true, if_false, Bool.true_and, Bool.and_true, List.set_cons_zero, List.set_cons_succ, List.length_cons, List.length_nil, reduceIte, Nat.reduceAdd, Nat.reduceEqDiff, decide_true, decide_false, Bool.false_eq_true, ix0, ix2, xx, raiseS, fldR, List.map_cons, List.map_nil]
              rfl
            rw [c1]
            simp only [ok, b1]
end Kn
end
section
namespace Kn
open PySem PySem.Spec L2 Pd
theorem seqS_exc {f g : DS} {sl sl1 : Sl} {x : Exn} {μ μ1 : Mu} (h : f sl μ = some (.exc x sl1 μ1)) : seqS f g sl μ = some (.exc x sl1 μ1) := by unfold seqS; rw [h]
/-- the lexemes of a text -/
def lexS (l : List Nat) : List D × Option Nat := lexN l.length l 0
def lexR (q : List D × Option Nat) (μ : Mu) : R D := match q.2 with
  | none => ok (.lst q.1) μ
  | some w => some (.exc ⟨"BadText", ["place"], [.int (w : Nat)]⟩ μ)
theorem get_app {μ : Mu} {x : Option Cell} : (μ ++ [x])[μ.length]? = some x := by simp
theorem lexemes_ok {μ : Mu} (l : List Nat) (hz : l.length < sizeLine) : ∃ x, f_lexemes [.str (Tx l)] μ = lexR (lexS l) (μ ++ [x]) := by
  obtain ⟨N, h⟩ := lexemes_loop (c := μ.length) l.length l [] [] (μ ++ [some (.lst [])]) (Nat.le_refl _) (by simpa using Nat.le_of_lt hz) (by simpa using hz) get_app
  have l0 := lex_ok (μ := μ ++ [some (.lst [])]) [] l (by simpa using Nat.le_of_lt hz)
  simp only [List.nil_append, List.length_nil] at h l0
  have l0' : f_lexeme_from [.str (Tx l), .int 0] (μ ++ [some (.lst [])]) = ok (hereOf l 0) (μ ++ [some (.lst [])]) := l0
  have nl : (0 : Nat) ≤ sizeLine := Nat.zero_le _
  have s0 : (parS [1, 2] (consL (boxD (lstD nilL)) (consL (callB (callN 2 f_lexeme_from) (consL (varD 0) (consL (cD (.int 0)) nilL))) nilL))) [some (.str (Tx l)), none, none] μ = some (.nx [some (.str (Tx l)), some (.ref μ.length), some (hereOf l 0)] (μ ++ [some (.lst [])])) := by
    simp only [lifA_run, runA_ok, runA_exc, seqS_run, seqR_nx, seqR_rt, seqR_ct, seqR_bk, seqR_exc, nxS_run, ctS_run, bkS_run, asgS, parS, retS, expS, ifS, setS, augS, varD, cD, binD, tstD, andB, orB, notB, truB, callB, callN, consL, nilL, meth0, bindR_ok, bindR_none, bindR_exc, bindT, bindTs, int2, cmpI, addD, addI, subI, mulX, mulD, mulI, fdivI, modI, dcInt, dcMax2, dcMin2, dcAbs, List.getElem?_cons_zero, List.getElem?_cons_succ, List.getElem?_nil, if_true, if_false, Bool.true_and, Bool.and_true, List.set_cons_zero, List.set_cons_succ, List.length_cons, List.length_nil, reduceIte, Nat.reduceAdd, Nat.reduceEqDiff, decide_true, decide_false, Bool.false_eq_true, boxD, lstD, if_pos nl, l0', List.map_cons, List.map_nil]
  have es : ∀ y, setL (μ ++ [some (.lst [])]) μ.length y = μ ++ [some (.lst y)] := fun y => by unfold setL; simp
  unfold lexEnd at h
  unfold lexR
  rw [show lexS l = lexN l.length l 0 from rfl]
  have run : ∀ o, whF lexC lexB N [some (.str (Tx l)), some (.ref μ.length), some (hereOf l 0)] (μ ++ [some (.lst [])]) = some o → whS lexC lexB [some (.str (Tx l)), some (.ref μ.length), some (hereOf l 0)] (μ ++ [some (.lst [])]) = some o := fun o e => whS_of e
  cases e : (lexN l.length l 0).2 with
  | none =>
    rw [e] at h
    obtain ⟨y, hy⟩ := h
    have w := run _ hy
    refine ⟨none, ?_⟩
    refine bodyR_rt ?_
    show b_lexemes [some (.str (Tx l)), none, none] μ = _
    unfold b_lexemes
    refine (seqS_nx s0).trans ((seqS_nx w).trans ?_)
    rw [es]
    simp only [lifA_run, runA_ok, runA_exc, seqS_run, seqR_nx, seqR_rt, seqR_ct, seqR_bk, seqR_exc, nxS_run, ctS_run, bkS_run, asgS, parS, retS, expS, ifS, setS, augS, varD, cD, binD, tstD, andB, orB, notB, truB, callB, callN, consL, nilL, meth0, bindR_ok, bindR_none, bindR_exc, bindT, bindTs, int2, cmpI, addD, addI, subI, mulX, mulD, mulI, fdivI, modI, dcInt, dcMax2, dcMin2, dcAbs, List.getElem?_cons_zero, List.getElem?_cons_succ, List.getElem?_nil, if_true, if_false, Bool.true_and, Bool.and_true, List.set_cons_zero, List.set_cons_succ, List.length_cons, List.length_nil, reduceIte, Nat.reduceAdd, Nat.reduceEqDiff, decide_true, decide_false, Bool.false_eq_true, frzD, get_app]
    simp [ok]
  | some wr =>
    rw [e] at h
    obtain ⟨y, hy⟩ := h
    have w := run _ hy
    rw [es] at w
    refine ⟨some (.lst (lexN l.length l 0).1), ?_⟩
    show (match b_lexemes [some (.str (Tx l)), none, none] μ with
      | some (.rt d μ') => ok d μ'
      | some (.nx _ μ') => ok .non μ'
      | some (.exc x _ μ') => some (.exc x μ')
      | _ => none) = _
    have q : b_lexemes [some (.str (Tx l)), none, none] μ = some (.exc ⟨"BadText", ["place"], [.int (wr : Nat)]⟩ y (μ ++ [some (.lst (lexN l.length l 0).1)])) := by
      unfold b_lexemes
      refine (seqS_nx s0).trans ?_
      exact seqS_exc w
    rw [q]
end Kn
end
section
namespace Kn
open PySem PySem.Spec L2 Pd
abbrev LT : D := .str "abcdefghijklmnopqrstuvwxyz0123456789"
abbrev SG : D := .str ",:;-"
def inC : Sl → Mu → R Bool := (andB (tstD (binD (cmpI fun i j => decide (i < j)) (varD 4) (callB dcLen (consL (varD 0) nilL)))) (tstD (binD (inD false) (binD ixD (varD 0) (varD 4)) (varD 2))))
def inB : DS := (asgS (binD addD (varD 4) (cD (.int 1))) (.nm 4))
theorem in_lt {μ : Mu} {c : Nat} : inD false (.str (Tx [c])) LT μ = ok (.bl (lt c)) μ := in_tx
theorem in_sg {μ : Mu} {c : Nat} : inD false (.str (Tx [c])) SG μ = ok (.bl (sg c)) μ := in_tx
theorem nin_bl {μ : Mu} {c : Nat} : inD true (.str (Tx [c])) (.str " \n") μ = ok (.bl (!bl c)) μ := nin_tx
theorem in_loop {μ : Mu} {f b : Option D} : ∀ (l pre : List Nat), (pre ++ l).length ≤ sizeLine →
    ∃ n, whF inC inB n [some (.str (Tx (pre ++ l))), some SG, some LT, f, some (.int pre.length), b] μ = some (.nx [some (.str (Tx (pre ++ l))), some SG, some LT, f, some (.int ((pre.length + (l.takeWhile lt).length : Nat) : Int)), b] μ)
  | [], pre, hz => by
    refine ⟨1, ?_⟩
    rw [whF_end (μ1 := μ)]
    · simp
    · unfold inC
      rw [List.append_nil] at *
      simp only [lifA_run, runA_ok, runA_exc, seqS_run, seqR_nx, seqR_rt, seqR_ct, seqR_bk, seqR_exc, nxS_run, ctS_run, bkS_run, asgS, parS, retS, expS, ifS, setS, augS, varD, cD, binD, tstD, andB, orB, notB, truB, callB, callN, consL, nilL, meth0, bindR_ok, bindR_none, bindR_exc, bindT, bindTs, int2, cmpI, addD, addI, subI, mulX, mulD, mulI, fdivI, modI, dcInt, dcMax2, dcMin2, dcAbs, List.getElem?_cons_zero, List.getElem?_cons_succ, List.getElem?_nil, if_true, if_false, Bool.true_and, Bool.and_true, List.set_cons_zero, List.set_cons_succ, List.length_cons, List.length_nil, reduceIte, Nat.reduceAdd, Nat.reduceEqDiff, decide_true, decide_false, Bool.false_eq_true, len_tx hz]
      simp
  | c :: l, pre, hz => by
    have hget : (pre ++ c :: l)[pre.length]? = some c := by simp
    have hlt : decide (((pre.length : Nat) : Int) < (((pre ++ c :: l).length : Nat) : Int)) = true := decide_eq_true (by simp; omega)
    by_cases hc : lt c = true
    · obtain ⟨n, ih⟩ := in_loop l (pre ++ [c]) (by simpa using hz)
      refine ⟨n + 1, ?_⟩
      have e : (pre ++ [c]) ++ l = pre ++ c :: l := by simp
      rw [e] at ih
      have e2 : (((pre ++ [c]).length : Nat) : Int) = (pre.length : Int) + 1 := by simp
      rw [whF_go (μ1 := μ) (sl2 := [some (.str (Tx (pre ++ c :: l))), some SG, some LT, f, some (.int ((pre.length : Int) + 1)), b]) (μ2 := μ), ← e2, ih]
      · have hw : (c :: l).takeWhile lt = c :: l.takeWhile lt := by rw [List.takeWhile_cons, if_pos hc]
        rw [hw]
        have : (pre ++ [c]).length + (l.takeWhile lt).length = pre.length + (c :: l.takeWhile lt).length := by simp; omega
        rw [this]
      · unfold inC
        simp only [lifA_run, runA_ok, runA_exc, seqS_run, seqR_nx, seqR_rt, seqR_ct, seqR_bk, seqR_exc, nxS_run, ctS_run, bkS_run, asgS, parS, retS, expS, ifS, setS, augS, varD, cD, binD, tstD, andB, orB, notB, truB, callB, callN, consL, nilL, meth0, bindR_ok, bindR_none, bindR_exc, bindT, bindTs, int2, cmpI, addD, addI, subI, mulX, mulD, mulI, fdivI, modI, dcInt, dcMax2, dcMin2, dcAbs, List.getElem?_cons_zero, List.getElem?_cons_succ, List.getElem?_nil, if_true, if_false, Bool.true_and, Bool.and_true, List.set_cons_zero, List.set_cons_succ, List.length_cons, List.length_nil, reduceIte, Nat.reduceAdd, Nat.reduceEqDiff, decide_true, decide_false, Bool.false_eq_true, len_tx hz, hlt, ix_tx hget hz, in_lt, hc]
      · refine .inl ?_
        unfold inB
        simp only [lifA_run, runA_ok, runA_exc, seqS_run, seqR_nx, seqR_rt, seqR_ct, seqR_bk, seqR_exc, nxS_run, ctS_run, bkS_run, asgS, parS, retS, expS, ifS, setS, augS, varD, cD, binD, tstD, andB, orB, notB, truB, callB, callN, consL, nilL, meth0, bindR_ok, bindR_none, bindR_exc, bindT, bindTs, int2, cmpI, addD, addI, subI, mulX, mulD, mulI, fdivI, modI, dcInt, dcMax2, dcMin2, dcAbs, List.getElem?_cons_zero, List.getElem?_cons_succ, List.getElem?_nil, if_true, if_false, Bool.true_and, Bool.and_true, List.set_cons_zero, List.set_cons_succ, List.length_cons, List.length_nil, reduceIte, Nat.reduceAdd, Nat.reduceEqDiff, decide_true, decide_false, Bool.false_eq_true]
    · have hc' : lt c = false := by simpa using hc
      refine ⟨1, ?_⟩
      rw [whF_end (μ1 := μ)]
      · rw [List.takeWhile_cons, if_neg hc]
        simp
      · unfold inC
        simp only [lifA_run, runA_ok, runA_exc, seqS_run, seqR_nx, seqR_rt, seqR_ct, seqR_bk, seqR_exc, nxS_run, ctS_run, bkS_run, asgS, parS, retS, expS, ifS, setS, augS, varD, cD, binD, tstD, andB, orB, notB, truB, callB, callN, consL, nilL, meth0, bindR_ok, bindR_none, bindR_exc, bindT, bindTs, int2, cmpI, addD, addI, subI, mulX, mulD, mulI, fdivI, modI, dcInt, dcMax2, dcMin2, dcAbs, List.getElem?_cons_zero, List.getElem?_cons_succ, List.getElem?_nil, if_true, if_false, Bool.true_and, Bool.and_true, List.set_cons_zero, List.set_cons_succ, List.length_cons, List.length_nil, reduceIte, Nat.reduceAdd, Nat.reduceEqDiff, decide_true, decide_false, Bool.false_eq_true, len_tx hz, hlt, ix_tx hget hz, in_lt, hc']
def rdC : Sl → Mu → R Bool := (tstD (binD (cmpI fun i j => decide (i < j)) (varD 4) (callB dcLen (consL (varD 0) nilL))))
noncomputable def rdB : DS := (seqS (asgS (varD 4) (.nm 5))
    (seqS (ifS (tstD (binD (inD false) (binD ixD (varD 0) (varD 4)) (varD 2)))
    (seqS (whS (andB (tstD (binD (cmpI fun i j => decide (i < j)) (varD 4) (callB dcLen (consL (varD 0) nilL)))) (tstD (binD (inD false) (binD ixD (varD 0) (varD 4)) (varD 2))))
    (asgS (binD addD (varD 4) (cD (.int 1))) (.nm 4)))
    (seqS (expS (methB .lst dmAppend (varD 3) (consL (tupD (consL (cD (.str "word")) (consL (sliceD (varD 0) (someO (varD 5)) (someO (varD 4))) (consL (varD 5) nilL)))) nilL)))
    ctS))
    nxS)
    (seqS (ifS (tstD (binD (inD false) (binD ixD (varD 0) (varD 4)) (varD 1)))
    (expS (methB .lst dmAppend (varD 3) (consL (tupD (consL (cD (.str "sign")) (consL (binD ixD (varD 0) (varD 4)) (consL (varD 4) nilL)))) nilL)))
    (ifS (tstD (binD (inD true) (binD ixD (varD 0) (varD 4)) (cD (.str " \n"))))
    (retS (tupD (consL (frzD (varD 3)) (consL (varD 4) nilL))))
    nxS))
    (asgS (binD addD (varD 4) (cD (.int 1))) (.nm 4)))))
def rdEnd (t : D) (c : Nat) (acc : List D) (q : List D × Option Nat) (μ : Mu) (o : Option OutS) : Prop := match q.2 with
  | none => ∃ k y, o = some (.nx [some t, some SG, some LT, some (.ref c), k, y] (setL μ c (acc ++ q.1)))
  | some w => o = some (.rt (.tup [.lst (acc ++ q.1), .int (w : Nat)]) (μ.set c none))
theorem set_none {μ : Mu} {c : Nat} {x : List D} : (setL μ c x).set c none = μ.set c none := by unfold setL; rw [List.set_set]
theorem read_loop {c : Nat} : ∀ (n : Nat) (l pre : List Nat) (acc : List D) (μ : Mu) (y : Option D), l.length ≤ n → (pre ++ l).length ≤ sizeLine → acc.length + l.length < sizeLine → μ[c]? = some (some (.lst acc)) →
    ∃ N, rdEnd (.str (Tx (pre ++ l))) c acc (lexN n l pre.length) μ (whF rdC rdB N [some (.str (Tx (pre ++ l))), some SG, some LT, some (.ref c), some (.int pre.length), y] μ) := by
  have three : (3 : Nat) ≤ sizeLine := by rw [sizeLine_eq]; decide
  have two : (2 : Nat) ≤ sizeLine := by rw [sizeLine_eq]; decide
  have nil_ : ∀ (n : Nat) (pre : List Nat) (acc : List D) (μ : Mu) (y : Option D), (pre ++ []).length ≤ sizeLine → μ[c]? = some (some (.lst acc)) →
      ∃ N, rdEnd (.str (Tx (pre ++ []))) c acc (lexN n [] pre.length) μ (whF rdC rdB N [some (.str (Tx (pre ++ []))), some SG, some LT, some (.ref c), some (.int pre.length), y] μ) := by
    intro n pre acc μ y hz hm
    have e : lexN n [] pre.length = ([], none) := by cases n <;> rfl
    rw [e]
    refine ⟨1, some (.int pre.length), y, ?_⟩
    have hlt : decide (((pre.length : Nat) : Int) < (((pre ++ ([] : List Nat)).length : Nat) : Int)) = false := decide_eq_false (by simp)
    rw [whF_end (μ1 := μ)]
    · simp only [List.append_nil, setL_self hm]
    · unfold rdC
      simp only [lifA_run, runA_ok, runA_exc, seqS_run, seqR_nx, seqR_rt, seqR_ct, seqR_bk, seqR_exc, nxS_run, ctS_run, bkS_run, asgS, parS, retS, expS, ifS, setS, augS, varD, cD, binD, tstD, andB, orB, notB, truB, callB, callN, consL, nilL, meth0, bindR_ok, bindR_none, bindR_exc, bindT, bindTs, int2, cmpI, addD, addI, subI, mulX, mulD, mulI, fdivI, modI, dcInt, dcMax2, dcMin2, dcAbs, List.getElem?_cons_zero, List.getElem?_cons_succ, List.getElem?_nil, if_true, if_false, Bool.true_and, Bool.and_true, List.set_cons_zero, List.set_cons_succ, List.length_cons, List.length_nil, reduceIte, Nat.reduceAdd, Nat.reduceEqDiff, decide_true, decide_false, Bool.false_eq_true, len_tx hz, hlt]
  intro n
  induction n with
  | zero =>
    intro l pre acc μ y hn hz ha hm
    have : l = [] := List.length_eq_zero_iff.mp (Nat.le_zero.mp hn)
    subst this
    exact nil_ 0 pre acc μ y hz hm
  | succ n ih =>
    intro l pre acc μ y hn hz ha hm
    cases l with
    | nil => exact nil_ (n + 1) pre acc μ y hz hm
    | cons x r =>
      have hn' : r.length ≤ n := by simpa using hn
      have ha' : acc.length < sizeLine := by simp only [List.length_cons] at ha; omega
      have hget : (pre ++ x :: r)[pre.length]? = some x := by simp
      have hlt : decide (((pre.length : Nat) : Int) < (((pre ++ x :: r).length : Nat) : Int)) = true := decide_eq_true (by simp; omega)
      have c1 : ∀ y, rdC [some (.str (Tx (pre ++ x :: r))), some SG, some LT, some (.ref c), some (.int pre.length), y] μ = ok true μ := fun y => by unfold rdC; simp only [lifA_run, runA_ok, runA_exc, seqS_run, seqR_nx, seqR_rt, seqR_ct, seqR_bk, seqR_exc, nxS_run, ctS_run, bkS_run, asgS, parS, retS, expS, ifS, setS, augS, varD, cD, binD, tstD, andB, orB, notB, truB, callB, callN, consL, nilL, meth0, bindR_ok, bindR_none, bindR_exc, bindT, bindTs, int2, cmpI, addD, addI, subI, mulX, mulD, mulI, fdivI, modI, dcInt, dcMax2, dcMin2, dcAbs, List.getElem?_cons_zero, List.getElem?_cons_succ, List.getElem?_nil, if_true, if_false, Bool.true_and, Bool.and_true, List.set_cons_zero, List.set_cons_succ, List.length_cons, List.length_nil, reduceIte, Nat.reduceAdd, Nat.reduceEqDiff, decide_true, decide_false, Bool.false_eq_true, len_tx hz, hlt]
      have hset : ∀ y, (setL μ c y)[c]? = some (some (.lst y)) := fun y => by
        unfold setL
        exact List.getElem?_set_self (List.getElem?_eq_some_iff.mp hm).1
      have ty : tyD .lst μ (.ref c) = true := by simp [tyD, lstOf, hm]
      have ap : ∀ d, dmAppend (.ref c) [d] μ = ok .non (setL μ c (acc ++ [d])) := fun d => by simp only [dmAppend, rawL, hm, if_pos ha']
      have e1 : (pre ++ [x]) ++ r = pre ++ x :: r := by simp
      have e2 : (pre ++ [x]).length = pre.length + 1 := by simp
      have e3 : ((pre.length : Nat) : Int) + 1 = ((pre.length + 1 : Nat) : Int) := by omega
      obtain ⟨p1, p2⟩ := parted x
      by_cases hb : bl x = true
      · obtain ⟨hs, hl⟩ := p1 hb
        obtain ⟨N, h⟩ := ih r (pre ++ [x]) acc μ (some (.int pre.length)) hn' (by rw [e1]; exact hz) (by simp only [List.length_cons] at ha; omega) hm
        rw [e1, e2] at h
        refine ⟨N + 1, ?_⟩
        rw [lexN, if_pos hb]
        have bs : rdB [some (.str (Tx (pre ++ x :: r))), some SG, some LT, some (.ref c), some (.int pre.length), y] μ = some (.nx [some (.str (Tx (pre ++ x :: r))), some SG, some LT, some (.ref c), some (.int ((pre.length + 1 : Nat) : Int)), some (.int pre.length)] μ) := by
          unfold rdB
          simp only [lifA_run, runA_ok, runA_exc, seqS_run, seqR_nx, seqR_rt, seqR_ct, seqR_bk, seqR_exc, nxS_run, ctS_run, bkS_run, asgS, parS, retS, expS, ifS, setS, augS, varD, cD, binD, tstD, andB, orB, notB, truB, callB, callN, consL, nilL, meth0, bindR_ok, bindR_none, bindR_exc, bindT, bindTs, int2, cmpI, addD, addI, subI, mulX, mulD, mulI, fdivI, modI, dcInt, dcMax2, dcMin2, dcAbs, List.getElem?_cons_zero, List.getElem?_cons_succ, List.getElem?_nil, if_true, if_false, Bool.true_and, Bool.and_true, List.set_cons_zero, List.set_cons_succ, List.length_cons, List.length_nil, reduceIte, Nat.reduceAdd, Nat.reduceEqDiff, decide_true, decide_false, Bool.false_eq_true, ix_tx hget hz, in_lt, hl, in_sg, hs, nin_bl, hb, Bool.not_true, e3]
        rw [whF_go (c1 y) (.inl bs)]
        exact h
      · have hb' : bl x = false := by simpa using hb
        rw [lexN, if_neg hb]
        by_cases hs : sg x = true
        · rw [if_pos hs]
          have hl := p2 hs
          obtain ⟨N, h⟩ := ih r (pre ++ [x]) (acc ++ [tok "sign" [x] pre.length]) (setL μ c (acc ++ [tok "sign" [x] pre.length])) (some (.int pre.length)) hn' (by rw [e1]; exact hz) (by simp only [List.length_cons, List.length_append, List.length_nil] at ha ⊢; omega) (hset _)
          rw [e1, e2] at h
          refine ⟨N + 1, ?_⟩
          have bs : rdB [some (.str (Tx (pre ++ x :: r))), some SG, some LT, some (.ref c), some (.int pre.length), y] μ = some (.nx [some (.str (Tx (pre ++ x :: r))), some SG, some LT, some (.ref c), some (.int ((pre.length + 1 : Nat) : Int)), some (.int pre.length)] (setL μ c (acc ++ [tok "sign" [x] pre.length]))) := by
            unfold rdB
            simp only [lifA_run, runA_ok, runA_exc, seqS_run, seqR_nx, seqR_rt, seqR_ct, seqR_bk, seqR_exc, nxS_run, ctS_run, bkS_run, asgS, parS, retS, expS, ifS, setS, augS, varD, cD, binD, tstD, andB, orB, notB, truB, callB, callN, consL, nilL, meth0, bindR_ok, bindR_none, bindR_exc, bindT, bindTs, int2, cmpI, addD, addI, subI, mulX, mulD, mulI, fdivI, modI, dcInt, dcMax2, dcMin2, dcAbs, List.getElem?_cons_zero, List.getElem?_cons_succ, List.getElem?_nil, if_true, if_false, Bool.true_and, Bool.and_true, List.set_cons_zero, List.set_cons_succ, List.length_cons, List.length_nil, reduceIte, Nat.reduceAdd, Nat.reduceEqDiff, decide_true, decide_false, Bool.false_eq_true, ix_tx hget hz, in_lt, hl, in_sg, hs, methB, ty, tupD, if_pos three, ap, e3]
          rw [whF_go (c1 y) (.inl bs)]
          unfold rdEnd at h ⊢
          revert h
          cases (lexN n r (pre.length + 1)).2 with
          | none => rintro ⟨k, y, h⟩; exact ⟨k, y, by rw [h, setL_setL, List.append_assoc]; rfl⟩
          | some w => intro h; rw [h, set_none, List.append_assoc]; rfl
        · rw [if_neg hs]
          have hs' : sg x = false := by simpa using hs
          by_cases hl : lt x = true
          · rw [if_pos hl]
            obtain ⟨w, hw⟩ : ∃ w, w = (x :: r).takeWhile lt := ⟨_, rfl⟩
            obtain ⟨v, hv⟩ : ∃ v, v = (x :: r).dropWhile lt := ⟨_, rfl⟩
            have ewv : w ++ v = x :: r := by rw [hw, hv, List.takeWhile_append_dropWhile]
            have hw0 : 0 < w.length := by rw [hw, List.takeWhile_cons, if_pos hl]; simp
            have hlen : w.length + v.length = r.length + 1 := by rw [← List.length_append, ewv]; rfl
            obtain ⟨M, hin⟩ := in_loop (μ := μ) (f := some (.ref c)) (b := some (.int pre.length)) (x :: r) pre hz
            have win := whS_of hin
            rw [← hw] at win
            rw [← hw, ← hv]
            have e : (pre ++ w) ++ v = pre ++ x :: r := by rw [List.append_assoc, ewv]
            have e4 : (pre ++ w).length = pre.length + w.length := List.length_append
            have hz' : pre.length + (r.length + 1) ≤ sizeLine := by simpa using hz
            have hcut : cutS (Tx (pre ++ x :: r)) (some ((pre.length : Nat) : Int)) (some ((pre.length + w.length : Nat) : Int)) = Tx w := by
              rw [cut_tx (by omega) (by rw [List.length_append]; simp; omega)]
              congr 1
              rw [List.drop_left, Nat.add_sub_cancel_left, ← ewv, List.take_left]
            obtain ⟨N, h⟩ := ih v (pre ++ w) (acc ++ [tok "word" w pre.length]) (setL μ c (acc ++ [tok "word" w pre.length])) (some (.int pre.length)) (by omega) (by rw [e]; exact hz) (by simp only [List.length_cons, List.length_append, List.length_nil] at ha ⊢; omega) (hset _)
            rw [e, e4] at h
            refine ⟨N + 1, ?_⟩
            have bs : rdB [some (.str (Tx (pre ++ x :: r))), some SG, some LT, some (.ref c), some (.int pre.length), y] μ = some (.ct [some (.str (Tx (pre ++ x :: r))), some SG, some LT, some (.ref c), some (.int ((pre.length + w.length : Nat) : Int)), some (.int pre.length)] (setL μ c (acc ++ [tok "word" w pre.length]))) := by
              unfold rdB
              rw [seqS_nx (sl1 := [some (.str (Tx (pre ++ x :: r))), some SG, some LT, some (.ref c), some (.int pre.length), some (.int pre.length)]) (μ1 := μ) rfl]
              refine seqS_ct ?_
              rw [ifS, lifA_ok (a := true) (μ1 := μ) (by simp only [lifA_run, runA_ok, runA_exc, seqS_run, seqR_nx, seqR_rt, seqR_ct, seqR_bk, seqR_exc, nxS_run, ctS_run, bkS_run, asgS, parS, retS, expS, ifS, setS, augS, varD, cD, binD, tstD, andB, orB, notB, truB, callB, callN, consL, nilL, meth0, bindR_ok, bindR_none, bindR_exc, bindT, bindTs, int2, cmpI, addD, addI, subI, mulX, mulD, mulI, fdivI, modI, dcInt, dcMax2, dcMin2, dcAbs, List.getElem?_cons_zero, List.getElem?_cons_succ, List.getElem?_nil, if_true, if_false, Bool.true_and, Bool.and_true, List.set_cons_zero, List.set_cons_succ, List.length_cons, List.length_nil, reduceIte, Nat.reduceAdd, Nat.reduceEqDiff, decide_true, decide_false, Bool.false_eq_true, ix_tx hget hz, in_lt, hl])]
              simp only [if_true]
              refine (seqS_nx win).trans ?_
              simp only [lifA_run, runA_ok, runA_exc, seqS_run, seqR_nx, seqR_rt, seqR_ct, seqR_bk, seqR_exc, nxS_run, ctS_run, bkS_run, asgS, parS, retS, expS, ifS, setS, augS, varD, cD, binD, tstD, andB, orB, notB, truB, callB, callN, consL, nilL, meth0, bindR_ok, bindR_none, bindR_exc, bindT, bindTs, int2, cmpI, addD, addI, subI, mulX, mulD, mulI, fdivI, modI, dcInt, dcMax2, dcMin2, dcAbs, List.getElem?_cons_zero, List.getElem?_cons_succ, List.getElem?_nil, if_true, if_false, Bool.true_and, Bool.and_true, List.set_cons_zero, List.set_cons_succ, List.length_cons, List.length_nil, reduceIte, Nat.reduceAdd, Nat.reduceEqDiff, decide_true, decide_false, Bool.false_eq_true, methB, ty, sliceD, someO, sl_tx hz, hcut, tupD, if_pos three, ap]
            rw [whF_go (c1 y) (.inr bs)]
            unfold rdEnd at h ⊢
            revert h
            cases (lexN n v (pre.length + w.length)).2 with
            | none => rintro ⟨k, y, h⟩; exact ⟨k, y, by rw [h, setL_setL, List.append_assoc]; rfl⟩
            | some w => intro h; rw [h, set_none, List.append_assoc]; rfl
          · rw [if_neg hl]
            have hl' : lt x = false := by simpa using hl
            refine ⟨1, ?_⟩
            have b1 : rdB [some (.str (Tx (pre ++ x :: r))), some SG, some LT, some (.ref c), some (.int pre.length), y] μ = some (.rt (.tup [.lst acc, .int (pre.length : Nat)]) (μ.set c none)) := by
              unfold rdB
              simp only [lifA_run, runA_ok, runA_exc, seqS_run, seqR_nx, seqR_rt, seqR_ct, seqR_bk, seqR_exc, nxS_run, ctS_run, bkS_run, asgS, parS, retS, expS, ifS, setS, augS, varD, cD, binD, tstD, andB, orB, notB, truB, callB, callN, consL, nilL, meth0, bindR_ok, bindR_none, bindR_exc, bindT, bindTs, int2, cmpI, addD, addI, subI, mulX, mulD, mulI, fdivI, modI, dcInt, dcMax2, dcMin2, dcAbs, List.getElem?_cons_zero, List.getElem?_cons_succ, List.getElem?_nil, if_true, if_false, Bool.true_and, Bool.and_true, List.set_cons_zero, List.set_cons_succ, List.length_cons, List.length_nil, reduceIte, Nat.reduceAdd, Nat.reduceEqDiff, decide_true, decide_false, Bool.false_eq_true, ix_tx hget hz, in_lt, hl', in_sg, hs', nin_bl, hb', Bool.not_false, frzD, hm, tupD, if_pos two]
            show _ = some (OutS.rt (D.tup [.lst (acc ++ []), .int (pre.length : Nat)]) _)
            rw [List.append_nil, whF, c1 y]
            simp only [ok, b1]
end Kn
end
section
namespace Kn
open PySem PySem.Spec L2 Pd
def rdD (q : List D × Option Nat) : D := .tup [.lst q.1, match q.2 with
  | none => .non
  | some w => .int (w : Nat)]
theorem two_le : (2 : Nat) ≤ sizeLine := by rw [sizeLine_eq]; decide
theorem signs_ok {μ : Mu} : f__law_signs [] μ = ok (.tup [SG, LT]) μ := by
  refine bodyR_rt ?_
  show b__law_signs [] μ = _
  unfold b__law_signs
  simp only [lifA_run, runA_ok, runA_exc, seqS_run, seqR_nx, seqR_rt, seqR_ct, seqR_bk, seqR_exc, nxS_run, ctS_run, bkS_run, asgS, parS, retS, expS, ifS, setS, augS, varD, cD, binD, tstD, andB, orB, notB, truB, callB, callN, consL, nilL, meth0, bindR_ok, bindR_none, bindR_exc, bindT, bindTs, int2, cmpI, addD, addI, subI, mulX, mulD, mulI, fdivI, modI, dcInt, dcMax2, dcMin2, dcAbs, List.getElem?_cons_zero, List.getElem?_cons_succ, List.getElem?_nil, if_true, if_false, Bool.true_and, Bool.and_true, List.set_cons_zero, List.set_cons_succ, List.length_cons, List.length_nil, reduceIte, Nat.reduceAdd, Nat.reduceEqDiff, decide_true, decide_false, Bool.false_eq_true, tupD, if_pos two_le]
theorem read_ok {μ : Mu} (l : List Nat) (hz : l.length < sizeLine) : f__law_read [.str (Tx l)] μ = ok (rdD (lexS l)) (μ ++ [none]) := by
  obtain ⟨N, h⟩ := read_loop (c := μ.length) l.length l [] [] (μ ++ [some (.lst [])]) none (Nat.le_refl _) (by simpa using Nat.le_of_lt hz) (by simpa using hz) get_app
  simp only [List.nil_append, List.length_nil] at h
  have nl : (0 : Nat) ≤ sizeLine := Nat.zero_le _
  have es : ∀ y, setL (μ ++ [some (.lst [])]) μ.length y = μ ++ [some (.lst y)] := fun y => by unfold setL; simp
  have s0 : (asgS (fun _ μ => f__law_signs [] μ) (.tp [(.nm 1), (.nm 2)])) [some (.str (Tx l)), none, none, none, none, none] μ = some (.nx [some (.str (Tx l)), some SG, some LT, none, none, none] μ) := by
    simp only [lifA_run, runA_ok, runA_exc, seqS_run, seqR_nx, seqR_rt, seqR_ct, seqR_bk, seqR_exc, nxS_run, ctS_run, bkS_run, asgS, parS, retS, expS, ifS, setS, augS, varD, cD, binD, tstD, andB, orB, notB, truB, callB, callN, consL, nilL, meth0, bindR_ok, bindR_none, bindR_exc, bindT, bindTs, int2, cmpI, addD, addI, subI, mulX, mulD, mulI, fdivI, modI, dcInt, dcMax2, dcMin2, dcAbs, List.getElem?_cons_zero, List.getElem?_cons_succ, List.getElem?_nil, if_true, if_false, Bool.true_and, Bool.and_true, List.set_cons_zero, List.set_cons_succ, List.length_cons, List.length_nil, reduceIte, Nat.reduceAdd, Nat.reduceEqDiff, decide_true, decide_false, Bool.false_eq_true, signs_ok, seqOf]
  have s1 : (parS [3, 4] (consL (boxD (lstD nilL)) (consL (cD (.int 0)) nilL))) [some (.str (Tx l)), some SG, some LT, none, none, none] μ = some (.nx [some (.str (Tx l)), some SG, some LT, some (.ref μ.length), some (.int 0), none] (μ ++ [some (.lst [])])) := by
    simp only [lifA_run, runA_ok, runA_exc, seqS_run, seqR_nx, seqR_rt, seqR_ct, seqR_bk, seqR_exc, nxS_run, ctS_run, bkS_run, asgS, parS, retS, expS, ifS, setS, augS, varD, cD, binD, tstD, andB, orB, notB, truB, callB, callN, consL, nilL, meth0, bindR_ok, bindR_none, bindR_exc, bindT, bindTs, int2, cmpI, addD, addI, subI, mulX, mulD, mulI, fdivI, modI, dcInt, dcMax2, dcMin2, dcAbs, List.getElem?_cons_zero, List.getElem?_cons_succ, List.getElem?_nil, if_true, if_false, Bool.true_and, Bool.and_true, List.set_cons_zero, List.set_cons_succ, List.length_cons, List.length_nil, reduceIte, Nat.reduceAdd, Nat.reduceEqDiff, decide_true, decide_false, Bool.false_eq_true, boxD, lstD, if_pos nl, List.map_cons, List.map_nil]
  unfold rdEnd at h
  refine bodyR_rt ?_
  show b__law_read [some (.str (Tx l)), none, none, none, none, none] μ = _
  unfold b__law_read
  refine (seqS_nx s0).trans ((seqS_nx s1).trans ?_)
  unfold rdD
  rw [show lexS l = lexN l.length l 0 from rfl]
  cases e : (lexN l.length l 0).2 with
  | none =>
    rw [e] at h
    obtain ⟨k, y, hy⟩ := h
    have w := whS_of hy
    rw [es] at w
    refine (seqS_nx w).trans ?_
    simp only [lifA_run, runA_ok, runA_exc, seqS_run, seqR_nx, seqR_rt, seqR_ct, seqR_bk, seqR_exc, nxS_run, ctS_run, bkS_run, asgS, parS, retS, expS, ifS, setS, augS, varD, cD, binD, tstD, andB, orB, notB, truB, callB, callN, consL, nilL, meth0, bindR_ok, bindR_none, bindR_exc, bindT, bindTs, int2, cmpI, addD, addI, subI, mulX, mulD, mulI, fdivI, modI, dcInt, dcMax2, dcMin2, dcAbs, List.getElem?_cons_zero, List.getElem?_cons_succ, List.getElem?_nil, if_true, if_false, Bool.true_and, Bool.and_true, List.set_cons_zero, List.set_cons_succ, List.length_cons, List.length_nil, reduceIte, Nat.reduceAdd, Nat.reduceEqDiff, decide_true, decide_false, Bool.false_eq_true, frzD, get_app, tupD, if_pos two_le]
    simp
  | some wr =>
    rw [e] at h
    have w := whS_of h
    refine (seqS_rt w).trans ?_
    simp
def toldD (q : List D × Option Nat) : D := match q.2 with
  | none => .tup [.str "told", .lst q.1]
  | some w => .tup [.str "wrong", .int (w : Nat)]
theorem told_ok {μ : Mu} (l : List Nat) (hz : l.length < sizeLine) : ∃ x, f__law_told [.str (Tx l)] μ = ok (toldD (lexS l)) (μ ++ [x]) := by
  obtain ⟨x, h⟩ := lexemes_ok (μ := μ) l hz
  refine ⟨x, ?_⟩
  refine bodyR_rt ?_
  show b__law_told [some (.str (Tx l)), none, none] μ = _
  unfold b__law_told toldD
  unfold lexR at h
  cases e : (lexS l).2 with
  | none =>
    rw [e] at h
    have t : tryS "BadText" [] 2 (asgS (callB (callN 1 f_lexemes) (consL (varD 0) nilL)) (.nm 1)) (fun a d => (retS (tupD (consL (cD (.str "wrong")) (consL (fldD a d "place" (varD 2)) nilL))))) [some (.str (Tx l)), none, none] μ = some (.nx [some (.str (Tx l)), some (.lst (lexS l).1), none] (μ ++ [x])) := by
      unfold tryS
      simp only [lifA_run, runA_ok, runA_exc, seqS_run, seqR_nx, seqR_rt, seqR_ct, seqR_bk, seqR_exc, nxS_run, ctS_run, bkS_run, asgS, parS, retS, expS, ifS, setS, augS, varD, cD, binD, tstD, andB, orB, notB, truB, callB, callN, consL, nilL, meth0, bindR_ok, bindR_none, bindR_exc, bindT, bindTs, int2, cmpI, addD, addI, subI, mulX, mulD, mulI, fdivI, modI, dcInt, dcMax2, dcMin2, dcAbs, List.getElem?_cons_zero, List.getElem?_cons_succ, List.getElem?_nil, if_true, if_false, Bool.true_and, Bool.and_true, List.set_cons_zero, List.set_cons_succ, List.length_cons, List.length_nil, reduceIte, Nat.reduceAdd, Nat.reduceEqDiff, decide_true, decide_false, Bool.false_eq_true, h]
    refine (seqS_nx t).trans ?_
    simp only [lifA_run, runA_ok, runA_exc, seqS_run, seqR_nx, seqR_rt, seqR_ct, seqR_bk, seqR_exc, nxS_run, ctS_run, bkS_run, asgS, parS, retS, expS, ifS, setS, augS, varD, cD, binD, tstD, andB, orB, notB, truB, callB, callN, consL, nilL, meth0, bindR_ok, bindR_none, bindR_exc, bindT, bindTs, int2, cmpI, addD, addI, subI, mulX, mulD, mulI, fdivI, modI, dcInt, dcMax2, dcMin2, dcAbs, List.getElem?_cons_zero, List.getElem?_cons_succ, List.getElem?_nil, if_true, if_false, Bool.true_and, Bool.and_true, List.set_cons_zero, List.set_cons_succ, List.length_cons, List.length_nil, reduceIte, Nat.reduceAdd, Nat.reduceEqDiff, decide_true, decide_false, Bool.false_eq_true, tupD, if_pos two_le]
  | some w =>
    rw [e] at h
    have t : tryS "BadText" [] 2 (asgS (callB (callN 1 f_lexemes) (consL (varD 0) nilL)) (.nm 1)) (fun a d => (retS (tupD (consL (cD (.str "wrong")) (consL (fldD a d "place" (varD 2)) nilL))))) [some (.str (Tx l)), none, none] μ = some (.rt (.tup [.str "wrong", .int (w : Nat)]) (μ ++ [x])) := by
      unfold tryS
      simp only [lifA_run, runA_ok, runA_exc, seqS_run, seqR_nx, seqR_rt, seqR_ct, seqR_bk, seqR_exc, nxS_run, ctS_run, bkS_run, asgS, parS, retS, expS, ifS, setS, augS, varD, cD, binD, tstD, andB, orB, notB, truB, callB, callN, consL, nilL, meth0, bindR_ok, bindR_none, bindR_exc, bindT, bindTs, int2, cmpI, addD, addI, subI, mulX, mulD, mulI, fdivI, modI, dcInt, dcMax2, dcMin2, dcAbs, List.getElem?_cons_zero, List.getElem?_cons_succ, List.getElem?_nil, if_true, if_false, Bool.true_and, Bool.and_true, List.set_cons_zero, List.set_cons_succ, List.length_cons, List.length_nil, reduceIte, Nat.reduceAdd, Nat.reduceEqDiff, decide_true, decide_false, Bool.false_eq_true, h, fldD, lookF, tupD, if_pos two_le, endS, and_self]
      rfl
    exact seqS_rt t
/-! ### they can be shown -/
theorem lt_ok {c : Nat} (h : lt c = true) : c < 128 := by
  have h3 : (Str.ofString "abcdefghijklmnopqrstuvwxyz0123456789").cps.toList = [97, 98, 99, 100, 101, 102, 103, 104, 105, 106, 107, 108, 109, 110, 111, 112, 113, 114, 115, 116, 117, 118, 119, 120, 121, 122, 48, 49, 50, 51, 52, 53, 54, 55, 56, 57] := by kernel_rfl
  unfold lt at h
  rw [h3] at h
  have h : c ∈ _ := of_decide_eq_true h
  revert h
  have : ∀ c ∈ ([97, 98, 99, 100, 101, 102, 103, 104, 105, 106, 107, 108, 109, 110, 111, 112, 113, 114, 115, 116, 117, 118, 119, 120, 121, 122, 48, 49, 50, 51, 52, 53, 54, 55, 56, 57] : List Nat), c < 128 := by decide
  exact this c
theorem sg_ok {c : Nat} (h : sg c = true) : c < 128 := by
  have h2 : (Str.ofString ",:;-").cps.toList = [44, 58, 59, 45] := by kernel_rfl
  unfold sg at h
  rw [h2] at h
  have h : c ∈ _ := of_decide_eq_true h
  have : ∀ c ∈ ([44, 58, 59, 45] : List Nat), c < 128 := by decide
  exact this c h
theorem strOk_of {l : List Nat} (h : ∀ c ∈ l, c < 128) : PyData.strOk (Tx l) = true := by
  unfold PyData.strOk
  rw [List.all_toArray]
  exact List.all_eq_true.mpr fun c hc => decide_eq_true (by have := h c hc; omega)
theorem of_takeWhile {p : Nat → Bool} {c : Nat} : ∀ {l : List Nat}, c ∈ l.takeWhile p → p c = true
  | [], h => by simp at h
  | x :: l, h => by
    rw [List.takeWhile_cons] at h
    split at h
    · rename_i hx
      rcases List.mem_cons.mp h with rfl | h
      · exact hx
      · exact of_takeWhile h
    · simp at h
/-- what a list of lexemes is shown as fits -/
structure Sh (ds : List D) (ps : List PyData) (b : Nat) : Prop where
  py : pyL ds = some ps
  lay : PyData.canLayAll0 ps = true
  dep : PyData.depthAll ps ≤ 1
  sh : PyData.showableAll ps = true
  sz : shSzL ps ≤ b
theorem sh_cons {kind : Str} {t : List Nat} {k : Nat} {ds : List D} {ps : List PyData} {b : Nat} (hk : PyData.strOk kind = true) (hkl : kind.length ≤ 5) (ht : ∀ c ∈ t, c < 128) (hkk : k < 2 ^ 14) (h : Sh ds ps b) : Sh (tok kind t k :: ds) (.tuple [.str kind, .str (Tx t), .int (k : Nat)] :: ps) (b + 90 + 10 * t.length) := by
  have hlog : ((k : Nat) : Int).natAbs.log2 ≤ 13 := by
    by_cases h0 : k = 0
    · subst h0; decide
    · have := (Nat.log2_lt h0).mpr hkk
      have e : ((k : Nat) : Int).natAbs = k := Int.natAbs_natCast k
      rw [e]; omega
  refine ⟨by simp only [pyL, pyD, h.py], ?_, ?_, ?_, ?_⟩
  · simp only [PyData.canLayAll0, PyData.canLay0, hk, strOk_of ht, h.lay, Bool.and_self]
  · have := h.dep
    simp only [PyData.depthAll, PyData.depth]
    omega
  · have : ((k : Nat) : Int).natAbs.log2 < 1920 := by omega
    simp only [PyData.showableAll, PyData.showable, decide_eq_true this, h.sh, Bool.and_self]
  · have := h.sz
    have e : (Tx t).length = t.length := tx_len t
    simp only [shSzL, shSz, e]
    omega
theorem lexN_sh : ∀ (n : Nat) (l : List Nat) (k : Nat), k + l.length < 2 ^ 14 → ∃ ps, Sh (lexN n l k).1 ps (100 * l.length)
  | 0, l, k, _ => ⟨[], rfl, rfl, by decide, rfl, Nat.zero_le _⟩
  | n + 1, [], k, _ => ⟨[], rfl, rfl, by decide, rfl, Nat.zero_le _⟩
  | n + 1, x :: r, k, hz => by
    have hz' : k + 1 + r.length < 2 ^ 14 := by simp only [List.length_cons] at hz; omega
    rw [lexN]
    by_cases hb : bl x = true
    · rw [if_pos hb]
      obtain ⟨ps, h⟩ := lexN_sh n r (k + 1) hz'
      exact ⟨ps, h.py, h.lay, h.dep, h.sh, Nat.le_trans h.sz (by simp only [List.length_cons]; omega)⟩
    · rw [if_neg hb]
      by_cases hs : sg x = true
      · rw [if_pos hs]
        obtain ⟨ps, h⟩ := lexN_sh n r (k + 1) hz'
        have q := sh_cons (kind := "sign") (t := [x]) (k := k) (by kernel_rfl) (by decide +kernel) (fun c hc => by rw [List.mem_singleton.mp hc]; exact sg_ok hs) (by omega) h
        exact ⟨_, q.py, q.lay, q.dep, q.sh, Nat.le_trans q.sz (by simp only [List.length_cons, List.length_nil]; omega)⟩
      · rw [if_neg hs]
        by_cases hl : lt x = true
        · rw [if_pos hl]
          obtain ⟨w, hw⟩ : ∃ w, w = (x :: r).takeWhile lt := ⟨_, rfl⟩
          obtain ⟨v, hv⟩ : ∃ v, v = (x :: r).dropWhile lt := ⟨_, rfl⟩
          have ewv : w ++ v = x :: r := by rw [hw, hv, List.takeWhile_append_dropWhile]
          have hw0 : 0 < w.length := by rw [hw, List.takeWhile_cons, if_pos hl]; simp
          have hlen : w.length + v.length = r.length + 1 := by rw [← List.length_append, ewv]; rfl
          rw [← hw, ← hv]
          obtain ⟨ps, h⟩ := lexN_sh n v (k + w.length) (by omega)
          have q := sh_cons (kind := "word") (t := w) (k := k) (by kernel_rfl) (by decide +kernel) (fun c hc => lt_ok (by rw [hw] at hc; exact of_takeWhile hc)) (by omega) h
          exact ⟨_, q.py, q.lay, q.dep, q.sh, Nat.le_trans q.sz (by simp only [List.length_cons]; omega)⟩
        · rw [if_neg hl]
          exact ⟨[], rfl, rfl, by decide, rfl, Nat.zero_le _⟩
end Kn
end
section
namespace Pd
open PySem PySem.Spec L2
/-! ### the drawing, by what a law needs of it -/
/-- the source stands; it has been asked at most B times -/
def Sr (B : Nat) (l c : Nat) (μ : Mu) : Prop := ∃ cs a m t, SrcOk' μ l c cs a m t ∧ t ≤ (B : Int)
theorem Sr.mono {B B' l c : Nat} {μ : Mu} (h : Sr B l c μ) (hb : B ≤ B') : Sr B' l c μ := by
  obtain ⟨cs, a, m, t, h1, h2⟩ := h
  exact ⟨cs, a, m, t, h1, by omega⟩
/-- other things may come to the store -/
theorem Sr.app {B l c : Nat} {μ : Mu} (h : Sr B l c μ) (x : Mu) : Sr B l c (μ ++ x) := by
  obtain ⟨cs, a, m, t, h1, h2⟩ := h
  exact ⟨cs, a, m, t, ⟨⟨getE_app h1.hl, getE_app h1.hc⟩, h1.hcs, h1.ha, h1.hm, h1.ht⟩, h2⟩
theorem Sr.start (ns : List Int) (hn : ns.length ≤ 1000) (hz : ∀ z ∈ ns, Builtin.Int.intBits z ≤ 1048576) : ∃ μ, f__law_source [.lst (ns.map D.int)] [] = ok (.ref 1) μ ∧ Sr 0 1 0 μ := by
  obtain ⟨cs, m, e, h1, h2, h3⟩ := source_ok ns [] hn hz
  exact ⟨_, e, cs, 1, m, 0, ⟨⟨rfl, rfl⟩, h1, by omega, ⟨h2, h3⟩, by omega⟩, by omega⟩
theorem pickS {B l c : Nat} {μ : Mu} {many : Int} (h : Sr B l c μ) (hB : B < 2 ^ 39) (hm : many.natAbs.log2 < 9000) :
    ∃ (r : Nat) (μ' : Mu), f__law_pick [.ref l, .int many] μ = ok (.int (r : Nat)) μ' ∧ Sr (B + 1) l c μ' ∧ ((r : Int) < many ∨ r = 0) ∧ Frm μ μ' l c := by
  obtain ⟨cs, a, m, t, h1, h2⟩ := h
  obtain ⟨r, cs', a', m', t', μ', e, q1, q2, q3, q4, q5⟩ := pick_ok (many := many) h1 (by omega) hm
  refine ⟨r.toNat, μ', ?_, ⟨cs', a', m', t', q1, by omega⟩, ?_, q5⟩
  · rw [e, Int.toNat_of_nonneg q3]
  · rcases q4 with q4 | q4
    · left; omega
    · right; omega
theorem ofS {B l c : Nat} {μ : Mu} {ds : List D} (h : Sr B l c μ) (hB : B < 2 ^ 39) (hd : ds ≠ []) (hz : ds.length ≤ 100000) :
    ∃ x μ', f__law_of [.ref l, .lst ds] μ = ok x μ' ∧ x ∈ ds ∧ Sr (B + 1) l c μ' ∧ Frm μ μ' l c := by
  have hpos : 0 < ds.length := List.length_pos_iff.mpr hd
  have hlog : ((ds.length : Nat) : Int).natAbs.log2 < 9000 := by
    rw [Int.natAbs_natCast]
    have := (Nat.log2_lt (by omega : ds.length ≠ 0)).mpr (show ds.length < 2 ^ 17 by omega)
    omega
  obtain ⟨r, μ', e, q1, q2, q3⟩ := pickS h hB hlog
  have hr : r < ds.length := by omega
  have hget : atI ds ((r : Nat) : Int) = some ds[r] := atI_nat (List.getElem?_eq_getElem hr)
  refine ⟨ds[r], μ', ?_, List.getElem_mem hr, q1, q3⟩
  refine bodyR_rt ?_
  show b__law_of [some (.ref l), some (.lst ds)] μ = _
  unfold b__law_of
  have hl : dcLen [.lst ds] μ = ok (.int (ds.length : Nat)) μ := by simp only [dcLen, seqOf, lstOf]
  have hi : ixD (.lst ds) (.int (r : Nat)) μ' = ok ds[r] μ' := by simp only [ixD, seqOf, lstOf, hget]
  simp only [lifA_run, runA_ok, runA_exc, seqS_run, seqR_nx, seqR_rt, seqR_ct, seqR_bk, seqR_exc, nxS_run, ctS_run, bkS_run, asgS, parS, retS, expS, ifS, setS, augS, varD, cD, binD, tstD, andB, orB, notB, truB, callB, callN, consL, nilL, meth0, bindR_ok, bindR_none, bindR_exc, bindT, bindTs, int2, cmpI, addD, addI, subI, mulX, mulD, mulI, fdivI, modI, dcInt, dcMax2, dcMin2, dcAbs, List.getElem?_cons_zero, List.getElem?_cons_succ, List.getElem?_nil, if_true, if_false, Bool.true_and, Bool.and_true, List.set_cons_zero, List.set_cons_succ, List.length_cons, List.length_nil, reduceIte, Nat.reduceAdd, Nat.reduceEqDiff, decide_true, decide_false, Bool.false_eq_true, hl, e, hi]
/-- a loop over what can't change, by an invariant -/
theorem forL_inv {t : Tg} {body : DS} (P : Nat → Sl → Mu → Prop) : ∀ (ds : List D) (i : Nat) (sl : Sl) (μ : Mu), (∀ j d sl μ, ds[j]? = some d → P (i + j) sl μ → ∃ sl1 sl2 μ2, bindT μ t d sl = some sl1 ∧ body sl1 μ = some (.nx sl2 μ2) ∧ P (i + j + 1) sl2 μ2) → P i sl μ →
    ∃ sl' μ', forL (fun _ => true) t body ds sl μ = some (.nx sl' μ') ∧ P (i + ds.length) sl' μ'
  | [], i, sl, μ, _, h => ⟨sl, μ, by simp [forL], h⟩
  | d :: ds, i, sl, μ, hs, h => by
    obtain ⟨sl1, sl2, μ2, e1, e2, h2⟩ := hs 0 d sl μ rfl h
    obtain ⟨sl', μ', e, q⟩ := forL_inv P ds (i + 1) sl2 μ2 (fun j d sl μ hj hp => by
      have := hs (j + 1) d sl μ (by simpa using hj) (by rw [show i + (j + 1) = i + 1 + j by omega]; exact hp)
      rw [show i + (j + 1) = i + 1 + j by omega] at this
      exact this) h2
    refine ⟨sl', μ', ?_, by rw [List.length_cons, show i + (ds.length + 1) = i + 1 + ds.length by omega]; exact q⟩
    rw [forL]
    simp only [if_true, e1, e2]
    exact e
theorem rng1 {fl : DL} {sl : Sl} {μ μ1 : Mu} {n : Nat} (h : fl sl μ = ok [.int (n : Nat)] μ1) (hn : n < 2 ^ 62) : rngSrc1 fl sl μ = ok (.st (rngD 0 n)) μ1 := by
  unfold rngSrc1
  rw [h]
  have : ((n : Nat) : Int) < 2 ^ 62 ∧ -(2 ^ 62) ≤ ((n : Nat) : Int) := by omega
  rw [bindR_ok]
  dsimp only
  rw [if_pos this, Int.toNat_natCast]
theorem rngD_len (n : Nat) : (rngD 0 n).length = n := by simp [rngD]
theorem rngD_at {n j : Nat} {d : D} (h : (rngD 0 n)[j]? = some d) : j < n ∧ d = .int (j : Nat) := by
  obtain ⟨h1, h2⟩ := rngD_get h
  exact ⟨h1, by rw [h2, Int.zero_add]⟩
/-! ### one construct at a time -/
section
variable {sl sl1 : Sl} {μ μ1 μ2 : Mu} {d x y : D} {ds es : List D} {e fa fb : DE} {fl : DL} {g : D2} {F : DC} {n : Nat} {t : Tg} {b : Bool} {c : Sl → Mu → R Bool} {f h : DS}
theorem binD_ok (ha : fa sl μ = ok x μ1) (hb : fb sl μ1 = ok y μ2) : binD g fa fb sl μ = g x y μ2 := by unfold binD; rw [ha, bindR_ok, hb, bindR_ok]
theorem asgS_ok (he : e sl μ = ok d μ1) (hb : bindT μ1 t d sl = some sl1) : asgS e t sl μ = some (.nx sl1 μ1) := by unfold asgS; rw [lifA_ok he, hb]
theorem newD_ok (he : e sl μ = ok (.lst ds) μ1) : newD e sl μ = ok (.lst ds) μ1 := by unfold newD; rw [he]; rfl
theorem newD_dic {ks : List Key} (he : e sl μ = ok (.dic ks ds) μ1) : newD e sl μ = ok (.dic ks ds) μ1 := by unfold newD; rw [he]; rfl
theorem consL_ok (ha : fa sl μ = ok x μ1) (hb : fl sl μ1 = ok es μ2) : consL fa fl sl μ = ok (x :: es) μ2 := by unfold consL; rw [ha, bindR_ok, hb, bindR_ok]
theorem nilL_ok : nilL sl μ = ok [] μ := rfl
theorem callB_ok (ha : fl sl μ = ok ds μ1) : callB F fl sl μ = F ds μ1 := by unfold callB; rw [ha, bindR_ok]
theorem callN_ok (hn : ds.length = n) : callN n F ds μ = F ds μ := by unfold callN; rw [if_pos hn]
theorem lstD_ok (ha : fl sl μ = ok ds μ1) (hz : ds.length ≤ sizeLine) : lstD fl sl μ = ok (.lst ds) μ1 := by unfold lstD; rw [ha, bindR_ok, if_pos hz]
theorem tupD_ok (ha : fl sl μ = ok ds μ1) (hz : ds.length ≤ sizeLine) : tupD fl sl μ = ok (.tup ds) μ1 := by unfold tupD; rw [ha, bindR_ok, if_pos hz]
theorem retS_ok (he : e sl μ = ok d μ1) : retS e sl μ = some (.rt d μ1) := by unfold retS; rw [lifA_ok he]
theorem tstD_ok (he : e sl μ = ok (.bl b) μ1) : tstD e sl μ = ok b μ1 := by unfold tstD; rw [he]; rfl
theorem ifS_t (hc : c sl μ = ok true μ1) : ifS c f h sl μ = f sl μ1 := by unfold ifS; rw [lifA_ok hc, if_pos rfl]
theorem ifS_f (hc : c sl μ = ok false μ1) : ifS c f h sl μ = h sl μ1 := by unfold ifS; rw [lifA_ok hc, if_neg Bool.false_ne_true]
theorem ifD_t (hc : c sl μ = ok true μ1) : ifD c fa fb sl μ = fa sl μ1 := by unfold ifD; rw [hc]; rfl
theorem ifD_f (hc : c sl μ = ok false μ1) : ifD c fa fb sl μ = fb sl μ1 := by unfold ifD; rw [hc]; rfl
theorem andD_t (ha : fa sl μ = ok (.bl true) μ1) : andD fa fb sl μ = fb sl μ1 := by unfold andD; rw [ha]; rfl
theorem andD_f (ha : fa sl μ = ok (.bl false) μ1) : andD fa fb sl μ = ok (.bl false) μ1 := by unfold andD; rw [ha]; rfl
theorem nm_ok {i : Nat} : bindT μ (.nm i) d sl = some (sl.set i (some d)) := rfl
end
end Pd
end
section
namespace Kn
open PySem PySem.Spec L2 Pd
theorem of_same : f__law_of = Pd.f__law_of := rfl
def shortB (n : Nat) : D → Bool
  | .str x => decide (x.cps.toList.length ≤ n)
  | _ => false
theorem short_of {n : Nat} {ds : List D} {x : D} (h : ds.all (shortB n) = true) (hx : x ∈ ds) : ∃ t : List Nat, x = .str (Tx t) ∧ t.length ≤ n := by
  have := List.all_eq_true.mp h x hx
  cases x with
  | str s => exact ⟨s.cps.toList, rfl, of_decide_eq_true this⟩
  | _ => cases this
theorem addL_lst {a b : List D} {μ : Mu} (h : a.length + b.length ≤ sizeLine) : addL (.lst a) (.lst b) μ = ok (.lst (a ++ b)) μ := by
  simp only [addL, lstOf, if_pos h]
theorem mulS_ok {a : Str} {k : Int} {μ : Mu} (h : 1 ≤ k ∧ k < 2 ^ 63 ∧ a.length * k.toNat ≤ sizeLine) : mulS (.str a) (.int k) μ = ok (.str (strRep a k.toNat)) μ := by
  simp only [mulS, if_pos h]
theorem small_le {n : Nat} (h : n ≤ 1000 := by decide) : n ≤ sizeLine := by rw [sizeLine_eq]; omega
abbrev ps1 : List D := [.str "a", .str "w2", .str "table", .str "from", .str "0", .str "007", .str "12", .str "999999999", .str "-", .str ",", .str ":", .str ";", .str " ", .str " ", .str "\n", .str "  ", .str "-5"]
abbrev ps2 : List D := [.str "abcdefghijkl", .str "abcdefghijklm", .str (strRep "x" 25), .str "--", .str ",;", .str "1a", .str "a1", .str "parts", .str "partsx", .str "a-b"]
theorem piece_ok {B : Nat} {μ : Mu} (h : Sr B 1 0 μ) (hB : B < 2 ^ 39) : ∃ t μ', f__law_piece [.ref 1] μ = ok (.str (Tx t)) μ' ∧ t.length ≤ 25 ∧ Sr (B + 1) 1 0 μ' := by
  obtain ⟨x, μ', e, hx, q1, _⟩ := ofS (ds := ps1 ++ ps2) h hB (by simp) (by decide)
  obtain ⟨t, rfl, ht⟩ := short_of (n := 25) (by decide +kernel) hx
  refine ⟨t, μ', ?_, ht, q1⟩
  have m1 : mulS (.str "x") (.int 25) μ = ok (.str (strRep "x" 25)) μ := mulS_ok (by decide +kernel)
  have a1 : addL (.lst ps1) (.lst ps2) μ = ok (.lst (ps1 ++ ps2)) μ := addL_lst (small_le)
  have l1 : (lstD (consL (cD (.str "a")) (consL (cD (.str "w2")) (consL (cD (.str "table")) (consL (cD (.str "from")) (consL (cD (.str "0")) (consL (cD (.str "007")) (consL (cD (.str "12")) (consL (cD (.str "999999999")) (consL (cD (.str "-")) (consL (cD (.str ",")) (consL (cD (.str ":")) (consL (cD (.str ";")) (consL (cD (.str " ")) (consL (cD (.str " ")) (consL (cD (.str "\n")) (consL (cD (.str "  ")) (consL (cD (.str "-5")) nilL)))))))))))))))))) [some (.ref 1), none] μ = ok (.lst ps1) μ := by
    unfold lstD
    simp only [lifA_run, runA_ok, runA_exc, seqS_run, seqR_nx, seqR_rt, seqR_ct, seqR_bk, seqR_exc, nxS_run, ctS_run, bkS_run, asgS, parS, retS, expS, ifS, setS, augS, varD, cD, binD, tstD, andB, orB, notB, truB, callB, callN, consL, nilL, meth0, bindR_ok, bindR_none, bindR_exc, bindT, bindTs, int2, cmpI, addD, addI, subI, mulX, mulD, mulI, fdivI, modI, dcInt, dcMax2, dcMin2, dcAbs, List.getElem?_cons_zero, List.getElem?_cons_succ, List.getElem?_nil, if_true, if_false, Bool.true_and, Bool.and_true, List.set_cons_zero, List.set_cons_succ, List.length_cons, List.length_nil, reduceIte, Nat.reduceAdd, Nat.reduceEqDiff, decide_true, decide_false, Bool.false_eq_true]
    exact if_pos small_le
  have l2 : (lstD (consL (cD (.str "abcdefghijkl")) (consL (cD (.str "abcdefghijklm")) (consL (binD mulX (cD (.str "x")) (cD (.int 25))) (consL (cD (.str "--")) (consL (cD (.str ",;")) (consL (cD (.str "1a")) (consL (cD (.str "a1")) (consL (cD (.str "parts")) (consL (cD (.str "partsx")) (consL (cD (.str "a-b")) nilL))))))))))) [some (.ref 1), some (.lst ps1)] μ = ok (.lst ps2) μ := by
    unfold lstD
    simp only [lifA_run, runA_ok, runA_exc, seqS_run, seqR_nx, seqR_rt, seqR_ct, seqR_bk, seqR_exc, nxS_run, ctS_run, bkS_run, asgS, parS, retS, expS, ifS, setS, augS, varD, cD, binD, tstD, andB, orB, notB, truB, callB, callN, consL, nilL, meth0, bindR_ok, bindR_none, bindR_exc, bindT, bindTs, int2, cmpI, addD, addI, subI, mulX, mulD, mulI, fdivI, modI, dcInt, dcMax2, dcMin2, dcAbs, List.getElem?_cons_zero, List.getElem?_cons_succ, List.getElem?_nil, if_true, if_false, Bool.true_and, Bool.and_true, List.set_cons_zero, List.set_cons_succ, List.length_cons, List.length_nil, reduceIte, Nat.reduceAdd, Nat.reduceEqDiff, decide_true, decide_false, Bool.false_eq_true, m1]
    exact if_pos small_le
  refine bodyR_rt ?_
  show b__law_piece [some (.ref 1), none] μ = _
  unfold b__law_piece
  refine (seqS_nx (asgS_ok (newD_ok l1) nm_ok)).trans ?_
  refine (seqS_nx (asgS_ok ((binD_ok (fa := varD 1) (μ1 := μ) rfl (newD_ok l2)).trans a1) nm_ok)).trans ?_
  rw [← of_same] at e
  simp only [lifA_run, runA_ok, runA_exc, seqS_run, seqR_nx, seqR_rt, seqR_ct, seqR_bk, seqR_exc, nxS_run, ctS_run, bkS_run, asgS, parS, retS, expS, ifS, setS, augS, varD, cD, binD, tstD, andB, orB, notB, truB, callB, callN, consL, nilL, meth0, bindR_ok, bindR_none, bindR_exc, bindT, bindTs, int2, cmpI, addD, addI, subI, mulX, mulD, mulI, fdivI, modI, dcInt, dcMax2, dcMin2, dcAbs, List.getElem?_cons_zero, List.getElem?_cons_succ, List.getElem?_nil, if_true, if_false, Bool.true_and, Bool.and_true, List.set_cons_zero, List.set_cons_succ, List.length_cons, List.length_nil, reduceIte, Nat.reduceAdd, Nat.reduceEqDiff, decide_true, decide_false, Bool.false_eq_true, e]
end Kn
end
section
namespace Kn
open PySem PySem.Spec L2 Pd
theorem in_strs {x : Str} {ys : List Str} {neg : Bool} {μ : Mu} (d : D) (hd : seqOf μ d = some (ys.map D.str)) (hs : ∀ z, d ≠ .str z) : inD neg (.str x) d μ = ok (.bl (if neg then !decide (x ∈ ys) else decide (x ∈ ys))) μ := by
  have h1 : (ys.map D.str).all flatD = true := by
    rw [List.all_map]
    exact List.all_eq_true.mpr fun y _ => rfl
  have h2 : ((ys.map D.str).any fun z => eqF z (.str x)) = decide (x ∈ ys) := by
    rw [List.any_map]
    rw [Bool.eq_iff_iff, List.any_eq_true]
    simp only [Function.comp, eqF, decide_eq_true_eq]
    constructor
    · rintro ⟨y, hy, e⟩
      rw [← eq_of_beq e]; exact hy
    · exact fun h => ⟨x, h, beq_self_eq_true x⟩
  cases d with
  | str z => exact absurd rfl (hs z)
  | _ => simp only [inD, hd, flatD, h1, Bool.and_self, if_true, h2]
theorem kept_words : (Txt.words (Str.ofString "again and as back bars behind by feed forth from gluings grow hears kept led left lost measures none of" ++ Str.ofString " one onto part parts past pipe promise push pushes rank row same split table taken through tie to" ++ Str.ofString " turned when where")) = v_KEPT := by kernel_rfl
end Kn
end
section
namespace Kn
open PySem PySem.Spec L2 Pd
theorem kept_ok {μ : Mu} : f__law_kept [] μ = ok (.lst (v_KEPT.map D.str)) μ := by
  have h1 : (Str.ofString "again and as back bars behind by feed forth from gluings grow hears kept led left lost measures none of").length + (Str.ofString " one onto part parts past pipe promise push pushes rank row same split table taken through tie to").length ≤ sizeLine := by rw [sizeLine_eq]; decide +kernel
  have h2 : (Str.ofString "again and as back bars behind by feed forth from gluings grow hears kept led left lost measures none of" ++ Str.ofString " one onto part parts past pipe promise push pushes rank row same split table taken through tie to").length + (Str.ofString " turned when where").length ≤ sizeLine := by rw [sizeLine_eq]; decide +kernel
  have h3 : (Str.ofString "again and as back bars behind by feed forth from gluings grow hears kept led left lost measures none of" ++ Str.ofString " one onto part parts past pipe promise push pushes rank row same split table taken through tie to" ++ Str.ofString " turned when where").length + 2 ≤ sizeLine := by rw [sizeLine_eq]; decide +kernel
  refine bodyR_rt ?_
  show b__law_kept [none] μ = _
  unfold b__law_kept
  simp only [lifA_run, runA_ok, runA_exc, seqS_run, seqR_nx, seqR_rt, seqR_ct, seqR_bk, seqR_exc, nxS_run, ctS_run, bkS_run, asgS, parS, retS, expS, ifS, setS, augS, varD, cD, binD, tstD, andB, orB, notB, truB, callB, callN, consL, nilL, meth0, bindR_ok, bindR_none, bindR_exc, bindT, bindTs, int2, cmpI, addD, addI, subI, mulX, mulD, mulI, fdivI, modI, dcInt, dcMax2, dcMin2, dcAbs, List.getElem?_cons_zero, List.getElem?_cons_succ, List.getElem?_nil, if_true, if_false, Bool.true_and, Bool.and_true, List.set_cons_zero, List.set_cons_succ, List.length_cons, List.length_nil, reduceIte, Nat.reduceAdd, Nat.reduceEqDiff, decide_true, decide_false, Bool.false_eq_true, addS, if_pos h1, if_pos h2, tyD, dmWords, if_pos h3, kept_words]
def sm (c : Nat) : Bool := decide (c ∈ (Str.ofString "abcdefghijklmnopqrstuvwxyz").cps.toList)
def fg (c : Nat) : Bool := decide (c ∈ (Str.ofString "0123456789").cps.toList)
theorem sm_fg {c : Nat} (h : lt c = true) : sm c = !fg c := by
  have h1 : (Str.ofString "abcdefghijklmnopqrstuvwxyz").cps.toList = [97, 98, 99, 100, 101, 102, 103, 104, 105, 106, 107, 108, 109, 110, 111, 112, 113, 114, 115, 116, 117, 118, 119, 120, 121, 122] := by kernel_rfl
  have h2 : (Str.ofString "0123456789").cps.toList = [48, 49, 50, 51, 52, 53, 54, 55, 56, 57] := by kernel_rfl
  have h3 : (Str.ofString "abcdefghijklmnopqrstuvwxyz0123456789").cps.toList = [97, 98, 99, 100, 101, 102, 103, 104, 105, 106, 107, 108, 109, 110, 111, 112, 113, 114, 115, 116, 117, 118, 119, 120, 121, 122, 48, 49, 50, 51, 52, 53, 54, 55, 56, 57] := by kernel_rfl
  unfold lt at h
  unfold sm fg
  rw [h3] at h
  rw [h1, h2]
  have h : c ∈ _ := of_decide_eq_true h
  have : ∀ c ∈ ([97, 98, 99, 100, 101, 102, 103, 104, 105, 106, 107, 108, 109, 110, 111, 112, 113, 114, 115, 116, 117, 118, 119, 120, 121, 122, 48, 49, 50, 51, 52, 53, 54, 55, 56, 57] : List Nat), decide (c ∈ ([97, 98, 99, 100, 101, 102, 103, 104, 105, 106, 107, 108, 109, 110, 111, 112, 113, 114, 115, 116, 117, 118, 119, 120, 121, 122] : List Nat)) = !decide (c ∈ ([48, 49, 50, 51, 52, 53, 54, 55, 56, 57] : List Nat)) := by decide
  exact this c h
theorem bls_map {α : Type} (f : α → Bool) : ∀ l : List α, blsOf (l.map fun x => D.bl (f x)) = some (l.map f)
  | [] => rfl
  | x :: l => by rw [List.map_cons, blsOf, bls_map f l]; rfl
/-- whether a text is a name -/
def nmL (v : List Nat) : Bool := match v with
  | [] => false
  | c :: r => decide ((c :: r).length ≤ 12) && (sm c && (!decide (Tx (c :: r) ∈ v_KEPT) && (c :: r).all lt))
theorem isi_str {x : Str} {μ : Mu} : dcIsi [.str x, .cst (.ty "str")] μ = ok (.bl true) μ := by
  have : kitB "str" "str" = some true := by kernel_rfl
  simp only [dcIsi, tyNm, this]
theorem letters_add {μ : Mu} : addS (.str (Str.ofString "abcdefghijklmnopqrstuvwxyz")) (.str (Str.ofString "0123456789")) μ = ok LT μ := by
  have h0 : (Str.ofString "abcdefghijklmnopqrstuvwxyz").length + (Str.ofString "0123456789").length ≤ sizeLine := by rw [sizeLine_eq]; decide +kernel
  simp only [addS, if_pos h0, letters]
theorem is_name_ok {μ : Mu} (v : List Nat) (hz : v.length ≤ 1000) : f_is_name [.str (Tx v)] μ = ok (.bl (nmL v)) μ := by
  have hz' : v.length ≤ sizeLine := by rw [sizeLine_eq]; omega
  refine bodyR_rt ?_
  show b_is_name [some (.str (Tx v)), none] μ = _
  unfold b_is_name
  have hk : seqOf μ (.tup (v_KEPT.map D.str)) = some (v_KEPT.map D.str) := rfl
  have src : anySrc (varD 0) [some (.str (Tx v)), none] μ = ok (.st (v.map fun c => D.str (Tx [c]))) μ := rfl
  have lc : lcD [1] (anySrc (varD 0)) (.nm 1) yesB (binD (inD false) (varD 1) (binD addD (cD (.str "abcdefghijklmnopqrstuvwxyz")) (cD (.str "0123456789")))) [some (.str (Tx v)), none] μ = ok (.lst (v.map fun c => D.bl (lt c))) μ := by
    rw [lcD_st src]
    have := lcL_mapP (own := 1) (e := binD (inD false) (varD 1) (binD addD (cD (.str "abcdefghijklmnopqrstuvwxyz")) (cD (.str "0123456789")))) (sl := wipeD [some (.str (Tx v)), none] [1]) (μ := μ) (fun d => ∃ c, d = .str (Tx [c])) (fun d => match d with | .str z => .bl (lt (z.cps.toList.headD 0)) | d => d) (fun d ⟨c, hd⟩ => by
      subst hd
      simp only [wipeD]
      simp only [lifA_run, runA_ok, runA_exc, seqS_run, seqR_nx, seqR_rt, seqR_ct, seqR_bk, seqR_exc, nxS_run, ctS_run, bkS_run, asgS, parS, retS, expS, ifS, setS, augS, varD, cD, binD, tstD, andB, orB, notB, truB, callB, callN, consL, nilL, meth0, bindR_ok, bindR_none, bindR_exc, bindT, bindTs, int2, cmpI, addD, addI, subI, mulX, mulD, mulI, fdivI, modI, dcInt, dcMax2, dcMin2, dcAbs, List.getElem?_cons_zero, List.getElem?_cons_succ, List.getElem?_nil, if_true, if_false, Bool.true_and, Bool.and_true, List.set_cons_zero, List.set_cons_succ, List.length_cons, List.length_nil, reduceIte, Nat.reduceAdd, Nat.reduceEqDiff, decide_true, decide_false, Bool.false_eq_true, letters_add, in_lt]
      rfl) (v.map fun c => D.str (Tx [c])) [] (fun d hd => by
        obtain ⟨c, _, e⟩ := List.mem_map.mp hd
        exact ⟨c, e.symm⟩) (by rw [List.length_map]; simpa using hz')
    rw [this, List.nil_append, List.map_map]
    rfl
  have all_ : dcAll [.lst (v.map fun c => D.bl (lt c))] μ = ok (.bl (v.all lt)) μ := by
    simp only [dcAll, lstOf, Option.bind_some, bls_map, List.all_map]
    rfl
  have tr : ∀ b, truD μ (.bl b) = some b := fun b => rfl
  cases v with
  | nil =>
    have h0 : decide ((0 : Int) < ((([] : List Nat).length : Nat) : Int)) = false := by decide
    simp only [lifA_run, runA_ok, runA_exc, seqS_run, seqR_nx, seqR_rt, seqR_ct, seqR_bk, seqR_exc, nxS_run, ctS_run, bkS_run, asgS, parS, retS, expS, ifS, setS, augS, varD, cD, binD, tstD, andB, orB, notB, truB, callB, callN, consL, nilL, meth0, bindR_ok, bindR_none, bindR_exc, bindT, bindTs, int2, cmpI, addD, addI, subI, mulX, mulD, mulI, fdivI, modI, dcInt, dcMax2, dcMin2, dcAbs, List.getElem?_cons_zero, List.getElem?_cons_succ, List.getElem?_nil, if_true, if_false, Bool.true_and, Bool.and_true, List.set_cons_zero, List.set_cons_succ, List.length_cons, List.length_nil, reduceIte, Nat.reduceAdd, Nat.reduceEqDiff, decide_true, decide_false, Bool.false_eq_true, isi_str, tr, len_tx hz', chD, h0, Bool.not_true, Bool.not_false]
    rfl
  | cons c r =>
    have h0 : decide ((0 : Int) < ((r.length + 1 : Nat) : Int)) = true := decide_eq_true (by omega)
    have hget : (c :: r)[0]? = some c := rfl
    have ix : ixD (.str (Tx (c :: r))) (.int 0) μ = ok (.str (Tx [c])) μ := ix_tx (k := 0) hget hz'
    have nin : inD true (.str (Tx [c])) (.str "abcdefghijklmnopqrstuvwxyz") μ = ok (.bl (!sm c)) μ := nin_tx
    have ink := in_strs (x := Tx (c :: r)) (neg := false) (μ := μ) (.tup (v_KEPT.map D.str)) hk (fun z h => by cases h)
    simp only [Bool.false_eq_true, if_false] at ink
    by_cases h12 : (c :: r).length ≤ 12
    · have d12 : decide (((r.length + 1 : Nat) : Int) ≤ 12) = true := decide_eq_true (by simp only [List.length_cons] at h12; omega)
      by_cases hs : sm c = true
      · by_cases hm : Tx (c :: r) ∈ v_KEPT
        · simp only [lifA_run, runA_ok, runA_exc, seqS_run, seqR_nx, seqR_rt, seqR_ct, seqR_bk, seqR_exc, nxS_run, ctS_run, bkS_run, asgS, parS, retS, expS, ifS, setS, augS, varD, cD, binD, tstD, andB, orB, notB, truB, callB, callN, consL, nilL, meth0, bindR_ok, bindR_none, bindR_exc, bindT, bindTs, int2, cmpI, addD, addI, subI, mulX, mulD, mulI, fdivI, modI, dcInt, dcMax2, dcMin2, dcAbs, List.getElem?_cons_zero, List.getElem?_cons_succ, List.getElem?_nil, if_true, if_false, Bool.true_and, Bool.and_true, List.set_cons_zero, List.set_cons_succ, List.length_cons, List.length_nil, reduceIte, Nat.reduceAdd, Nat.reduceEqDiff, decide_true, decide_false, Bool.false_eq_true, isi_str, tr, len_tx hz', chD, h0, d12, Bool.not_true, Bool.not_false, ix, nin, hs, ink, decide_eq_true hm]
          simp only [nmL, decide_eq_true h12, hs, decide_eq_true hm, Bool.not_true, Bool.false_and, Bool.and_false]
        · simp only [lifA_run, runA_ok, runA_exc, seqS_run, seqR_nx, seqR_rt, seqR_ct, seqR_bk, seqR_exc, nxS_run, ctS_run, bkS_run, asgS, parS, retS, expS, ifS, setS, augS, varD, cD, binD, tstD, andB, orB, notB, truB, callB, callN, consL, nilL, meth0, bindR_ok, bindR_none, bindR_exc, bindT, bindTs, int2, cmpI, addD, addI, subI, mulX, mulD, mulI, fdivI, modI, dcInt, dcMax2, dcMin2, dcAbs, List.getElem?_cons_zero, List.getElem?_cons_succ, List.getElem?_nil, if_true, if_false, Bool.true_and, Bool.and_true, List.set_cons_zero, List.set_cons_succ, List.length_cons, List.length_nil, reduceIte, Nat.reduceAdd, Nat.reduceEqDiff, decide_true, decide_false, Bool.false_eq_true, isi_str, tr, len_tx hz', chD, h0, d12, Bool.not_true, Bool.not_false, ix, nin, hs, ink, decide_eq_false hm, newD_ok lc, all_]
          simp only [nmL, decide_eq_true h12, hs, decide_eq_false hm, Bool.not_false, Bool.true_and]
      · have hs' : sm c = false := by simpa using hs
        simp only [lifA_run, runA_ok, runA_exc, seqS_run, seqR_nx, seqR_rt, seqR_ct, seqR_bk, seqR_exc, nxS_run, ctS_run, bkS_run, asgS, parS, retS, expS, ifS, setS, augS, varD, cD, binD, tstD, andB, orB, notB, truB, callB, callN, consL, nilL, meth0, bindR_ok, bindR_none, bindR_exc, bindT, bindTs, int2, cmpI, addD, addI, subI, mulX, mulD, mulI, fdivI, modI, dcInt, dcMax2, dcMin2, dcAbs, List.getElem?_cons_zero, List.getElem?_cons_succ, List.getElem?_nil, if_true, if_false, Bool.true_and, Bool.and_true, List.set_cons_zero, List.set_cons_succ, List.length_cons, List.length_nil, reduceIte, Nat.reduceAdd, Nat.reduceEqDiff, decide_true, decide_false, Bool.false_eq_true, isi_str, tr, len_tx hz', chD, h0, d12, Bool.not_true, Bool.not_false, ix, nin, hs']
        simp only [nmL, hs', Bool.false_and, Bool.and_false]
    · have d12 : decide (((r.length + 1 : Nat) : Int) ≤ 12) = false := decide_eq_false (by simp only [List.length_cons] at h12; omega)
      simp only [lifA_run, runA_ok, runA_exc, seqS_run, seqR_nx, seqR_rt, seqR_ct, seqR_bk, seqR_exc, nxS_run, ctS_run, bkS_run, asgS, parS, retS, expS, ifS, setS, augS, varD, cD, binD, tstD, andB, orB, notB, truB, callB, callN, consL, nilL, meth0, bindR_ok, bindR_none, bindR_exc, bindT, bindTs, int2, cmpI, addD, addI, subI, mulX, mulD, mulI, fdivI, modI, dcInt, dcMax2, dcMin2, dcAbs, List.getElem?_cons_zero, List.getElem?_cons_succ, List.getElem?_nil, if_true, if_false, Bool.true_and, Bool.and_true, List.set_cons_zero, List.set_cons_succ, List.length_cons, List.length_nil, reduceIte, Nat.reduceAdd, Nat.reduceEqDiff, decide_true, decide_false, Bool.false_eq_true, isi_str, tr, len_tx hz', chD, h0, d12, Bool.not_true, Bool.not_false]
      simp only [nmL, decide_eq_false h12, Bool.false_and]
end Kn
end
section
namespace Kn
open PySem PySem.Spec L2 Pd
/-- a comprehension that leaves some out -/
theorem lcL_filter {own : Nat} {c : Sl → Mu → R Bool} {e : DE} {sl : Sl} {μ : Mu} (q : Nat → Bool) (hc : ∀ x, c (sl.set own (some (.str (Tx [x])))) μ = ok (q x) μ) (he : ∀ x, e (sl.set own (some (.str (Tx [x])))) μ = ok (.str (Tx [x])) μ) :
    ∀ (l acc : List Nat), acc.length + l.length ≤ sizeLine → lcL (fun _ => true) (.nm own) c e sl (l.map fun x => D.str (Tx [x])) (acc.map fun x => D.str (Tx [x])) μ = ok (.lst ((acc ++ l.filter q).map fun x => D.str (Tx [x]))) μ
  | [], acc, _ => by simp [lcL]
  | x :: l, acc, hz => by
    have hz : acc.length + l.length + 1 ≤ sizeLine := by simpa [Nat.add_assoc] using hz
    have hc' : c (sl.set own (some (.str (Tx [x])))) μ = some (.ok (q x) μ) := hc x
    have he' : e (sl.set own (some (.str (Tx [x])))) μ = some (.ok (.str (Tx [x])) μ) := he x
    rw [List.map_cons, lcL]
    simp only [if_true, bindT]
    rw [hc']
    cases hq : q x with
    | false =>
      simp only
      rw [lcL_filter q hc he l acc (by omega), List.filter_cons_of_neg (by rw [hq]; exact Bool.false_ne_true)]
    | true =>
      simp only
      rw [he']
      simp only [List.length_map, if_pos (show acc.length < sizeLine by omega)]
      have ih := lcL_filter q hc he l (acc ++ [x]) (by simp; omega)
      rw [List.map_append] at ih
      simp only [List.map_cons, List.map_nil] at ih
      rw [ih, List.filter_cons_of_pos hq, List.append_assoc]
      rfl
end Kn
namespace Kn
open PySem PySem.Spec L2 Pd
theorem chars_pl {l : List Nat} (h : ∀ c ∈ l, c < 0x110000) : ∃ ps, pyL (l.map fun x => D.str (Tx [x])) = some ps ∧ PyData.canLayAll0 ps = true ∧ PyData.depthAll ps ≤ 1 ∧ ps.length = l.length := by
  induction l with
  | nil => exact ⟨[], rfl, rfl, by decide, rfl⟩
  | cons c l ih =>
    obtain ⟨ps, h1, h2, h3, h4⟩ := ih fun x hx => h x (List.mem_cons_of_mem _ hx)
    have hc : PyData.strOk (Tx [c]) = true := by
      unfold PyData.strOk
      rw [List.all_toArray]
      simp [h c List.mem_cons_self]
    refine ⟨.str (Tx [c]) :: ps, ?_, ?_, ?_, by simp [h4]⟩
    · rw [List.map_cons, pyL, h1]; rfl
    · rw [PyData.canLayAll0, PyData.canLay0, hc, h2]; rfl
    · rw [PyData.depthAll, PyData.depth]; omega
end Kn
end
section
namespace Kn
open PySem PySem.Spec L2 Pd
theorem not_lt {μ : Mu} {c : Nat} : inD true (.str (Tx [c])) LT μ = ok (.bl (!lt c)) μ := nin_tx
theorem law_name_ok {μ : Mu} (v : List Nat) (hz : v.length ≤ 1000) (hv : ∀ c ∈ v, c < 0x110000) : f__law_is_name [.str (Tx v)] μ = ok (.bl (nmL v)) μ := by
  have hz' : v.length ≤ sizeLine := by rw [sizeLine_eq]; omega
  refine bodyR_rt ?_
  show b__law_is_name [some (.str (Tx v)), none, none, none] μ = _
  unfold b__law_is_name
  have hk : seqOf μ (.lst (v_KEPT.map D.str)) = some (v_KEPT.map D.str) := rfl
  have s0 : (asgS (fun _ μ => f__law_signs [] μ) (.tp [(.nm 1), (.nm 2)])) [some (.str (Tx v)), none, none, none] μ = some (.nx [some (.str (Tx v)), some SG, some LT, none] μ) := by
    simp only [lifA_run, runA_ok, runA_exc, seqS_run, seqR_nx, seqR_rt, seqR_ct, seqR_bk, seqR_exc, nxS_run, ctS_run, bkS_run, asgS, parS, retS, expS, ifS, setS, augS, varD, cD, binD, tstD, andB, orB, notB, truB, callB, callN, consL, nilL, meth0, bindR_ok, bindR_none, bindR_exc, bindT, bindTs, int2, cmpI, addD, addI, subI, mulX, mulD, mulI, fdivI, modI, dcInt, dcMax2, dcMin2, dcAbs, List.getElem?_cons_zero, List.getElem?_cons_succ, List.getElem?_nil, if_true, if_false, Bool.true_and, Bool.and_true, List.set_cons_zero, List.set_cons_succ, List.length_cons, List.length_nil, reduceIte, Nat.reduceAdd, Nat.reduceEqDiff, decide_true, decide_false, Bool.false_eq_true, signs_ok, seqOf]
  have src : anySrc (varD 0) [some (.str (Tx v)), some SG, some LT, none] μ = ok (.st (v.map fun c => D.str (Tx [c]))) μ := rfl
  have lc : lcD [3] (anySrc (varD 0)) (.nm 3) (tstD (binD (inD true) (varD 3) (varD 2))) (varD 3) [some (.str (Tx v)), some SG, some LT, none] μ = ok (.lst ((v.filter fun c => !lt c).map fun c => D.str (Tx [c]))) μ := by
    rw [lcD_st src]
    have := lcL_filter (own := 3) (c := tstD (binD (inD true) (varD 3) (varD 2))) (e := varD 3) (sl := wipeD [some (.str (Tx v)), some SG, some LT, none] [3]) (μ := μ) (fun c => !lt c) (fun x => by
      simp only [wipeD]
      simp only [lifA_run, runA_ok, runA_exc, seqS_run, seqR_nx, seqR_rt, seqR_ct, seqR_bk, seqR_exc, nxS_run, ctS_run, bkS_run, asgS, parS, retS, expS, ifS, setS, augS, varD, cD, binD, tstD, andB, orB, notB, truB, callB, callN, consL, nilL, meth0, bindR_ok, bindR_none, bindR_exc, bindT, bindTs, int2, cmpI, addD, addI, subI, mulX, mulD, mulI, fdivI, modI, dcInt, dcMax2, dcMin2, dcAbs, List.getElem?_cons_zero, List.getElem?_cons_succ, List.getElem?_nil, if_true, if_false, Bool.true_and, Bool.and_true, List.set_cons_zero, List.set_cons_succ, List.length_cons, List.length_nil, reduceIte, Nat.reduceAdd, Nat.reduceEqDiff, decide_true, decide_false, Bool.false_eq_true, not_lt]) (fun x => by
      simp only [wipeD]
      simp only [lifA_run, runA_ok, runA_exc, seqS_run, seqR_nx, seqR_rt, seqR_ct, seqR_bk, seqR_exc, nxS_run, ctS_run, bkS_run, asgS, parS, retS, expS, ifS, setS, augS, varD, cD, binD, tstD, andB, orB, notB, truB, callB, callN, consL, nilL, meth0, bindR_ok, bindR_none, bindR_exc, bindT, bindTs, int2, cmpI, addD, addI, subI, mulX, mulD, mulI, fdivI, modI, dcInt, dcMax2, dcMin2, dcAbs, List.getElem?_cons_zero, List.getElem?_cons_succ, List.getElem?_nil, if_true, if_false, Bool.true_and, Bool.and_true, List.set_cons_zero, List.set_cons_succ, List.length_cons, List.length_nil, reduceIte, Nat.reduceAdd, Nat.reduceEqDiff, decide_true, decide_false, Bool.false_eq_true]) v [] (by simpa using hz')
    exact this
  refine (seqS_nx s0).trans ?_
  cases v with
  | nil =>
    have h1 : decide (Tx ([] : List Nat) = Str.ofString "") = true := decide_eq_true tx_nil.symm
    simp only [lifA_run, runA_ok, runA_exc, seqS_run, seqR_nx, seqR_rt, seqR_ct, seqR_bk, seqR_exc, nxS_run, ctS_run, bkS_run, asgS, parS, retS, expS, ifS, setS, augS, varD, cD, binD, tstD, andB, orB, notB, truB, callB, callN, consL, nilL, meth0, bindR_ok, bindR_none, bindR_exc, bindT, bindTs, int2, cmpI, addD, addI, subI, mulX, mulD, mulI, fdivI, modI, dcInt, dcMax2, dcMin2, dcAbs, List.getElem?_cons_zero, List.getElem?_cons_succ, List.getElem?_nil, if_true, if_false, Bool.true_and, Bool.and_true, List.set_cons_zero, List.set_cons_succ, List.length_cons, List.length_nil, reduceIte, Nat.reduceAdd, Nat.reduceEqDiff, decide_true, decide_false, Bool.false_eq_true, eq_strs, h1]
    rfl
  | cons c r =>
    have h1 : decide (Tx (c :: r) = Str.ofString "") = false := decide_eq_false fun z => by
      rw [tx_nil] at z
      exact List.cons_ne_nil _ _ (tx_inj z)
    have ink := in_strs (x := Tx (c :: r)) (neg := false) (μ := μ) (.lst (v_KEPT.map D.str)) hk (fun z h => by cases h)
    simp only [Bool.false_eq_true, if_false] at ink
    by_cases h12 : (c :: r).length ≤ 12
    · have d12 : decide ((12 : Int) < ((r.length + 1 : Nat) : Int)) = false := decide_eq_false (by simp only [List.length_cons] at h12; omega)
      by_cases hm : Tx (c :: r) ∈ v_KEPT
      · simp only [lifA_run, runA_ok, runA_exc, seqS_run, seqR_nx, seqR_rt, seqR_ct, seqR_bk, seqR_exc, nxS_run, ctS_run, bkS_run, asgS, parS, retS, expS, ifS, setS, augS, varD, cD, binD, tstD, andB, orB, notB, truB, callB, callN, consL, nilL, meth0, bindR_ok, bindR_none, bindR_exc, bindT, bindTs, int2, cmpI, addD, addI, subI, mulX, mulD, mulI, fdivI, modI, dcInt, dcMax2, dcMin2, dcAbs, List.getElem?_cons_zero, List.getElem?_cons_succ, List.getElem?_nil, if_true, if_false, Bool.true_and, Bool.and_true, List.set_cons_zero, List.set_cons_succ, List.length_cons, List.length_nil, reduceIte, Nat.reduceAdd, Nat.reduceEqDiff, decide_true, decide_false, Bool.false_eq_true, eq_strs, h1, len_tx hz', d12, kept_ok, ink, decide_eq_true hm]
        simp only [nmL, decide_eq_true hm, Bool.not_true, Bool.false_and, Bool.and_false]
      · have hget : (c :: r)[0]? = some c := rfl
        have ix : ixD (.str (Tx (c :: r))) (.int 0) μ = ok (.str (Tx [c])) μ := ix_tx (k := 0) hget hz'
        have nin : inD true (.str (Tx [c])) (.str "0123456789") μ = ok (.bl (!fg c)) μ := nin_tx
        have nl : newD (lstD nilL) [some (.str (Tx (c :: r))), some SG, some LT, none] μ = ok (.lst []) μ := newD_ok (lstD_ok rfl (Nat.zero_le _))
        obtain ⟨ps, p1, p2, p3, p4⟩ := chars_pl (l := (c :: r).filter fun c => !lt c) fun x hx => hv x (List.mem_filter.mp hx).1
        have pl1 : Pl (.lst (((c :: r).filter fun c => !lt c).map fun c => D.str (Tx [c]))) (.list ps) := ⟨by rw [pyD, p1], by rw [PyData.canLay0]; exact p2, by rw [PyData.depth]; omega⟩
        have pl2 : Pl (.lst []) (.list []) := ⟨rfl, rfl, by decide⟩
        have eqe : eqD (.lst (((c :: r).filter fun c => !lt c).map fun c => D.str (Tx [c]))) (.lst []) μ = ok (.bl ((c :: r).all lt)) μ := by
          rw [eqD_pl pl1 pl2]
          congr 2
          cases ps with
          | nil =>
            have : (c :: r).filter (fun c => !lt c) = [] := List.length_eq_zero_iff.mp p4.symm
            have h3 : (c :: r).all lt = true := List.all_eq_true.mpr fun x hx => by
              have := List.filter_eq_nil_iff.mp this x hx
              simpa using this
            rw [h3]; rfl
          | cons p ps =>
            have h3 : (c :: r).all lt = false := by
              cases h : (c :: r).all lt with
              | false => rfl
              | true =>
                have : (c :: r).filter (fun c => !lt c) = [] := List.filter_eq_nil_iff.mpr fun x hx => by
                  rw [List.all_eq_true.mp h x hx]; simp
                rw [this] at p4
                simp at p4
            rw [h3]
            simp only [PyData.eqv, PyData.eqvAll]
        have e0 : (binD eqD (newD (lcD [3] (anySrc (varD 0)) (.nm 3) (tstD (binD (inD true) (varD 3) (varD 2))) (varD 3))) (newD (lstD nilL))) [some (.str (Tx (c :: r))), some SG, some LT, none] μ = ok (.bl ((c :: r).all lt)) μ := (binD_ok (newD_ok lc) nl).trans eqe
        simp only [lifA_run, runA_ok, runA_exc, seqS_run, seqR_nx, seqR_rt, seqR_ct, seqR_bk, seqR_exc, nxS_run, ctS_run, bkS_run, asgS, parS, retS, expS, ifS, setS, augS, varD, cD, binD, tstD, andB, orB, notB, truB, callB, callN, consL, nilL, meth0, bindR_ok, bindR_none, bindR_exc, bindT, bindTs, int2, cmpI, addD, addI, subI, mulX, mulD, mulI, fdivI, modI, dcInt, dcMax2, dcMin2, dcAbs, List.getElem?_cons_zero, List.getElem?_cons_succ, List.getElem?_nil, if_true, if_false, Bool.true_and, Bool.and_true, List.set_cons_zero, List.set_cons_succ, List.length_cons, List.length_nil, reduceIte, Nat.reduceAdd, Nat.reduceEqDiff, decide_true, decide_false, Bool.false_eq_true, eq_strs, h1, len_tx hz', d12, kept_ok, ink, decide_eq_false hm]
        cases ha : (c :: r).all lt with
        | false =>
          rw [ha] at e0
          rw [andD_f e0, runA_ok]
          simp only [nmL, ha, Bool.and_false]
        | true =>
          rw [ha] at e0
          have hl : lt c = true := List.all_eq_true.mp ha c List.mem_cons_self
          have e1 : (binD (inD true) (binD ixD (varD 0) (cD (.int 0))) (cD (.str "0123456789"))) [some (.str (Tx (c :: r))), some SG, some LT, none] μ = ok (.bl (!fg c)) μ := by
            simp only [lifA_run, runA_ok, runA_exc, seqS_run, seqR_nx, seqR_rt, seqR_ct, seqR_bk, seqR_exc, nxS_run, ctS_run, bkS_run, asgS, parS, retS, expS, ifS, setS, augS, varD, cD, binD, tstD, andB, orB, notB, truB, callB, callN, consL, nilL, meth0, bindR_ok, bindR_none, bindR_exc, bindT, bindTs, int2, cmpI, addD, addI, subI, mulX, mulD, mulI, fdivI, modI, dcInt, dcMax2, dcMin2, dcAbs, List.getElem?_cons_zero, List.getElem?_cons_succ, List.getElem?_nil, if_true, if_false, Bool.true_and, Bool.and_true, List.set_cons_zero, List.set_cons_succ, List.length_cons, List.length_nil, reduceIte, Nat.reduceAdd, Nat.reduceEqDiff, decide_true, decide_false, Bool.false_eq_true, ix, nin]
          rw [andD_t e0, e1, runA_ok]
          simp only [nmL, ha, decide_eq_true h12, decide_eq_false hm, sm_fg hl, Bool.not_false, Bool.true_and, Bool.and_true]
    · have d12 : decide ((12 : Int) < ((r.length + 1 : Nat) : Int)) = true := decide_eq_true (by simp only [List.length_cons] at h12; omega)
      simp only [lifA_run, runA_ok, runA_exc, seqS_run, seqR_nx, seqR_rt, seqR_ct, seqR_bk, seqR_exc, nxS_run, ctS_run, bkS_run, asgS, parS, retS, expS, ifS, setS, augS, varD, cD, binD, tstD, andB, orB, notB, truB, callB, callN, consL, nilL, meth0, bindR_ok, bindR_none, bindR_exc, bindT, bindTs, int2, cmpI, addD, addI, subI, mulX, mulD, mulI, fdivI, modI, dcInt, dcMax2, dcMin2, dcAbs, List.getElem?_cons_zero, List.getElem?_cons_succ, List.getElem?_nil, if_true, if_false, Bool.true_and, Bool.and_true, List.set_cons_zero, List.set_cons_succ, List.length_cons, List.length_nil, reduceIte, Nat.reduceAdd, Nat.reduceEqDiff, decide_true, decide_false, Bool.false_eq_true, eq_strs, h1, len_tx hz', d12]
      simp only [nmL, decide_eq_false h12, Bool.false_and]
end Kn
end
section
namespace Kn
open PySem PySem.Spec L2 Pd
/-! ### what is told is what is read -/
theorem told_pl (l : List Nat) (hl : l.length < 1000) : ∃ p, Pl (toldD (lexS l)) p ∧ p.showable = true ∧ shSz p ≤ sizeLine := by
  obtain ⟨ps, h⟩ := lexN_sh l.length l 0 (by omega)
  have hz := sizeLine_eq
  have ht : PyData.strOk "told" = true := by kernel_rfl
  have hw : PyData.strOk "wrong" = true := by kernel_rfl
  have l1 : (Str.ofString "told").length ≤ 5 := by decide +kernel
  have l2 : (Str.ofString "wrong").length ≤ 5 := by decide +kernel
  unfold toldD
  cases e : (lexS l).2 with
  | none =>
    have hs := h.sz
    refine ⟨.tuple [.str "told", .list ps], ⟨by simp only [pyD, pyL, show pyL (lexS l).1 = some ps from h.py], by simp only [PyData.canLay0, PyData.canLayAll0, ht, h.lay, Bool.and_self], ?_⟩, by simp only [PyData.showable, PyData.showableAll, h.sh, Bool.and_self], ?_⟩
    · have := h.dep
      simp only [PyData.depth, PyData.depthAll]
      omega
    · simp only [shSz, shSzL]
      omega
  | some w =>
    have hw2 : w < 2 ^ 14 := by
      have : ∀ (n : Nat) (l : List Nat) (k : Nat), (lexN n l k).2 = some w → w ≤ k + l.length := by
        intro n
        induction n with
        | zero => intro l k h; cases h
        | succ n ih =>
          intro l k h
          cases l with
          | nil => cases h
          | cons x r =>
            rw [lexN] at h
            split at h
            · have := ih r (k + 1) h; simp only [List.length_cons]; omega
            · split at h
              · have := ih r (k + 1) h; simp only [List.length_cons]; omega
              · split at h
                · have := ih _ _ h
                  have e : ((x :: r).takeWhile lt).length + ((x :: r).dropWhile lt).length = (x :: r).length := by rw [← List.length_append, List.takeWhile_append_dropWhile]
                  omega
                · cases h; omega
      have := this l.length l 0 e
      omega
    have hlog : ((w : Nat) : Int).natAbs.log2 ≤ 13 := by
      by_cases h0 : w = 0
      · subst h0; decide
      · have := (Nat.log2_lt h0).mpr hw2
        have e : ((w : Nat) : Int).natAbs = w := Int.natAbs_natCast w
        rw [e]; omega
    have h1920 : ((w : Nat) : Int).natAbs.log2 < 1920 := by omega
    refine ⟨.tuple [.str "wrong", .int (w : Nat)], ⟨by simp only [pyD, pyL], by simp only [PyData.canLay0, PyData.canLayAll0, hw, Bool.and_self], ?_⟩, by simp only [PyData.showable, PyData.showableAll, decide_eq_true h1920, Bool.and_self], ?_⟩
    · simp only [PyData.depth, PyData.depthAll]
      omega
    · simp only [shSz, shSzL]
      omega
noncomputable def lapB : DS := (seqS (asgS (cD (.str "")) (.nm 3))
    (seqS (forS (rngSrc1 (consL (callB (callN 2 f__law_pick) (consL (varD 1) (consL (cD (.int 24)) nilL))) nilL)) (.nm 4)
    (asgS (binD addD (varD 3) (callB (callN 1 f__law_piece) (consL (varD 1) nilL))) (.nm 3)))
    (seqS (ifS (tstD (binD eqD (callB (callN 2 f__law_pick) (consL (varD 1) (consL (cD (.int 2)) nilL))) (cD (.int 0))))
    (seqS (asgS (callB (callN 2 f__law_pick) (consL (varD 1) (consL (binD addD (callB dcLen (consL (varD 3) nilL)) (cD (.int 1))) nilL))) (.nm 5))
    (asgS (binD addD (binD addD (sliceD (varD 3) noO (someO (varD 5))) (callB (callN 2 f__law_of) (consL (varD 1) (consL (newD (lstD (consL (cD (.str "A")) (consL (cD (.str ".")) (consL (cD (.str "_")) (consL (cD (.str "\t")) (consL (cD (.str "+")) (consL (cD (.str "(")) (consL (cD (.str "=")) (consL (cD (.str "~")) (consL (cD (.str "'")) (consL (cD (.str "Z")) nilL)))))))))))) nilL)))) (sliceD (varD 3) (someO (varD 5)) noO)) (.nm 3)))
    nxS)
    (seqS (asgS (callB (callN 1 f__law_read) (consL (varD 3) nilL)) (.tp [(.nm 6), (.nm 7)]))
    (seqS (asgS (ifD (tstD (binD isD (varD 7) (cD .non))) (tupD (consL (cD (.str "told")) (consL (varD 6) nilL))) (tupD (consL (cD (.str "wrong")) (consL (varD 7) nilL)))) (.nm 8))
    (ifS (tstD (binD neD (callB dcRepr (consL (callB (callN 1 f__law_told) (consL (varD 3) nilL)) nilL)) (callB dcRepr (consL (varD 8) nilL))))
    (retS (cD (.bl false)))
    nxS))))))
abbrev sl14 (x0 x2 x3 x4 x5 x6 x7 x8 x9 x10 x11 x12 x13 : Option D) : Sl := [x0, some (.ref 1), x2, x3, x4, x5, x6, x7, x8, x9, x10, x11, x12, x13]
theorem eq_int' {i j : Int} {μ : Mu} : eqD (.int i) (.int j) μ = ok (.bl (decide (i = j))) μ := eq_int
theorem pick_s {B : Nat} {μ : Mu} {many : Int} (h : Sr B 1 0 μ) (hB : B < 2 ^ 39) (hm : many.natAbs.log2 < 9000) :
    ∃ (r : Nat) (μ' : Mu), f__law_pick [.ref 1, .int many] μ = ok (.int (r : Nat)) μ' ∧ Sr (B + 1) 1 0 μ' ∧ ((r : Int) < many ∨ r = 0) := by
  obtain ⟨r, μ', e, q1, q2, _⟩ := pickS h hB hm
  exact ⟨r, μ', e, q1, q2⟩
/-- the pieces -/
theorem text_ok {x0 x2 x4 x5 x6 x7 x8 x9 x10 x11 x12 x13 : Option D} {B n : Nat} {μ : Mu} (h : Sr B 1 0 μ) (hB : B + n < 2 ^ 39) (hn : n ≤ 30) :
    ∃ t y4 μ', forL (fun _ => true) (.nm 4) (asgS (binD addD (varD 3) (callB (callN 1 f__law_piece) (consL (varD 1) nilL))) (.nm 3)) (rngD 0 n) (sl14 x0 x2 (some (.str (Tx []))) x4 x5 x6 x7 x8 x9 x10 x11 x12 x13) μ =
      some (.nx (sl14 x0 x2 (some (.str (Tx t))) y4 x5 x6 x7 x8 x9 x10 x11 x12 x13) μ') ∧ t.length ≤ 25 * n ∧ Sr (B + n) 1 0 μ' := by
  have hz := sizeLine_eq
  obtain ⟨sl', μ', e, t, y4, e2, h1, h2⟩ := forL_inv (t := .nm 4) (body := asgS (binD addD (varD 3) (callB (callN 1 f__law_piece) (consL (varD 1) nilL))) (.nm 3))
    (fun j sl μ => ∃ t y4, sl = sl14 x0 x2 (some (.str (Tx t))) y4 x5 x6 x7 x8 x9 x10 x11 x12 x13 ∧ t.length ≤ 25 * j ∧ (j ≤ n → Sr (B + j) 1 0 μ)) (rngD 0 n) 0 (sl14 x0 x2 (some (.str (Tx []))) x4 x5 x6 x7 x8 x9 x10 x11 x12 x13) μ
    (fun j d sl μ hd ⟨t, y4, e, h1, h2⟩ => by
      obtain ⟨hj, rfl⟩ := rngD_at hd
      rw [Nat.zero_add] at h1 h2
      obtain ⟨u, μ2, ep, hu, hs⟩ := piece_ok (h2 (by omega)) (by omega)
      have ha : addS (.str (Tx t)) (.str (Tx u)) μ2 = ok (.str (Tx (t ++ u))) μ2 := by
        simp only [addS, tx_len, if_pos (show t.length + u.length ≤ sizeLine by omega), tx_app]
      refine ⟨_, sl14 x0 x2 (some (.str (Tx (t ++ u)))) (some (.int (j : Nat))) x5 x6 x7 x8 x9 x10 x11 x12 x13, μ2, rfl, ?_, t ++ u, _, rfl, ?_, fun _ => ?_⟩
      · rw [e]
        simp only [lifA_run, runA_ok, runA_exc, seqS_run, seqR_nx, seqR_rt, seqR_ct, seqR_bk, seqR_exc, nxS_run, ctS_run, bkS_run, asgS, parS, retS, expS, ifS, setS, augS, varD, cD, binD, tstD, andB, orB, notB, truB, callB, callN, consL, nilL, meth0, bindR_ok, bindR_none, bindR_exc, bindT, bindTs, int2, cmpI, addD, addI, subI, mulX, mulD, mulI, fdivI, modI, dcInt, dcMax2, dcMin2, dcAbs, List.getElem?_cons_zero, List.getElem?_cons_succ, List.getElem?_nil, if_true, if_false, Bool.true_and, Bool.and_true, List.set_cons_zero, List.set_cons_succ, List.length_cons, List.length_nil, reduceIte, Nat.reduceAdd, Nat.reduceEqDiff, decide_true, decide_false, Bool.false_eq_true, ep, ha]
      · rw [List.length_append]; omega
      · rw [Nat.zero_add]
        exact hs)
    ⟨[], x4, rfl, by simp, fun _ => h⟩
  rw [rngD_len, Nat.zero_add] at h1 h2
  exact ⟨t, y4, μ', by rw [e, e2], h1, h2 (Nat.le_refl _)⟩
end Kn
end
section
namespace Kn
open PySem PySem.Spec L2 Pd
abbrev odd1 : List D := [.str "A", .str ".", .str "_", .str "\t", .str "+", .str "(", .str "=", .str "~", .str "'", .str "Z"]
theorem odd_lst {sl : Sl} {μ : Mu} : (newD (lstD (consL (cD (.str "A")) (consL (cD (.str ".")) (consL (cD (.str "_")) (consL (cD (.str "\t")) (consL (cD (.str "+")) (consL (cD (.str "(")) (consL (cD (.str "=")) (consL (cD (.str "~")) (consL (cD (.str "'")) (consL (cD (.str "Z")) nilL)))))))))))) sl μ = ok (.lst odd1) μ :=
  newD_ok (lstD_ok (ds := odd1) rfl (small_le))
section
variable {x0 x2 x3 x4 x5 x6 x7 x8 x9 x10 x11 x12 x13 : Option D} {B : Nat} {μ : Mu}
/-- a strange sign, now and then -/
theorem bent_ok {t : List Nat} (ht : t.length ≤ 600) (h : Sr B 1 0 μ) (hB : B + 10 < 2 ^ 39) :
    ∃ u y5 μ', (ifS (tstD (binD eqD (callB (callN 2 f__law_pick) (consL (varD 1) (consL (cD (.int 2)) nilL))) (cD (.int 0))))
    (seqS (asgS (callB (callN 2 f__law_pick) (consL (varD 1) (consL (binD addD (callB dcLen (consL (varD 3) nilL)) (cD (.int 1))) nilL))) (.nm 5))
    (asgS (binD addD (binD addD (sliceD (varD 3) noO (someO (varD 5))) (callB (callN 2 f__law_of) (consL (varD 1) (consL (newD (lstD (consL (cD (.str "A")) (consL (cD (.str ".")) (consL (cD (.str "_")) (consL (cD (.str "\t")) (consL (cD (.str "+")) (consL (cD (.str "(")) (consL (cD (.str "=")) (consL (cD (.str "~")) (consL (cD (.str "'")) (consL (cD (.str "Z")) nilL)))))))))))) nilL)))) (sliceD (varD 3) (someO (varD 5)) noO)) (.nm 3)))
    nxS) (sl14 x0 x2 (some (.str (Tx t))) x4 x5 x6 x7 x8 x9 x10 x11 x12 x13) μ = some (.nx (sl14 x0 x2 (some (.str (Tx u))) x4 y5 x6 x7 x8 x9 x10 x11 x12 x13) μ') ∧ u.length ≤ 601 ∧ Sr (B + 3) 1 0 μ' := by
  have hz := sizeLine_eq
  obtain ⟨r, μ1, e1, s1, _⟩ := pick_s (many := 2) h (by omega) (by decide)
  by_cases hr : ((r : Nat) : Int) = 0
  · have c1 : (tstD (binD eqD (callB (callN 2 f__law_pick) (consL (varD 1) (consL (cD (.int 2)) nilL))) (cD (.int 0)))) (sl14 x0 x2 (some (.str (Tx t))) x4 x5 x6 x7 x8 x9 x10 x11 x12 x13) μ = ok true μ1 := by
      simp only [lifA_run, runA_ok, runA_exc, seqS_run, seqR_nx, seqR_rt, seqR_ct, seqR_bk, seqR_exc, nxS_run, ctS_run, bkS_run, asgS, parS, retS, expS, ifS, setS, augS, varD, cD, binD, tstD, andB, orB, notB, truB, callB, callN, consL, nilL, meth0, bindR_ok, bindR_none, bindR_exc, bindT, bindTs, int2, cmpI, addD, addI, subI, mulX, mulD, mulI, fdivI, modI, dcInt, dcMax2, dcMin2, dcAbs, List.getElem?_cons_zero, List.getElem?_cons_succ, List.getElem?_nil, if_true, if_false, Bool.true_and, Bool.and_true, List.set_cons_zero, List.set_cons_succ, List.length_cons, List.length_nil, reduceIte, Nat.reduceAdd, Nat.reduceEqDiff, decide_true, decide_false, Bool.false_eq_true, e1, eq_int, decide_eq_true hr]
    rw [ifS_t c1]
    have hlog : ((t.length : Nat) : Int) + 1 = ((t.length + 1 : Nat) : Int) := by omega
    have hl9 : ((t.length + 1 : Nat) : Int).natAbs.log2 < 9000 := by
      rw [Int.natAbs_natCast]
      have := (Nat.log2_lt (by omega : t.length + 1 ≠ 0)).mpr (show t.length + 1 < 2 ^ 10 by omega)
      omega
    obtain ⟨k, μ2, e2, s2, hk⟩ := pick_s (many := ((t.length + 1 : Nat) : Int)) s1 (by omega) hl9
    have hk' : k ≤ t.length := by omega
    obtain ⟨x, μ3, e3, hx, s3, _⟩ := ofS (ds := odd1) s2 (by omega) (by simp) (by decide)
    obtain ⟨v, rfl, hv⟩ := short_of (n := 1) (by decide +kernel) hx
    rw [← of_same] at e3
    have lt_ : t.length ≤ sizeLine := by omega
    have st1 : (asgS (callB (callN 2 f__law_pick) (consL (varD 1) (consL (binD addD (callB dcLen (consL (varD 3) nilL)) (cD (.int 1))) nilL))) (.nm 5)) (sl14 x0 x2 (some (.str (Tx t))) x4 x5 x6 x7 x8 x9 x10 x11 x12 x13) μ1 = some (.nx (sl14 x0 x2 (some (.str (Tx t))) x4 (some (.int (k : Nat))) x6 x7 x8 x9 x10 x11 x12 x13) μ2) := by
      simp only [lifA_run, runA_ok, runA_exc, seqS_run, seqR_nx, seqR_rt, seqR_ct, seqR_bk, seqR_exc, nxS_run, ctS_run, bkS_run, asgS, parS, retS, expS, ifS, setS, augS, varD, cD, binD, tstD, andB, orB, notB, truB, callB, callN, consL, nilL, meth0, bindR_ok, bindR_none, bindR_exc, bindT, bindTs, int2, cmpI, addD, addI, subI, mulX, mulD, mulI, fdivI, modI, dcInt, dcMax2, dcMin2, dcAbs, List.getElem?_cons_zero, List.getElem?_cons_succ, List.getElem?_nil, if_true, if_false, Bool.true_and, Bool.and_true, List.set_cons_zero, List.set_cons_succ, List.length_cons, List.length_nil, reduceIte, Nat.reduceAdd, Nat.reduceEqDiff, decide_true, decide_false, Bool.false_eq_true, len_tx lt_, hlog, e2]
    have a1 : addS (.str (Tx (t.take k))) (.str (Tx v)) μ3 = ok (.str (Tx (t.take k ++ v))) μ3 := by
      have := List.length_take_le k t
      simp only [addS, tx_len, if_pos (show (t.take k).length + v.length ≤ sizeLine by omega), tx_app]
    have a2 : addS (.str (Tx (t.take k ++ v))) (.str (Tx (t.drop k))) μ3 = ok (.str (Tx (t.take k ++ v ++ t.drop k))) μ3 := by
      have h2 : (t.take k ++ v).length + (t.drop k).length ≤ sizeLine := by
        rw [List.length_append, List.length_take, List.length_drop]; omega
      simp only [addS, tx_len, if_pos h2, tx_app]
    have ofe : (callB (callN 2 f__law_of) (consL (varD 1) (consL (newD (lstD (consL (cD (.str "A")) (consL (cD (.str ".")) (consL (cD (.str "_")) (consL (cD (.str "\t")) (consL (cD (.str "+")) (consL (cD (.str "(")) (consL (cD (.str "=")) (consL (cD (.str "~")) (consL (cD (.str "'")) (consL (cD (.str "Z")) nilL)))))))))))) nilL))) (sl14 x0 x2 (some (.str (Tx t))) x4 (some (.int (k : Nat))) x6 x7 x8 x9 x10 x11 x12 x13) μ2 = ok (.str (Tx v)) μ3 := by
      rw [callB_ok (consL_ok (x := .ref 1) rfl (consL_ok odd_lst nilL_ok))]
      simp only [callN, List.length_cons, List.length_nil, reduceIte]
      exact e3
    refine ⟨t.take k ++ v ++ t.drop k, some (.int (k : Nat)), μ3, ?_, ?_, s3⟩
    · refine (seqS_nx st1).trans ?_
      have sl1 : (sliceD (varD 3) noO (someO (varD 5))) (sl14 x0 x2 (some (.str (Tx t))) x4 (some (.int (k : Nat))) x6 x7 x8 x9 x10 x11 x12 x13) μ2 = ok (.str (Tx (t.take k))) μ2 := by
        simp only [lifA_run, runA_ok, runA_exc, seqS_run, seqR_nx, seqR_rt, seqR_ct, seqR_bk, seqR_exc, nxS_run, ctS_run, bkS_run, asgS, parS, retS, expS, ifS, setS, augS, varD, cD, binD, tstD, andB, orB, notB, truB, callB, callN, consL, nilL, meth0, bindR_ok, bindR_none, bindR_exc, bindT, bindTs, int2, cmpI, addD, addI, subI, mulX, mulD, mulI, fdivI, modI, dcInt, dcMax2, dcMin2, dcAbs, List.getElem?_cons_zero, List.getElem?_cons_succ, List.getElem?_nil, if_true, if_false, Bool.true_and, Bool.and_true, List.set_cons_zero, List.set_cons_succ, List.length_cons, List.length_nil, reduceIte, Nat.reduceAdd, Nat.reduceEqDiff, decide_true, decide_false, Bool.false_eq_true, sliceD, noO, someO, sl_tx lt_, cut_to hk']
      have sl2 : (sliceD (varD 3) (someO (varD 5)) noO) (sl14 x0 x2 (some (.str (Tx t))) x4 (some (.int (k : Nat))) x6 x7 x8 x9 x10 x11 x12 x13) μ3 = ok (.str (Tx (t.drop k))) μ3 := by
        simp only [lifA_run, runA_ok, runA_exc, seqS_run, seqR_nx, seqR_rt, seqR_ct, seqR_bk, seqR_exc, nxS_run, ctS_run, bkS_run, asgS, parS, retS, expS, ifS, setS, augS, varD, cD, binD, tstD, andB, orB, notB, truB, callB, callN, consL, nilL, meth0, bindR_ok, bindR_none, bindR_exc, bindT, bindTs, int2, cmpI, addD, addI, subI, mulX, mulD, mulI, fdivI, modI, dcInt, dcMax2, dcMin2, dcAbs, List.getElem?_cons_zero, List.getElem?_cons_succ, List.getElem?_nil, if_true, if_false, Bool.true_and, Bool.and_true, List.set_cons_zero, List.set_cons_succ, List.length_cons, List.length_nil, reduceIte, Nat.reduceAdd, Nat.reduceEqDiff, decide_true, decide_false, Bool.false_eq_true, sliceD, noO, someO, sl_tx lt_, cut_from hk']
      refine asgS_ok (d := .str (Tx (t.take k ++ v ++ t.drop k))) (μ1 := μ3) ?_ rfl
      rw [binD_ok (binD_ok sl1 ofe |>.trans (show addD _ _ _ = _ from a1)) sl2]
      exact a2
    · rw [List.length_append, List.length_append, List.length_take, List.length_drop]; omega
  · refine ⟨t, x5, μ1, ?_, by omega, s1.mono (by omega)⟩
    have c1 : (tstD (binD eqD (callB (callN 2 f__law_pick) (consL (varD 1) (consL (cD (.int 2)) nilL))) (cD (.int 0)))) (sl14 x0 x2 (some (.str (Tx t))) x4 x5 x6 x7 x8 x9 x10 x11 x12 x13) μ = ok false μ1 := by
      simp only [lifA_run, runA_ok, runA_exc, seqS_run, seqR_nx, seqR_rt, seqR_ct, seqR_bk, seqR_exc, nxS_run, ctS_run, bkS_run, asgS, parS, retS, expS, ifS, setS, augS, varD, cD, binD, tstD, andB, orB, notB, truB, callB, callN, consL, nilL, meth0, bindR_ok, bindR_none, bindR_exc, bindT, bindTs, int2, cmpI, addD, addI, subI, mulX, mulD, mulI, fdivI, modI, dcInt, dcMax2, dcMin2, dcAbs, List.getElem?_cons_zero, List.getElem?_cons_succ, List.getElem?_nil, if_true, if_false, Bool.true_and, Bool.and_true, List.set_cons_zero, List.set_cons_succ, List.length_cons, List.length_nil, reduceIte, Nat.reduceAdd, Nat.reduceEqDiff, decide_true, decide_false, Bool.false_eq_true, e1, eq_int, decide_eq_false hr]
    rw [ifS_f c1]
    rfl
theorem lap_ok (h : Sr B 1 0 μ) (hB : B + 100 < 2 ^ 39) : ∃ y3 y4 y5 y6 y7 y8 μ', lapB (sl14 x0 x2 x3 x4 x5 x6 x7 x8 x9 x10 x11 x12 x13) μ = some (.nx (sl14 x0 x2 y3 y4 y5 y6 y7 y8 x9 x10 x11 x12 x13) μ') ∧ Sr (B + 40) 1 0 μ' := by
  have hz := sizeLine_eq
  obtain ⟨n, μ1, e1, s1, hn⟩ := pick_s (many := 24) h (by omega) (by decide)
  have hn' : n ≤ 23 := by omega
  obtain ⟨t, y4, μ2, e2, ht, s2⟩ := text_ok (x0 := x0) (x2 := x2) (x4 := x4) (x5 := x5) (x6 := x6) (x7 := x7) (x8 := x8) (x9 := x9) (x10 := x10) (x11 := x11) (x12 := x12) (x13 := x13) (n := n) s1 (by omega) (by omega)
  obtain ⟨u, y5, μ3, e3, hu, s3⟩ := bent_ok (x0 := x0) (x2 := x2) (x4 := y4) (x5 := x5) (x6 := x6) (x7 := x7) (x8 := x8) (x9 := x9) (x10 := x10) (x11 := x11) (x12 := x12) (x13 := x13) (t := t) (by omega) s2 (by omega)
  have hul : u.length < sizeLine := by omega
  have r1 := read_ok (μ := μ3) u hul
  obtain ⟨z, e5⟩ := told_ok (μ := μ3 ++ [none]) u hul
  obtain ⟨p, hp, hs, hsz⟩ := told_pl u (by omega)
  have q1 := repr_pl (μ := μ3 ++ [none] ++ [z]) hp hs hsz
  obtain ⟨y7, hy7⟩ : ∃ y7, y7 = (match (lexS u).2 with | none => D.non | some w => .int (w : Nat)) := ⟨_, rfl⟩
  have s0 : asgS (cD (.str "")) (.nm 3) (sl14 x0 x2 x3 x4 x5 x6 x7 x8 x9 x10 x11 x12 x13) μ = some (.nx (sl14 x0 x2 (some (.str (Tx []))) x4 x5 x6 x7 x8 x9 x10 x11 x12 x13) μ) := by
    rw [← tx_nil]; rfl
  have g1 : rngSrc1 (consL (callB (callN 2 f__law_pick) (consL (varD 1) (consL (cD (.int 24)) nilL))) nilL) (sl14 x0 x2 (some (.str (Tx []))) x4 x5 x6 x7 x8 x9 x10 x11 x12 x13) μ = ok (.st (rngD 0 n)) μ1 := by
    refine rng1 ?_ (by omega)
    simp only [lifA_run, runA_ok, runA_exc, seqS_run, seqR_nx, seqR_rt, seqR_ct, seqR_bk, seqR_exc, nxS_run, ctS_run, bkS_run, asgS, parS, retS, expS, ifS, setS, augS, varD, cD, binD, tstD, andB, orB, notB, truB, callB, callN, consL, nilL, meth0, bindR_ok, bindR_none, bindR_exc, bindT, bindTs, int2, cmpI, addD, addI, subI, mulX, mulD, mulI, fdivI, modI, dcInt, dcMax2, dcMin2, dcAbs, List.getElem?_cons_zero, List.getElem?_cons_succ, List.getElem?_nil, if_true, if_false, Bool.true_and, Bool.and_true, List.set_cons_zero, List.set_cons_succ, List.length_cons, List.length_nil, reduceIte, Nat.reduceAdd, Nat.reduceEqDiff, decide_true, decide_false, Bool.false_eq_true, e1]
  have st2 := (forS_st (t := .nm 4) (body := asgS (binD addD (varD 3) (callB (callN 1 f__law_piece) (consL (varD 1) nilL))) (.nm 3)) g1).trans e2
  have st4 : (asgS (callB (callN 1 f__law_read) (consL (varD 3) nilL)) (.tp [(.nm 6), (.nm 7)])) (sl14 x0 x2 (some (.str (Tx u))) y4 y5 x6 x7 x8 x9 x10 x11 x12 x13) μ3 = some (.nx (sl14 x0 x2 (some (.str (Tx u))) y4 y5 (some (.lst (lexS u).1)) (some y7) x8 x9 x10 x11 x12 x13) (μ3 ++ [none])) := by
    simp only [lifA_run, runA_ok, runA_exc, seqS_run, seqR_nx, seqR_rt, seqR_ct, seqR_bk, seqR_exc, nxS_run, ctS_run, bkS_run, asgS, parS, retS, expS, ifS, setS, augS, varD, cD, binD, tstD, andB, orB, notB, truB, callB, callN, consL, nilL, meth0, bindR_ok, bindR_none, bindR_exc, bindT, bindTs, int2, cmpI, addD, addI, subI, mulX, mulD, mulI, fdivI, modI, dcInt, dcMax2, dcMin2, dcAbs, List.getElem?_cons_zero, List.getElem?_cons_succ, List.getElem?_nil, if_true, if_false, Bool.true_and, Bool.and_true, List.set_cons_zero, List.set_cons_succ, List.length_cons, List.length_nil, reduceIte, Nat.reduceAdd, Nat.reduceEqDiff, decide_true, decide_false, Bool.false_eq_true, r1, rdD, seqOf]
    rw [hy7]
    try rfl
  have st5 : (asgS (ifD (tstD (binD isD (varD 7) (cD .non))) (tupD (consL (cD (.str "told")) (consL (varD 6) nilL))) (tupD (consL (cD (.str "wrong")) (consL (varD 7) nilL)))) (.nm 8)) (sl14 x0 x2 (some (.str (Tx u))) y4 y5 (some (.lst (lexS u).1)) (some y7) x8 x9 x10 x11 x12 x13) (μ3 ++ [none]) = some (.nx (sl14 x0 x2 (some (.str (Tx u))) y4 y5 (some (.lst (lexS u).1)) (some y7) (some (toldD (lexS u))) x9 x10 x11 x12 x13) (μ3 ++ [none])) := by
    refine asgS_ok (d := toldD (lexS u)) (μ1 := μ3 ++ [none]) ?_ rfl
    unfold toldD
    cases e : (lexS u).2 with
    | none =>
      rw [e] at hy7
      subst hy7
      rw [ifD_t (μ1 := μ3 ++ [none]) rfl]
      exact tupD_ok rfl two_le
    | some w =>
      rw [e] at hy7
      subst hy7
      rw [ifD_f (μ1 := μ3 ++ [none]) rfl]
      exact tupD_ok rfl two_le
  refine ⟨some (.str (Tx u)), y4, y5, some (.lst (lexS u).1), some y7, some (toldD (lexS u)), μ3 ++ [none] ++ [z], ?_, ((s3.app [none]).app [z]).mono (by omega)⟩
  unfold lapB
  refine (seqS_nx s0).trans ((seqS_nx st2).trans ((seqS_nx e3).trans ((seqS_nx st4).trans ((seqS_nx st5).trans ?_))))
  have c : (tstD (binD neD (callB dcRepr (consL (callB (callN 1 f__law_told) (consL (varD 3) nilL)) nilL)) (callB dcRepr (consL (varD 8) nilL)))) (sl14 x0 x2 (some (.str (Tx u))) y4 y5 (some (.lst (lexS u).1)) (some y7) (some (toldD (lexS u))) x9 x10 x11 x12 x13) (μ3 ++ [none]) = ok false (μ3 ++ [none] ++ [z]) := by
    simp only [lifA_run, runA_ok, runA_exc, seqS_run, seqR_nx, seqR_rt, seqR_ct, seqR_bk, seqR_exc, nxS_run, ctS_run, bkS_run, asgS, parS, retS, expS, ifS, setS, augS, varD, cD, binD, tstD, andB, orB, notB, truB, callB, callN, consL, nilL, meth0, bindR_ok, bindR_none, bindR_exc, bindT, bindTs, int2, cmpI, addD, addI, subI, mulX, mulD, mulI, fdivI, modI, dcInt, dcMax2, dcMin2, dcAbs, List.getElem?_cons_zero, List.getElem?_cons_succ, List.getElem?_nil, if_true, if_false, Bool.true_and, Bool.and_true, List.set_cons_zero, List.set_cons_succ, List.length_cons, List.length_nil, reduceIte, Nat.reduceAdd, Nat.reduceEqDiff, decide_true, decide_false, Bool.false_eq_true, e5, q1, ne_strs, Bool.not_true]
  rw [ifS_f c]
  rfl
end
end Kn
end
section
namespace Kn
open PySem PySem.Spec L2 Pd
def nameB (n : Nat) : D → Bool
  | .str x => decide (x.cps.toList.length ≤ n) && x.cps.toList.all (fun c => decide (c < 0x110000))
  | _ => false
theorem name_of {n : Nat} {ds : List D} {x : D} (h : ds.all (nameB n) = true) (hx : x ∈ ds) : ∃ t : List Nat, x = .str (Tx t) ∧ t.length ≤ n ∧ ∀ c ∈ t, c < 0x110000 := by
  have := List.all_eq_true.mp h x hx
  cases x with
  | str s =>
    obtain ⟨h1, h2⟩ := Bool.and_eq_true_iff.mp this
    exact ⟨s.cps.toList, rfl, of_decide_eq_true h1, fun c hc => of_decide_eq_true (List.all_eq_true.mp h2 c hc)⟩
  | _ => cases this
noncomputable def lap2B : DS := (seqS (asgS (newD (lstD (consL (cD (.str "")) (consL (cD (.str "a")) (consL (cD (.str "z9")) (consL (cD (.str "9z")) (consL (cD (.str "abcdefghijkl")) (consL (cD (.str "abcdefghijklm")) (consL (cD (.str "a-b")) (consL (cD (.str "A")) (consL (cD (.str "to")) (consL (cD (.str "tov")) (consL (cD (.str "a b")) (consL (cD (.str "n")) nilL)))))))))))))) (.nm 10))
    (seqS (asgS (callB (callN 2 f__law_of) (consL (varD 1) (consL (varD 10) nilL))) (.nm 11))
    (seqS (ifS (tstD (binD eqD (callB (callN 2 f__law_pick) (consL (varD 1) (consL (cD (.int 3)) nilL))) (cD (.int 0))))
    (asgS (binD addD (varD 11) (callB (callN 2 f__law_of) (consL (varD 1) (consL (newD (lstD (consL (cD (.str "\n")) (consL (cD (.str "~")) (consL (cD (.str "1")) (consL (cD (.str "\t")) (consL (cD (.str " ")) (consL (binD mulX (cD (.str "x")) (cD (.int 9))) nilL)))))))) nilL)))) (.nm 11))
    nxS)
    (ifS (tstD (binD neD (callB dcRepr (consL (callB (callN 1 f_is_name) (consL (varD 11) nilL)) nilL)) (callB dcRepr (consL (callB (callN 1 f__law_is_name) (consL (varD 11) nilL)) nilL))))
    (retS (cD (.bl false)))
    nxS))))
abbrev nms : List D := [.str "", .str "a", .str "z9", .str "9z", .str "abcdefghijkl", .str "abcdefghijklm", .str "a-b", .str "A", .str "to", .str "tov", .str "a b", .str "n"]
abbrev ext : List D := [.str "\n", .str "~", .str "1", .str "\t", .str " ", .str (strRep "x" 9)]
theorem repr_bl {b : Bool} {μ : Mu} : dcRepr [.bl b] μ = ok (.str (PyData.shown (.bool b))) μ :=
  repr_pl (pl_bl b) rfl (by rw [sizeLine_eq]; simp [shSz])
end Kn
namespace Kn
open PySem PySem.Spec L2 Pd
section
variable {x0 x2 x3 x4 x5 x6 x7 x8 x9 x10 x11 x12 x13 : Option D} {B : Nat} {μ : Mu}
theorem ext_lst {sl : Sl} {μ : Mu} : (newD (lstD (consL (cD (.str "\n")) (consL (cD (.str "~")) (consL (cD (.str "1")) (consL (cD (.str "\t")) (consL (cD (.str " ")) (consL (binD mulX (cD (.str "x")) (cD (.int 9))) nilL)))))))) sl μ = ok (.lst ext) μ := by
  have m1 : mulS (.str "x") (.int 9) μ = ok (.str (strRep "x" 9)) μ := mulS_ok (by decide +kernel)
  refine newD_ok (lstD_ok (ds := ext) ?_ small_le)
  simp only [lifA_run, runA_ok, runA_exc, seqS_run, seqR_nx, seqR_rt, seqR_ct, seqR_bk, seqR_exc, nxS_run, ctS_run, bkS_run, asgS, parS, retS, expS, ifS, setS, augS, varD, cD, binD, tstD, andB, orB, notB, truB, callB, callN, consL, nilL, meth0, bindR_ok, bindR_none, bindR_exc, bindT, bindTs, int2, cmpI, addD, addI, subI, mulX, mulD, mulI, fdivI, modI, dcInt, dcMax2, dcMin2, dcAbs, List.getElem?_cons_zero, List.getElem?_cons_succ, List.getElem?_nil, if_true, if_false, Bool.true_and, Bool.and_true, List.set_cons_zero, List.set_cons_succ, List.length_cons, List.length_nil, reduceIte, Nat.reduceAdd, Nat.reduceEqDiff, decide_true, decide_false, Bool.false_eq_true, m1]
theorem lap2_ok (h : Sr B 1 0 μ) (hB : B + 100 < 2 ^ 39) : ∃ y11 μ', lap2B (sl14 x0 x2 x3 x4 x5 x6 x7 x8 x9 x10 x11 x12 x13) μ = some (.nx (sl14 x0 x2 x3 x4 x5 x6 x7 x8 x9 (some (.lst nms)) y11 x12 x13) μ') ∧ Sr (B + 3) 1 0 μ' := by
  have hz := sizeLine_eq
  have s0 : (asgS (newD (lstD (consL (cD (.str "")) (consL (cD (.str "a")) (consL (cD (.str "z9")) (consL (cD (.str "9z")) (consL (cD (.str "abcdefghijkl")) (consL (cD (.str "abcdefghijklm")) (consL (cD (.str "a-b")) (consL (cD (.str "A")) (consL (cD (.str "to")) (consL (cD (.str "tov")) (consL (cD (.str "a b")) (consL (cD (.str "n")) nilL)))))))))))))) (.nm 10)) (sl14 x0 x2 x3 x4 x5 x6 x7 x8 x9 x10 x11 x12 x13) μ = some (.nx (sl14 x0 x2 x3 x4 x5 x6 x7 x8 x9 (some (.lst nms)) x11 x12 x13) μ) :=
    asgS_ok (newD_ok (lstD_ok (ds := nms) rfl small_le)) rfl
  obtain ⟨x, μ1, e1, hx, s1, _⟩ := ofS (ds := nms) h (by omega) (by simp) (by decide)
  obtain ⟨v, rfl, hv, hc⟩ := name_of (n := 13) (by decide +kernel) hx
  rw [← of_same] at e1
  have st1 : (asgS (callB (callN 2 f__law_of) (consL (varD 1) (consL (varD 10) nilL))) (.nm 11)) (sl14 x0 x2 x3 x4 x5 x6 x7 x8 x9 (some (.lst nms)) x11 x12 x13) μ = some (.nx (sl14 x0 x2 x3 x4 x5 x6 x7 x8 x9 (some (.lst nms)) (some (.str (Tx v))) x12 x13) μ1) := by
    simp only [lifA_run, runA_ok, runA_exc, seqS_run, seqR_nx, seqR_rt, seqR_ct, seqR_bk, seqR_exc, nxS_run, ctS_run, bkS_run, asgS, parS, retS, expS, ifS, setS, augS, varD, cD, binD, tstD, andB, orB, notB, truB, callB, callN, consL, nilL, meth0, bindR_ok, bindR_none, bindR_exc, bindT, bindTs, int2, cmpI, addD, addI, subI, mulX, mulD, mulI, fdivI, modI, dcInt, dcMax2, dcMin2, dcAbs, List.getElem?_cons_zero, List.getElem?_cons_succ, List.getElem?_nil, if_true, if_false, Bool.true_and, Bool.and_true, List.set_cons_zero, List.set_cons_succ, List.length_cons, List.length_nil, reduceIte, Nat.reduceAdd, Nat.reduceEqDiff, decide_true, decide_false, Bool.false_eq_true, e1]
  obtain ⟨r, μ2, e2, s2, _⟩ := pick_s (many := 3) s1 (by omega) (by decide)
  have fin : ∀ (u : List Nat) (μ : Mu), u.length ≤ 1000 → (∀ c ∈ u, c < 0x110000) → (ifS (tstD (binD neD (callB dcRepr (consL (callB (callN 1 f_is_name) (consL (varD 11) nilL)) nilL)) (callB dcRepr (consL (callB (callN 1 f__law_is_name) (consL (varD 11) nilL)) nilL))))
    (retS (cD (.bl false))) nxS) (sl14 x0 x2 x3 x4 x5 x6 x7 x8 x9 (some (.lst nms)) (some (.str (Tx u))) x12 x13) μ = some (.nx (sl14 x0 x2 x3 x4 x5 x6 x7 x8 x9 (some (.lst nms)) (some (.str (Tx u))) x12 x13) μ) := fun u μ hu hc => by
    have c : (tstD (binD neD (callB dcRepr (consL (callB (callN 1 f_is_name) (consL (varD 11) nilL)) nilL)) (callB dcRepr (consL (callB (callN 1 f__law_is_name) (consL (varD 11) nilL)) nilL)))) (sl14 x0 x2 x3 x4 x5 x6 x7 x8 x9 (some (.lst nms)) (some (.str (Tx u))) x12 x13) μ = ok false μ := by
      simp only [lifA_run, runA_ok, runA_exc, seqS_run, seqR_nx, seqR_rt, seqR_ct, seqR_bk, seqR_exc, nxS_run, ctS_run, bkS_run, asgS, parS, retS, expS, ifS, setS, augS, varD, cD, binD, tstD, andB, orB, notB, truB, callB, callN, consL, nilL, meth0, bindR_ok, bindR_none, bindR_exc, bindT, bindTs, int2, cmpI, addD, addI, subI, mulX, mulD, mulI, fdivI, modI, dcInt, dcMax2, dcMin2, dcAbs, List.getElem?_cons_zero, List.getElem?_cons_succ, List.getElem?_nil, if_true, if_false, Bool.true_and, Bool.and_true, List.set_cons_zero, List.set_cons_succ, List.length_cons, List.length_nil, reduceIte, Nat.reduceAdd, Nat.reduceEqDiff, decide_true, decide_false, Bool.false_eq_true, is_name_ok u hu, law_name_ok u hu hc, repr_bl, ne_strs, Bool.not_true]
    rw [ifS_f c]
    rfl
  unfold lap2B
  by_cases hr : ((r : Nat) : Int) = 0
  · obtain ⟨x, μ3, e3, hx3, s3, _⟩ := ofS (ds := ext) s2 (by omega) (by simp) (by decide)
    obtain ⟨w, rfl, hw, hc3⟩ := name_of (n := 13) (by decide +kernel) hx3
    rw [← of_same] at e3
    have a1 : addS (.str (Tx v)) (.str (Tx w)) μ3 = ok (.str (Tx (v ++ w))) μ3 := by
      simp only [addS, tx_len, if_pos (show v.length + w.length ≤ sizeLine by omega), tx_app]
    have ofe : (callB (callN 2 f__law_of) (consL (varD 1) (consL (newD (lstD (consL (cD (.str "\n")) (consL (cD (.str "~")) (consL (cD (.str "1")) (consL (cD (.str "\t")) (consL (cD (.str " ")) (consL (binD mulX (cD (.str "x")) (cD (.int 9))) nilL)))))))) nilL))) (sl14 x0 x2 x3 x4 x5 x6 x7 x8 x9 (some (.lst nms)) (some (.str (Tx v))) x12 x13) μ2 = ok (.str (Tx w)) μ3 := by
      rw [callB_ok (consL_ok (x := .ref 1) rfl (consL_ok ext_lst nilL_ok))]
      simp only [callN, List.length_cons, List.length_nil, reduceIte]
      exact e3
    have c1 : (tstD (binD eqD (callB (callN 2 f__law_pick) (consL (varD 1) (consL (cD (.int 3)) nilL))) (cD (.int 0)))) (sl14 x0 x2 x3 x4 x5 x6 x7 x8 x9 (some (.lst nms)) (some (.str (Tx v))) x12 x13) μ1 = ok true μ2 := by
      simp only [lifA_run, runA_ok, runA_exc, seqS_run, seqR_nx, seqR_rt, seqR_ct, seqR_bk, seqR_exc, nxS_run, ctS_run, bkS_run, asgS, parS, retS, expS, ifS, setS, augS, varD, cD, binD, tstD, andB, orB, notB, truB, callB, callN, consL, nilL, meth0, bindR_ok, bindR_none, bindR_exc, bindT, bindTs, int2, cmpI, addD, addI, subI, mulX, mulD, mulI, fdivI, modI, dcInt, dcMax2, dcMin2, dcAbs, List.getElem?_cons_zero, List.getElem?_cons_succ, List.getElem?_nil, if_true, if_false, Bool.true_and, Bool.and_true, List.set_cons_zero, List.set_cons_succ, List.length_cons, List.length_nil, reduceIte, Nat.reduceAdd, Nat.reduceEqDiff, decide_true, decide_false, Bool.false_eq_true, e2, eq_int, decide_eq_true hr]
    refine ⟨some (.str (Tx (v ++ w))), μ3, ?_, s3⟩
    refine (seqS_nx s0).trans ((seqS_nx st1).trans ((seqS_nx (sl1 := sl14 x0 x2 x3 x4 x5 x6 x7 x8 x9 (some (.lst nms)) (some (.str (Tx (v ++ w)))) x12 x13) (μ1 := μ3) ?_).trans (fin (v ++ w) μ3 (by rw [List.length_append]; omega) fun c hcc => (List.mem_append.mp hcc).elim (hc c) (hc3 c))))
    rw [ifS_t c1]
    exact asgS_ok ((binD_ok (x := .str (Tx v)) (fa := varD 11) (μ1 := μ2) rfl ofe).trans (show addD (.str (Tx v)) (.str (Tx w)) μ3 = _ from a1)) rfl
  · have c1 : (tstD (binD eqD (callB (callN 2 f__law_pick) (consL (varD 1) (consL (cD (.int 3)) nilL))) (cD (.int 0)))) (sl14 x0 x2 x3 x4 x5 x6 x7 x8 x9 (some (.lst nms)) (some (.str (Tx v))) x12 x13) μ1 = ok false μ2 := by
      simp only [lifA_run, runA_ok, runA_exc, seqS_run, seqR_nx, seqR_rt, seqR_ct, seqR_bk, seqR_exc, nxS_run, ctS_run, bkS_run, asgS, parS, retS, expS, ifS, setS, augS, varD, cD, binD, tstD, andB, orB, notB, truB, callB, callN, consL, nilL, meth0, bindR_ok, bindR_none, bindR_exc, bindT, bindTs, int2, cmpI, addD, addI, subI, mulX, mulD, mulI, fdivI, modI, dcInt, dcMax2, dcMin2, dcAbs, List.getElem?_cons_zero, List.getElem?_cons_succ, List.getElem?_nil, if_true, if_false, Bool.true_and, Bool.and_true, List.set_cons_zero, List.set_cons_succ, List.length_cons, List.length_nil, reduceIte, Nat.reduceAdd, Nat.reduceEqDiff, decide_true, decide_false, Bool.false_eq_true, e2, eq_int, decide_eq_false hr]
    refine ⟨some (.str (Tx v)), μ2, ?_, s2.mono (by omega)⟩
    refine (seqS_nx s0).trans ((seqS_nx st1).trans ((seqS_nx (sl1 := sl14 x0 x2 x3 x4 x5 x6 x7 x8 x9 (some (.lst nms)) (some (.str (Tx v))) x12 x13) (μ1 := μ2) ?_).trans (fin v μ2 (by omega) hc)))
    rw [ifS_f c1]
    rfl
end
end Kn
end
section
namespace Kn
open PySem PySem.Spec L2 Pd
theorem lcL_none {own : Nat} {c : Sl → Mu → R Bool} {e : DE} {sl : Sl} {μ : Mu} : ∀ (ds acc : List D), (∀ d ∈ ds, c (sl.set own (some d)) μ = ok false μ) → lcL (fun _ => true) (.nm own) c e sl ds acc μ = ok (.lst acc) μ
  | [], acc, _ => by simp [lcL]
  | d :: ds, acc, h => by
    have h1 : c (sl.set own (some d)) μ = some (.ok false μ) := h d List.mem_cons_self
    rw [lcL]
    simp only [if_true, bindT]
    rw [h1]
    exact lcL_none ds acc fun x hx => h x (List.mem_cons_of_mem _ hx)
theorem kept_no : ∀ x ∈ v_KEPT, nmL x.cps.toList = false ∧ nmL (x.cps.toList ++ [120]) = true ∧ x.cps.toList.length ≤ 100 := by decide +kernel
end Kn
namespace Kn
open PySem PySem.Spec L2 Pd
theorem kept_list {x0 x2 x3 x4 x5 x6 x7 x8 x9 x10 x11 x12 x13 : Option D} {μ : Mu} :
    (newD (lcD [9] (seqSrc' (fun _ μ => f__law_kept [] μ)) (.nm 9) (orB (tstD (binD isnotD (callB (callN 1 f_is_name) (consL (varD 9) nilL)) (cD (.bl false)))) (tstD (binD isnotD (callB (callN 1 f_is_name) (consL (binD addD (varD 9) (cD (.str "x"))) nilL)) (cD (.bl true))))) (varD 9))) (sl14 x0 x2 x3 x4 x5 x6 x7 x8 x9 x10 x11 x12 x13) μ = ok (.lst []) μ := by
  have src : seqSrc' (fun _ μ => f__law_kept [] μ) (sl14 x0 x2 x3 x4 x5 x6 x7 x8 x9 x10 x11 x12 x13) μ = ok (.st (v_KEPT.map D.str)) μ := by
    unfold seqSrc'
    simp only [kept_ok]; rfl
  refine newD_ok ?_
  rw [lcD_st src]
  refine lcL_none _ _ fun d hd => ?_
  obtain ⟨x, hx, rfl⟩ := List.mem_map.mp hd
  obtain ⟨h1, h2, h3⟩ := kept_no x hx
  have n1 := is_name_ok (μ := μ) x.cps.toList (by omega)
  have n2 := is_name_ok (μ := μ) (x.cps.toList ++ [120]) (by rw [List.length_append, List.length_singleton]; omega)
  have ex : Tx x.cps.toList = x := rfl
  have a1 : addS (.str x) (.str "x") μ = ok (.str (Tx (x.cps.toList ++ [120]))) μ := by
    have := sizeLine_eq
    have e : Str.ofString "x" = Tx [120] := by kernel_rfl
    rw [e, ← ex]
    simp only [addS, tx_len, if_pos (show x.cps.toList.length + [120].length ≤ sizeLine by simp only [List.length_cons, List.length_nil]; omega), tx_app]
  rw [ex, h1] at n1
  rw [h2] at n2
  simp only [wipeD]
  simp only [lifA_run, runA_ok, runA_exc, seqS_run, seqR_nx, seqR_rt, seqR_ct, seqR_bk, seqR_exc, nxS_run, ctS_run, bkS_run, asgS, parS, retS, expS, ifS, setS, augS, varD, cD, binD, tstD, andB, orB, notB, truB, callB, callN, consL, nilL, meth0, bindR_ok, bindR_none, bindR_exc, bindT, bindTs, int2, cmpI, addD, addI, subI, mulX, mulD, mulI, fdivI, modI, dcInt, dcMax2, dcMin2, dcAbs, List.getElem?_cons_zero, List.getElem?_cons_succ, List.getElem?_nil, if_true, if_false, Bool.true_and, Bool.and_true, List.set_cons_zero, List.set_cons_succ, List.length_cons, List.length_nil, reduceIte, Nat.reduceAdd, Nat.reduceEqDiff, decide_true, decide_false, Bool.false_eq_true, n1, a1, n2, isnotD, Bool.not_true]
end Kn
end
section
namespace Kn
open PySem PySem.Spec L2 Pd
/-- the odd values are no names -/
abbrev odd2 : List D := [.int 1, .non, .tup [.str "a"], .lst [.str "a"], .bl true, .int 0, .dic [.inr "a"] [.int 1]]
theorem isi_no {d : D} {μ : Mu} {n : String} (h : tyNm μ d = some n) (hk : kitB n "str" = some false) : dcIsi [d, .cst (.ty "str")] μ = ok (.bl false) μ := by
  simp only [dcIsi, h, hk]
theorem no_name {d : D} {μ : Mu} (h : dcIsi [d, .cst (.ty "str")] μ = ok (.bl false) μ) : f_is_name [d] μ = ok (.bl false) μ := by
  refine bodyR_rt ?_
  show b_is_name [some d, none] μ = _
  unfold b_is_name
  have tr : truD μ (.bl false) = some false := rfl
  simp only [lifA_run, runA_ok, runA_exc, seqS_run, seqR_nx, seqR_rt, seqR_ct, seqR_bk, seqR_exc, nxS_run, ctS_run, bkS_run, asgS, parS, retS, expS, ifS, setS, augS, varD, cD, binD, tstD, andB, orB, notB, truB, callB, callN, consL, nilL, meth0, bindR_ok, bindR_none, bindR_exc, bindT, bindTs, int2, cmpI, addD, addI, subI, mulX, mulD, mulI, fdivI, modI, dcInt, dcMax2, dcMin2, dcAbs, List.getElem?_cons_zero, List.getElem?_cons_succ, List.getElem?_nil, if_true, if_false, Bool.true_and, Bool.and_true, List.set_cons_zero, List.set_cons_succ, List.length_cons, List.length_nil, reduceIte, Nat.reduceAdd, Nat.reduceEqDiff, decide_true, decide_false, Bool.false_eq_true, h, tr, Bool.not_false]
theorem odd_no {d : D} {μ : Mu} (h : d ∈ odd2) : f_is_name [d] μ = ok (.bl false) μ := by
  refine no_name ?_
  have k1 : kitB "int" "str" = some false := by kernel_rfl
  have k2 : kitB "NoneType" "str" = some false := by kernel_rfl
  have k3 : kitB "tuple" "str" = some false := by kernel_rfl
  have k4 : kitB "list" "str" = some false := by kernel_rfl
  have k5 : kitB "bool" "str" = some false := by kernel_rfl
  have k6 : kitB "dict" "str" = some false := by kernel_rfl
  simp only [List.mem_cons, List.not_mem_nil, or_false] at h
  rcases h with rfl | rfl | rfl | rfl | rfl | rfl | rfl
  · exact isi_no rfl k1
  · exact isi_no rfl k2
  · exact isi_no rfl k3
  · exact isi_no rfl k4
  · exact isi_no rfl k5
  · exact isi_no rfl k1
  · exact isi_no rfl k6
end Kn
end
section
namespace Kn
open PySem PySem.Spec L2 Pd
theorem foldl_rep (l : List Nat) : ∀ (n : Nat) (acc : List Nat), (List.replicate n l.toArray).foldl (· ++ ·) acc.toArray = (acc ++ (List.replicate n l).flatten).toArray
  | 0, acc => by simp
  | n + 1, acc => by
    rw [List.replicate_succ, List.foldl_cons, List.append_toArray, foldl_rep l n (acc ++ l), List.replicate_succ, List.flatten_cons, List.append_assoc]
theorem strRep_tx (l : List Nat) (n : Nat) : strRep (Tx l) n = Tx (List.replicate n l).flatten := by
  unfold strRep
  have := foldl_rep l n []
  rw [List.nil_append] at this
  exact congrArg Str.mk this
theorem b97 : bl 97 = false ∧ sg 97 = false ∧ lt 97 = true ∧ lt 32 = false ∧ bl 32 = true := by decide +kernel
theorem lex_rep : ∀ (n f k : Nat), 2 * n ≤ f → lexN f (List.replicate n [97, 32]).flatten k = ((List.range n).map fun j => tok "word" [97] (k + 2 * j), none)
  | 0, f, k, _ => by cases f <;> rfl
  | n + 1, f, k, h => by
    obtain ⟨g, rfl⟩ : ∃ g, f = g + 2 := ⟨f - 2, by omega⟩
    obtain ⟨h1, h2, h3, h4, h5⟩ := b97
    have e : (List.replicate (n + 1) [97, 32]).flatten = 97 :: 32 :: (List.replicate n [97, 32]).flatten := by rw [List.replicate_succ, List.flatten_cons]; rfl
    rw [e, lexN, if_neg (by rw [h1]; exact Bool.false_ne_true), if_neg (by rw [h2]; exact Bool.false_ne_true), if_pos h3]
    have tw : (97 :: 32 :: (List.replicate n [97, 32]).flatten).takeWhile lt = [97] := by
      rw [List.takeWhile_cons, if_pos h3, List.takeWhile_cons, if_neg (by rw [h4]; exact Bool.false_ne_true)]
    have dw : (97 :: 32 :: (List.replicate n [97, 32]).flatten).dropWhile lt = 32 :: (List.replicate n [97, 32]).flatten := by
      rw [List.dropWhile_cons, if_pos h3, List.dropWhile_cons, if_neg (by rw [h4]; exact Bool.false_ne_true)]
    rw [tw, dw, lexN, if_pos h5, lex_rep n g _ (by omega)]
    rw [List.range_succ_eq_map, List.map_cons, List.map_map]
    simp only [Prod.mk.injEq, List.cons.injEq, and_true, List.length_singleton, Nat.mul_zero, Nat.add_zero, true_and]
    refine List.map_congr_left fun j _ => ?_
    show tok "word" [97] (k + 1 + 1 + 2 * j) = tok "word" [97] (k + 2 * (j + 1))
    rw [show k + 1 + 1 + 2 * j = k + 2 * (j + 1) by omega]
end Kn
end
section
namespace Kn
open PySem PySem.Spec L2 Pd
theorem y121 : bl 121 = false ∧ sg 121 = false ∧ lt 121 = true := by decide +kernel
theorem tw_rep : ∀ n : Nat, (List.replicate n 121).takeWhile lt = List.replicate n 121 ∧ (List.replicate n 121).dropWhile lt = []
  | 0 => ⟨rfl, rfl⟩
  | n + 1 => by
    obtain ⟨h1, h2⟩ := tw_rep n
    rw [List.replicate_succ, List.takeWhile_cons, List.dropWhile_cons, if_pos y121.2.2, if_pos y121.2.2, h1, h2]
    exact ⟨rfl, rfl⟩
theorem lex_y (n : Nat) (hn : 0 < n) : lexS (List.replicate n 121) = ([tok "word" (List.replicate n 121) 0], none) := by
  obtain ⟨m, rfl⟩ : ∃ m, n = m + 1 := ⟨n - 1, by omega⟩
  obtain ⟨h1, h2, h3⟩ := y121
  obtain ⟨t1, t2⟩ := tw_rep (m + 1)
  unfold lexS
  rw [List.length_replicate]
  rw [List.replicate_succ] at t1 t2 ⊢
  rw [lexN, if_neg (by rw [h1]; exact Bool.false_ne_true), if_neg (by rw [h2]; exact Bool.false_ne_true), if_pos h3, t1, t2]
  cases m <;> rfl
theorem eq_toks {ds : List D} {ps : List PyData} {b : Nat} {μ : Mu} (h : Sh ds ps b) : eqD (.lst ds) (.lst ds) μ = ok (.bl true) μ ∧ neD (.lst ds) (.lst ds) μ = ok (.bl false) μ := by
  have pl : Pl (.lst ds) (.list ps) := ⟨by rw [pyD, h.py], by rw [PyData.canLay0]; exact h.lay, by rw [PyData.depth]; have := h.dep; omega⟩
  exact ⟨eqD_self pl, neD_self pl⟩
theorem cells_of {l : List Nat} (hl : l.length < 16000) : ∃ ps b, Sh (lexS l).1 ps b := by
  obtain ⟨ps, h⟩ := lexN_sh l.length l 0 (by omega)
  exact ⟨ps, _, h⟩
/-- lexemes(text), text told with nothing wrong -/
theorem lexemes_told {μ : Mu} (l : List Nat) (hz : l.length < 16000) {ds : List D} (h : lexS l = (ds, none)) : ∃ x, f_lexemes [.str (Tx l)] μ = ok (.lst ds) (μ ++ [x]) ∧ (∀ μ', eqD (.lst ds) (.lst ds) μ' = ok (.bl true) μ') ∧ ∀ μ', neD (.lst ds) (.lst ds) μ' = ok (.bl false) μ' := by
  have := sizeLine_eq
  obtain ⟨x, e⟩ := lexemes_ok (μ := μ) l (by omega)
  obtain ⟨ps, b, q⟩ := cells_of hz
  rw [h] at e q
  exact ⟨x, e, fun μ' => (eq_toks q).1, fun μ' => (eq_toks q).2⟩
end Kn
end
section
namespace Pd
open PySem PySem.Spec L2
/-! ### what is wanted of an outcome: steps taken backwards -/
def wS (N : Sl → Mu → Prop) (T : D → Mu → Prop) (B C : Sl → Mu → Prop) (X : Exn → Sl → Mu → Prop) : Option OutS → Prop
  | some (.nx sl μ) => N sl μ
  | some (.rt d μ) => T d μ
  | some (.bk sl μ) => B sl μ
  | some (.ct sl μ) => C sl μ
  | some (.exc x sl μ) => X x sl μ
  | none => False
def wQ {α : Type} (E : Exn → Mu → Prop) (Q : α → Mu → Prop) : R α → Prop
  | some (.ok a μ) => Q a μ
  | some (.exc x μ) => E x μ
  | none => False
abbrev nE : Exn → Mu → Prop := fun _ _ => False
section
variable {α β : Type} {E : Exn → Mu → Prop} {Q Q' : α → Mu → Prop} {N N' : Sl → Mu → Prop} {T T' : D → Mu → Prop} {B B' C C' : Sl → Mu → Prop} {X X' : Exn → Sl → Mu → Prop} {sl sl1 : Sl} {μ μ1 : Mu} {d x y : D} {fa fb fc : DE} {fl : DL} {g g' : D2} {s t : DS} {c bf bg : Sl → Mu → R Bool} {F : DC} {ds xs : List D} {n i : Nat}
theorem wQ_imp {r : R α} (h : wQ E Q r) (q : ∀ a μ, Q a μ → Q' a μ) : wQ E Q' r := by
  cases r with
  | none => exact h
  | some o => cases o with
    | ok a μ => exact q _ _ h
    | exc x μ => exact h
theorem wQ_ex {r : R α} (h : wQ nE Q r) : ∃ a μ', r = ok a μ' ∧ Q a μ' := by
  cases r with
  | none => exact h.elim
  | some o => cases o with
    | ok a μ => exact ⟨a, μ, rfl, h⟩
    | exc x μ => exact h.elim
/-- an outcome told by its steps -/
theorem wQ_is {r : R α} {a : α} (h : wQ nE (fun b μ' => b = a ∧ μ' = μ) r) : r = ok a μ := by
  obtain ⟨b, μ', e, rfl, rfl⟩ := wQ_ex h
  exact e
theorem w_ok {a : α} (h : Q a μ) : wQ E Q (ok a μ) := h
theorem w_eq {r r' : R α} (e : r = r') (h : wQ E Q r') : wQ E Q r := e ▸ h
theorem w_is {r : R α} {a : α} (e : r = ok a μ) (h : Q a μ) : wQ E Q r := by rw [e]; exact h
theorem w_bind {r : R β} {k : β → Mu → R α} (h : wQ E (fun a μ1 => wQ E Q (k a μ1)) r) : wQ E Q (bindR r k) := by
  cases r with
  | none => exact h
  | some o => cases o with
    | ok a μ => exact h
    | exc x μ => exact h
theorem w_var (e : sl[i]? = some (some d)) {Q : D → Mu → Prop} (h : Q d μ) : wQ E Q (varD i sl μ) := w_is (by unfold varD; rw [e]) h
theorem w_c {Q : D → Mu → Prop} (h : Q d μ) : wQ E Q (cD d sl μ) := h
theorem w_bin {Q : D → Mu → Prop} (h : wQ E (fun x μ1 => wQ E (fun y μ2 => wQ E Q (g x y μ2)) (fb sl μ1)) (fa sl μ)) : wQ E Q (binD g fa fb sl μ) := w_bind (wQ_imp h fun _ _ h => w_bind h)
theorem w_not {Q : Bool → Mu → Prop} (h : wQ E (fun b μ1 => Q (!b) μ1) (bf sl μ)) : wQ E Q (notB bf sl μ) := w_bind h
theorem w_tst {Q : Bool → Mu → Prop} (h : wQ E (fun d μ1 => ∃ b, d = .bl b ∧ Q b μ1) (fa sl μ)) : wQ E Q (tstD fa sl μ) := w_bind (wQ_imp h fun a μ h => by
  obtain ⟨b, rfl, h⟩ := h
  exact h)
theorem w_and {Q : Bool → Mu → Prop} (h : wQ E (fun b μ1 => if b = true then wQ E Q (bg sl μ1) else Q false μ1) (bf sl μ)) : wQ E Q (andB bf bg sl μ) := w_bind (wQ_imp h fun b μ h => by cases b <;> exact h)
theorem w_or {Q : Bool → Mu → Prop} (h : wQ E (fun b μ1 => if b = true then Q true μ1 else wQ E Q (bg sl μ1)) (bf sl μ)) : wQ E Q (orB bf bg sl μ) := w_bind (wQ_imp h fun b μ h => by cases b <;> exact h)
theorem w_andD {Q : D → Mu → Prop} (h : wQ E (fun d μ1 => ∃ b, d = .bl b ∧ if b = true then wQ E Q (fb sl μ1) else Q (.bl false) μ1) (fa sl μ)) : wQ E Q (andD fa fb sl μ) := w_bind (wQ_imp h fun d μ h => by
  obtain ⟨b, rfl, h⟩ := h
  cases b <;> exact h)
theorem w_orD {Q : D → Mu → Prop} (h : wQ E (fun d μ1 => ∃ b, d = .bl b ∧ if b = true then Q (.bl true) μ1 else wQ E Q (fb sl μ1)) (fa sl μ)) : wQ E Q (orD fa fb sl μ) := w_bind (wQ_imp h fun d μ h => by
  obtain ⟨b, rfl, h⟩ := h
  cases b <;> exact h)
theorem w_notD {Q : D → Mu → Prop} (h : wQ E (fun d μ1 => ∃ b, d = .bl b ∧ Q (.bl !b) μ1) (fa sl μ)) : wQ E Q (notD fa sl μ) := w_bind (wQ_imp h fun d μ h => by
  obtain ⟨b, rfl, h⟩ := h
  exact h)
theorem w_blD {Q : D → Mu → Prop} (h : wQ E (fun b μ1 => Q (.bl b) μ1) (bf sl μ)) : wQ E Q (blD bf sl μ) := w_bind h
theorem w_ifD {Q : D → Mu → Prop} (h : wQ E (fun b μ1 => if b = true then wQ E Q (fa sl μ1) else wQ E Q (fb sl μ1)) (c sl μ)) : wQ E Q (ifD c fa fb sl μ) := w_bind (wQ_imp h fun b μ h => by cases b <;> exact h)
theorem w_tru {Q : Bool → Mu → Prop} (h : wQ E (fun d μ1 => ∃ b, truD μ1 d = some b ∧ Q b μ1) (fa sl μ)) : wQ E Q (truB fa sl μ) := w_bind (wQ_imp h fun d μ h => by
  obtain ⟨b, e, h⟩ := h
  simp only [e]
  exact h)
theorem w_ch {Q : D → Mu → Prop} (h : wQ E (fun x μ1 => wQ E (fun y μ2 => wQ E (fun z μ3 => ∃ b, z = .bl b ∧ if b = true then wQ E (fun w μ4 => wQ E Q (g' y w μ4)) (fc sl μ3) else Q (.bl false) μ3) (g x y μ2)) (fb sl μ1)) (fa sl μ)) : wQ E Q (chD g g' fa fb fc sl μ) :=
  w_bind (wQ_imp h fun x μ h => w_bind (wQ_imp h fun y μ h => w_bind (wQ_imp h fun z μ h => by
    obtain ⟨b, rfl, h⟩ := h
    cases b
    · exact h
    · exact w_bind h)))
theorem w_nil {Q : List D → Mu → Prop} (h : Q [] μ) : wQ E Q (nilL sl μ) := h
theorem w_cons {Q : List D → Mu → Prop} (h : wQ E (fun d μ1 => wQ E (fun es μ2 => Q (d :: es) μ2) (fl sl μ1)) (fa sl μ)) : wQ E Q (consL fa fl sl μ) := w_bind (wQ_imp h fun d μ h => w_bind h)
theorem w_stL {Q : List D → Mu → Prop} (h : wQ E (fun d μ1 => ∃ xs, seqOf μ1 d = some xs ∧ wQ E (fun es μ2 => Q (xs ++ es) μ2) (fl sl μ1)) (fa sl μ)) : wQ E Q (stL fa fl sl μ) := w_bind (wQ_imp h fun d μ h => by
  obtain ⟨xs, e, h⟩ := h
  simp only [e]
  exact w_bind h)
theorem w_tup {Q : D → Mu → Prop} (h : wQ E (fun ds μ1 => ds.length ≤ sizeLine ∧ Q (.tup ds) μ1) (fl sl μ)) : wQ E Q (tupD fl sl μ) := w_bind (wQ_imp h fun ds μ h => by
  simp only [if_pos h.1]; exact h.2)
theorem w_lst {Q : D → Mu → Prop} (h : wQ E (fun ds μ1 => ds.length ≤ sizeLine ∧ Q (.lst ds) μ1) (fl sl μ)) : wQ E Q (lstD fl sl μ) := w_bind (wQ_imp h fun ds μ h => by
  simp only [if_pos h.1]; exact h.2)
/-- a new list, dict as plain data -/
theorem w_new {Q : D → Mu → Prop} (h : wQ E (fun d μ1 => ((∃ ds, d = .lst ds) ∨ (∃ ks ds, d = .dic ks ds) ∨ ∃ ks ds, d = .dit ks ds) ∧ Q d μ1) (fa sl μ)) : wQ E Q (newD fa sl μ) := w_bind (wQ_imp h fun d μ h => by
  obtain ⟨h1, h⟩ := h
  rcases h1 with ⟨_, rfl⟩ | ⟨_, _, rfl⟩ | ⟨_, _, rfl⟩ <;> exact h)
theorem w_box {Q : D → Mu → Prop} (h : wQ E (fun d μ1 => ∃ c, ((∃ ds, d = .lst ds ∧ c = .lst ds) ∨ (∃ ks ds, d = .dic ks ds ∧ c = .dic ks ds) ∨ ∃ ks ds, d = .dit ks ds ∧ c = .dit ks ds) ∧ Q (.ref μ1.length) (μ1 ++ [some c])) (fa sl μ)) : wQ E Q (boxD fa sl μ) := w_bind (wQ_imp h fun d μ h => by
  obtain ⟨c, h1, h⟩ := h
  rcases h1 with ⟨_, rfl, rfl⟩ | ⟨_, _, rfl, rfl⟩ | ⟨_, _, rfl, rfl⟩ <;> exact h)
theorem w_newL {Q : D → Mu → Prop} (h : wQ E (fun d μ1 => ∃ ds, d = .lst ds ∧ Q (.lst ds) μ1) (fa sl μ)) : wQ E Q (newD fa sl μ) := w_new (wQ_imp h fun d μ h => by
  obtain ⟨ds, rfl, h⟩ := h
  exact ⟨.inl ⟨_, rfl⟩, h⟩)
theorem w_boxL {Q : D → Mu → Prop} (h : wQ E (fun d μ1 => ∃ ds, d = .lst ds ∧ Q (.ref μ1.length) (μ1 ++ [some (.lst ds)])) (fa sl μ)) : wQ E Q (boxD fa sl μ) := w_box (wQ_imp h fun d μ h => by
  obtain ⟨ds, rfl, h⟩ := h
  exact ⟨.lst ds, .inl ⟨_, rfl, rfl⟩, h⟩)
theorem w_frz {Q : D → Mu → Prop} (h : wQ E (fun d μ1 => ∃ l ds, d = .ref l ∧ μ1[l]? = some (some (.lst ds)) ∧ Q (.lst ds) (μ1.set l none)) (fa sl μ)) : wQ E Q (frzD fa sl μ) := w_bind (wQ_imp h fun d μ h => by
  obtain ⟨l, ds, rfl, e, h⟩ := h
  simp only [e]
  exact h)
theorem w_call {Q : D → Mu → Prop} (h : wQ E (fun ds μ1 => wQ E Q (F ds μ1)) (fl sl μ)) : wQ E Q (callB F fl sl μ) := w_bind h
theorem w_callN {Q : D → Mu → Prop} (hn : ds.length = n) (h : wQ E Q (F ds μ)) : wQ E Q (callN n F ds μ) := w_eq (callN_ok hn) h
theorem w_un {Q : D → Mu → Prop} {k : D → Mu → R D} (h : wQ E (fun d μ1 => wQ E Q (k d μ1)) (fa sl μ)) : wQ E Q (unD k fa sl μ) := w_bind h
theorem w_meth0 {Q : D → Mu → Prop} {ty : Ty} {m : DM} (h : wQ E (fun d μ1 => tyD ty μ1 d = true ∧ wQ E Q (m d [] μ1)) (fa sl μ)) : wQ E Q (meth0 ty m fa sl μ) := w_bind (wQ_imp h fun d μ h => by
  simp only [if_pos h.1]; exact h.2)
theorem w_methB {Q : D → Mu → Prop} {ty : Ty} {m : DM} (h : wQ E (fun d μ1 => tyD ty μ1 d = true ∧ wQ E (fun ds μ2 => wQ E Q (m d ds μ2)) (fl sl μ1)) (fa sl μ)) : wQ E Q (methB ty m fa fl sl μ) := w_bind (wQ_imp h fun d μ h => by
  simp only [if_pos h.1]; exact w_bind h.2)
theorem w_noO {Q : Option Int → Mu → Prop} (h : Q none μ) : wQ E Q (noO sl μ) := h
theorem w_someO {Q : Option Int → Mu → Prop} (h : wQ E (fun d μ1 => ∃ i, d = .int i ∧ Q (some i) μ1) (fa sl μ)) : wQ E Q (someO fa sl μ) := w_bind (wQ_imp h fun d μ h => by
  obtain ⟨i, rfl, h⟩ := h
  exact h)
theorem w_slice {Q : D → Mu → Prop} {lo hi : DO} (h : wQ E (fun d μ1 => wQ E (fun a μ2 => wQ E (fun b μ3 => wQ E Q (slD d a b μ3)) (hi sl μ2)) (lo sl μ1)) (fa sl μ)) : wQ E Q (sliceD fa lo hi sl μ) :=
  w_bind (wQ_imp h fun _ _ h => w_bind (wQ_imp h fun _ _ h => w_bind h))
theorem w_rev {Q : D → Mu → Prop} (h : wQ E (fun d μ1 => ∃ ds, lstOf μ1 d = some ds ∧ Q (.lst ds.reverse) μ1) (fa sl μ)) : wQ E Q (revL fa sl μ) := w_bind (wQ_imp h fun d μ h => by
  obtain ⟨ds, e, h⟩ := h
  simp only [e]; exact h)
theorem w_pair0 {Q : List (Key × D) → Mu → Prop} (h : Q [] μ) : wQ E Q (pairD [] sl μ) := h
theorem w_pairC {ps : List (DE × DE)} {Q : List (Key × D) → Mu → Prop} (h : wQ E (fun x μ1 => wQ E (fun y μ2 => ∃ k, keyOf x = some k ∧ wQ E (fun ps μ3 => Q ((k, y) :: ps) μ3) (pairD ps sl μ2)) (fb sl μ1)) (fa sl μ)) : wQ E Q (pairD ((fa, fb) :: ps) sl μ) :=
  w_bind (wQ_imp h fun _ _ h => w_bind (wQ_imp h fun _ _ h => by
    obtain ⟨k, e, h⟩ := h
    simp only [e]; exact w_bind h))
theorem w_disp {ps : List (DE × DE)} {Q : D → Mu → Prop} (h : wQ E (fun qs μ1 => qs.length ≤ 15 ∧ Q (.dic (mergD [] [] qs).1 (mergD [] [] qs).2) μ1) (pairD ps sl μ)) : wQ E Q (dispD ps sl μ) := w_bind (wQ_imp h fun _ _ h => by
  simp only [if_pos h.1]; exact h.2)
theorem w_newDisp {ps : List (DE × DE)} {Q : D → Mu → Prop} (h : wQ E (fun qs μ1 => qs.length ≤ 15 ∧ Q (.dic (mergD [] [] qs).1 (mergD [] [] qs).2) μ1) (pairD ps sl μ)) : wQ E Q (newD (dispD ps) sl μ) := w_new (w_disp (wQ_imp h fun _ _ h => ⟨h.1, .inr (.inl ⟨_, _, rfl⟩), h.2⟩))
theorem w_newEmp {Q : D → Mu → Prop} (h : Q (.dic [] []) μ) : wQ E Q (newD emptyD sl μ) := h
theorem w_boxEmp {Q : D → Mu → Prop} (h : Q (.ref μ.length) (μ ++ [some (.dic [] [])])) : wQ E Q (boxD emptyD sl μ) := h
/-! sources -/
theorem w_seqSrc {Q : Src → Mu → Prop} (h : wQ E (fun d μ1 => ∃ ds, seqOf μ1 d = some ds ∧ Q (mkSrc (fixD d) ds (ckS d ds)) μ1) (fa sl μ)) : wQ E Q (seqSrc' fa sl μ) := w_bind (wQ_imp h fun d μ h => by
  obtain ⟨ds, e, h⟩ := h
  simp only [e]; exact h)
/-- .. that can't change -/
theorem w_seqSt {Q : Src → Mu → Prop} (h : wQ E (fun d μ1 => ∃ ds, seqOf μ1 d = some ds ∧ fixD d = true ∧ Q (.st ds) μ1) (fa sl μ)) : wQ E Q (seqSrc' fa sl μ) := w_seqSrc (wQ_imp h fun d μ h => by
  obtain ⟨ds, e, e2, h⟩ := h
  refine ⟨ds, e, ?_⟩
  rw [e2]; exact h)
theorem w_zipSt {Q : Src → Mu → Prop} {b : Bool} (h : wQ E (fun ds μ1 => ∃ x y xs ys, ds = [x, y] ∧ seqOf μ1 x = some xs ∧ seqOf μ1 y = some ys ∧ (fixD x = true ∧ fixD y = true) ∧ (b = true → xs.length = ys.length) ∧ Q (.st (zipD xs ys)) μ1) (fl sl μ)) : wQ E Q (zipSrc b fl sl μ) := w_bind (wQ_imp h fun ds μ h => by
  obtain ⟨x, y, xs, ys, rfl, e1, e2, e3, e4, h⟩ := h
  simp only [e1, e2, e3.1, e3.2, if_pos e4]; exact h)
theorem w_enSt {Q : Src → Mu → Prop} (h : wQ E (fun d μ1 => ∃ ds, seqOf μ1 d = some ds ∧ fixD d = true ∧ Q (.st (enumF 0 ds)) μ1) (fa sl μ)) : wQ E Q (enSrc fa sl μ) := w_bind (wQ_imp h fun d μ h => by
  obtain ⟨ds, e, e2, h⟩ := h
  simp only [e, e2]; exact h)
theorem w_rng1 {Q : Src → Mu → Prop} (h : wQ E (fun ds μ1 => ∃ j, ds = [.int j] ∧ (j < 2 ^ 62 ∧ -(2 ^ 62) ≤ j) ∧ Q (.st (rngD 0 j.toNat)) μ1) (fl sl μ)) : wQ E Q (rngSrc1 fl sl μ) := w_bind (wQ_imp h fun ds μ h => by
  obtain ⟨j, rfl, e, h⟩ := h
  simp only [if_pos e]; exact h)
theorem w_rng2 {Q : Src → Mu → Prop} (h : wQ E (fun ds μ1 => ∃ i j, ds = [.int i, .int j] ∧ ((-(2 ^ 62) ≤ i ∧ i < 2 ^ 62) ∧ -(2 ^ 62) ≤ j ∧ j < 2 ^ 62) ∧ Q (.st (rngD i (j - i).toNat)) μ1) (fl sl μ)) : wQ E Q (rngSrc2 fl sl μ) := w_bind (wQ_imp h fun ds μ h => by
  obtain ⟨i, j, rfl, e, h⟩ := h
  simp only [if_pos e]; exact h)
/-! comprehensions -/
theorem w_lcD {own : List Nat} {src : Sl → Mu → R Src} {tg : Tg} {Q : D → Mu → Prop} (h : wQ E (fun s μ1 => wQ E Q (lcL s.g tg c fa (wipeD sl own) s.ds [] μ1)) (src sl μ)) : wQ E Q (lcD own src tg c fa sl μ) := w_bind h
/-- by what has been found so far -/
theorem w_lcL {tg : Tg} {Q : D → Mu → Prop} (I : Nat → List D → Mu → Prop) : ∀ (ds : List D) (k : Nat) (acc : List D) (μ : Mu), I k acc μ →
    (∀ j d acc μ, ds[j]? = some d → I (k + j) acc μ → ∃ sl1, bindT μ tg d sl = some sl1 ∧ wQ nE (fun b μ1 => if b = true then wQ nE (fun y μ2 => acc.length < sizeLine ∧ I (k + j + 1) (acc ++ [y]) μ2) (fa sl1 μ1) else I (k + j + 1) acc μ1) (c sl1 μ)) →
    (∀ acc μ, I (k + ds.length) acc μ → Q (.lst acc) μ) → wQ E Q (lcL (fun _ => true) tg c fa sl ds acc μ)
  | [], k, acc, μ, h0, _, hq => by
    rw [lcL, if_pos rfl]
    exact hq _ _ h0
  | d :: ds, k, acc, μ, h0, hs, hq => by
    obtain ⟨sl1, e, h⟩ := hs 0 d acc μ rfl h0
    obtain ⟨b, μ1, e1, h⟩ := wQ_ex h
    have go : ∀ acc μ, I (k + 1) acc μ → wQ E Q (lcL (fun _ => true) tg c fa sl ds acc μ) := fun acc μ h1 => w_lcL I ds (k + 1) acc μ h1
      (fun j d acc μ hj hi => by
        have := hs (j + 1) d acc μ (by simpa using hj) (by rw [show k + (j + 1) = k + 1 + j by omega]; exact hi)
        rw [show k + (j + 1) = k + 1 + j by omega] at this
        exact this)
      fun acc μ h => hq acc μ (by rw [List.length_cons, show k + (ds.length + 1) = k + 1 + ds.length by omega]; exact h)
    rw [lcL, if_pos rfl]
    simp only [e, e1, ok]
    cases b with
    | false =>
      exact go _ _ h
    | true =>
      obtain ⟨y, μ2, e2, h1, h2⟩ := wQ_ex (show wQ nE _ _ from h)
      simp only [e2, ok, if_pos h1]
      exact go _ _ h2
/-- one for each, the store as it is -/
theorem w_lcMap {tg : Tg} {Q : D → Mu → Prop} (f : D → D) (he : ∀ d ∈ ds, ∃ sl1, bindT μ tg d sl = some sl1 ∧ fa sl1 μ = ok (f d) μ) (hz : ds.length ≤ sizeLine) (hq : Q (.lst (ds.map f)) μ) : wQ E Q (lcL (fun _ => true) tg yesB fa sl ds [] μ) := by
  refine w_lcL (fun j acc μ' => μ' = μ ∧ acc = (ds.take j).map f) ds 0 [] μ ⟨rfl, by simp⟩ (fun j d acc μ' hj h => ?_) fun acc μ' h => ?_
  · obtain ⟨rfl, rfl⟩ := h
    obtain ⟨sl1, e, e2⟩ := he d (List.mem_of_getElem? hj)
    refine ⟨sl1, e, ?_⟩
    show wQ nE _ (ok true μ')
    refine w_ok (w_is e2 ⟨?_, rfl, ?_⟩)
    · have := (List.getElem?_eq_some_iff.mp hj).1
      simp only [List.length_map, List.length_take]; omega
    · simp only [Nat.zero_add]
      rw [List.take_succ, hj, List.map_append]; rfl
  · obtain ⟨rfl, rfl⟩ := h
    rw [Nat.zero_add, List.take_length]; exact hq
/-- those of which something holds -/
theorem w_lcFilter {tg : Tg} {Q : D → Mu → Prop} (p : D → Bool) (f : D → D) (he : ∀ d ∈ ds, ∃ sl1, bindT μ tg d sl = some sl1 ∧ c sl1 μ = ok (p d) μ ∧ (p d = true → fa sl1 μ = ok (f d) μ)) (hz : ds.length ≤ sizeLine) (hq : Q (.lst ((ds.filter p).map f)) μ) : wQ E Q (lcL (fun _ => true) tg c fa sl ds [] μ) := by
  refine w_lcL (fun j acc μ' => μ' = μ ∧ acc = ((ds.take j).filter p).map f) ds 0 [] μ ⟨rfl, by simp⟩ (fun j d acc μ' hj h => ?_) fun acc μ' h => ?_
  · obtain ⟨rfl, rfl⟩ := h
    obtain ⟨sl1, e, e1, e2⟩ := he d (List.mem_of_getElem? hj)
    refine ⟨sl1, e, w_is e1 ?_⟩
    have ht : List.take (0 + j + 1) ds = List.take (0 + j) ds ++ [d] := by rw [List.take_succ, Nat.zero_add, hj]; rfl
    cases hp : p d with
    | false =>
      rw [if_neg Bool.false_ne_true]
      refine ⟨rfl, ?_⟩
      rw [ht, List.filter_append, List.filter_cons_of_neg (by simp [hp])]; simp
    | true =>
      rw [if_pos rfl]
      refine w_is (e2 hp) ⟨?_, rfl, ?_⟩
      · have := (List.getElem?_eq_some_iff.mp hj).1
        have h3 := List.length_filter_le p (List.take (0 + j) ds)
        rw [List.length_take] at h3
        rw [List.length_map]; omega
      · rw [ht, List.filter_append, List.filter_cons_of_pos hp, List.map_append]; rfl
  · obtain ⟨rfl, rfl⟩ := h
    rw [Nat.zero_add, List.take_length]; exact hq
/-! statements -/
theorem wS_imp {o : Option OutS} (h : wS N T B C X o) (h1 : ∀ sl μ, N sl μ → N' sl μ) (h2 : ∀ d μ, T d μ → T' d μ) (h3 : ∀ sl μ, B sl μ → B' sl μ) (h4 : ∀ sl μ, C sl μ → C' sl μ) (h5 : ∀ x sl μ, X x sl μ → X' x sl μ) : wS N' T' B' C' X' o := by
  cases o with
  | none => exact h
  | some o => cases o with
    | nx => exact h1 _ _ h
    | rt => exact h2 _ _ h
    | bk => exact h3 _ _ h
    | ct => exact h4 _ _ h
    | exc => exact h5 _ _ _ h
theorem w_lif {f : Sl → Mu → R α} {k : Sl → α → Mu → Option OutS} (h : wQ (fun x μ' => X x sl μ') (fun a μ' => wS N T B C X (k sl a μ')) (f sl μ)) : wS N T B C X (lifA f k sl μ) := by
  unfold lifA
  cases hf : f sl μ with
  | none => rw [hf] at h; exact h
  | some o => cases o with
    | ok a μ' => rw [hf] at h; exact h
    | exc x μ' => rw [hf] at h; exact h
theorem w_seq (h : wS (fun sl μ => wS N T B C X (t sl μ)) T B C X (s sl μ)) : wS N T B C X (seqS s t sl μ) := by
  unfold seqS
  cases hf : s sl μ with
  | none => rw [hf] at h; exact h
  | some o => rw [hf] at h; cases o <;> exact h
theorem w_nx (h : N sl μ) : wS N T B C X (nxS sl μ) := h
theorem w_bk (h : B sl μ) : wS N T B C X (bkS sl μ) := h
theorem w_ct (h : C sl μ) : wS N T B C X (ctS sl μ) := h
theorem w_retN (h : T .non μ) : wS N T B C X (retN sl μ) := h
theorem w_ret (h : wQ (fun x μ' => X x sl μ') T (fa sl μ)) : wS N T B C X (retS fa sl μ) := w_lif (wQ_imp h fun _ _ h => h)
theorem w_exp (h : wQ (fun x μ' => X x sl μ') (fun _ μ' => N sl μ') (fa sl μ)) : wS N T B C X (expS fa sl μ) := w_lif (wQ_imp h fun _ _ h => h)
theorem w_if (h : wQ (fun x μ' => X x sl μ') (fun b μ' => if b = true then wS N T B C X (s sl μ') else wS N T B C X (t sl μ')) (c sl μ)) : wS N T B C X (ifS c s t sl μ) := w_lif (wQ_imp h fun b _ h => by cases b <;> exact h)
theorem w_asg {tg : Tg} (h : wQ (fun x μ' => X x sl μ') (fun d μ' => ∃ sl1, bindT μ' tg d sl = some sl1 ∧ N sl1 μ') (fa sl μ)) : wS N T B C X (asgS fa tg sl μ) := w_lif (wQ_imp h fun d μ h => by
  obtain ⟨sl1, e, h⟩ := h
  simp only [e]; exact h)
theorem w_asgN (h : wQ (fun x μ' => X x sl μ') (fun d μ' => N (sl.set i (some d)) μ') (fa sl μ)) : wS N T B C X (asgS fa (.nm i) sl μ) := w_asg (wQ_imp h fun d μ h => ⟨_, rfl, h⟩)
theorem w_par {is : List Nat} (h : wQ (fun x μ' => X x sl μ') (fun ds μ' => ∃ sl1, bindTs μ' (is.map Tg.nm) ds sl = some sl1 ∧ N sl1 μ') (fl sl μ)) : wS N T B C X (parS is fl sl μ) := w_lif (wQ_imp h fun d μ h => by
  obtain ⟨sl1, e, h⟩ := h
  simp only [e]; exact h)
theorem w_aug (h : wQ (fun x μ' => X x sl μ') (fun x μ1 => wQ (fun x μ' => X x sl μ') (fun y μ2 => wQ (fun x μ' => X x sl μ') (fun d μ3 => N (sl.set i (some d)) μ3) (g x y μ2)) (fa sl μ1)) (varD i sl μ)) : wS N T B C X (augS i g fa sl μ) :=
  w_lif (w_bind (wQ_imp h fun _ _ h => w_bind (wQ_imp h fun _ _ h => wQ_imp h fun _ _ h => h)))
theorem w_set (h : wQ (fun x μ' => X x sl μ') (fun v μ1 => wQ (fun x μ' => X x sl μ') (fun x μ2 => wQ (fun x μ' => X x sl μ') (fun y μ3 => ∃ μ4, setD x y v μ3 = some μ4 ∧ N sl μ4) (fc sl μ2)) (fb sl μ1)) (fa sl μ)) : wS N T B C X (setS fa fb fc sl μ) :=
  w_lif (w_bind (wQ_imp h fun _ _ h => w_bind (wQ_imp h fun _ _ h => w_bind (wQ_imp h fun _ _ h => by
    obtain ⟨μ4, e, h⟩ := h
    simp only [e]; exact h))))
theorem w_for {src : Sl → Mu → R Src} {tg : Tg} (h : wQ (fun x μ' => X x sl μ') (fun s μ' => wS N T B C X (forL s.g tg t s.ds sl μ')) (src sl μ)) : wS N T B C X (forS src tg t sl μ) := w_lif h
/-- a loop by an invariant -/
theorem w_forL {tg : Tg} {gd : Mu → Bool} (I : Nat → Sl → Mu → Prop) : ∀ (ds : List D) (k : Nat) (sl : Sl) (μ : Mu), I k sl μ → (∀ j sl μ, j ≤ ds.length → I (k + j) sl μ → gd μ = true) →
    (∀ j d sl μ, ds[j]? = some d → I (k + j) sl μ → ∃ sl1, bindT μ tg d sl = some sl1 ∧ wS (I (k + j + 1)) T N (I (k + j + 1)) X (t sl1 μ)) →
    (∀ sl μ, I (k + ds.length) sl μ → N sl μ) → wS N T B C X (forL gd tg t ds sl μ)
  | [], k, sl, μ, h0, hg, _, hq => by
    rw [forL, if_pos (hg 0 sl μ (Nat.le_refl _) h0)]
    exact hq _ _ h0
  | d :: ds, k, sl, μ, h0, hg, hs, hq => by
    obtain ⟨sl1, e, h⟩ := hs 0 d sl μ rfl h0
    have go : ∀ sl μ, I (k + 1) sl μ → wS N T B C X (forL gd tg t ds sl μ) := fun sl μ h1 => w_forL I ds (k + 1) sl μ h1
      (fun j sl μ hj hi => hg (j + 1) sl μ (by simpa using hj) (by rw [show k + (j + 1) = k + 1 + j by omega]; exact hi))
      (fun j d sl μ hj hi => by
        have := hs (j + 1) d sl μ (by simpa using hj) (by rw [show k + (j + 1) = k + 1 + j by omega]; exact hi)
        rw [show k + (j + 1) = k + 1 + j by omega] at this
        exact this)
      fun sl μ h => hq sl μ (by rw [List.length_cons, show k + (ds.length + 1) = k + 1 + ds.length by omega]; exact h)
    rw [forL, if_pos (hg 0 sl μ (Nat.zero_le _) h0)]
    simp only [e]
    cases hb : t sl1 μ with
    | none => rw [hb] at h; exact h.elim
    | some o =>
      rw [hb] at h
      cases o with
      | nx sl2 μ2 => exact go _ _ h
      | ct sl2 μ2 => exact go _ _ h
      | bk sl2 μ2 => exact h
      | rt d μ2 => exact h
      | exc x sl2 μ2 => exact h
/-- .. over what can't change -/
theorem w_forSt {tg : Tg} (I : Nat → Sl → Mu → Prop) (h0 : I 0 sl μ)
    (hs : ∀ j d sl μ, ds[j]? = some d → I j sl μ → ∃ sl1, bindT μ tg d sl = some sl1 ∧ wS (I (j + 1)) T N (I (j + 1)) X (t sl1 μ))
    (hq : ∀ sl μ, I ds.length sl μ → N sl μ) : wS N T B C X (forL (fun _ => true) tg t ds sl μ) :=
  w_forL I ds 0 sl μ h0 (fun _ _ _ _ _ => rfl) (fun j d sl μ hj h => by rw [Nat.zero_add] at h ⊢; exact hs j d sl μ hj h) (fun sl μ h => by rw [Nat.zero_add] at h; exact hq sl μ h)
/-- a while by a measure -/
theorem w_whF (I : Nat → Sl → Mu → Prop) (hs : ∀ n sl μ, I n sl μ → wQ (fun x μ' => X x sl μ') (fun b μ1 => if b = true then wS (fun sl μ => ∃ m, m < n ∧ I m sl μ) T N (fun sl μ => ∃ m, m < n ∧ I m sl μ) X (t sl μ1) else N sl μ1) (c sl μ)) :
    ∀ (k n : Nat) (sl : Sl) (μ : Mu), n < k → I n sl μ → ∃ j, wS N T B C X (whF c t j sl μ)
  | 0, n, sl, μ, hk, _ => by omega
  | k + 1, n, sl, μ, hk, h0 => by
    have h := hs n sl μ h0
    cases hc : c sl μ with
    | none => rw [hc] at h; exact h.elim
    | some o =>
      rw [hc] at h
      cases o with
      | exc x μ1 => exact ⟨1, by rw [whF, hc]; exact h⟩
      | ok b μ1 =>
        cases b with
        | false => exact ⟨1, by rw [whF, hc]; exact h⟩
        | true =>
          have h : wS _ _ _ _ _ (t sl μ1) := h
          cases hb : t sl μ1 with
          | none => rw [hb] at h; exact h.elim
          | some o =>
            rw [hb] at h
            cases o with
            | nx sl2 μ2 =>
              obtain ⟨m, hm, h⟩ := h
              obtain ⟨j, hj⟩ := w_whF I hs k m sl2 μ2 (by omega) h
              exact ⟨j + 1, by rw [whF, hc]; simp only [hb]; exact hj⟩
            | ct sl2 μ2 =>
              obtain ⟨m, hm, h⟩ := h
              obtain ⟨j, hj⟩ := w_whF I hs k m sl2 μ2 (by omega) h
              exact ⟨j + 1, by rw [whF, hc]; simp only [hb]; exact hj⟩
            | bk sl2 μ2 => exact ⟨1, by rw [whF, hc]; simp only [hb]; exact h⟩
            | rt d μ2 => exact ⟨1, by rw [whF, hc]; simp only [hb]; exact h⟩
            | exc x sl2 μ2 => exact ⟨1, by rw [whF, hc]; simp only [hb]; exact h⟩
theorem w_wh (I : Nat → Sl → Mu → Prop) (n : Nat) (h0 : I n sl μ) (hs : ∀ n sl μ, I n sl μ → wQ (fun x μ' => X x sl μ') (fun b μ1 => if b = true then wS (fun sl μ => ∃ m, m < n ∧ I m sl μ) T N (fun sl μ => ∃ m, m < n ∧ I m sl μ) X (t sl μ1) else N sl μ1) (c sl μ)) : wS N T B C X (whS c t sl μ) := by
  obtain ⟨j, h⟩ := w_whF I hs (n + 1) n sl μ (Nat.lt_succ_self _) h0
  cases e : whF c t j sl μ with
  | none => rw [e] at h; exact h.elim
  | some o => rw [whS_of e]; rw [e] at h; exact h
theorem w_body {b : DS} {Q : D → Mu → Prop} (h : wS (fun _ μ => Q .non μ) Q (fun _ _ => False) (fun _ _ => False) (fun x _ μ => E x μ) (b (ds.map some ++ List.replicate (n - ds.length) none) μ)) : wQ E Q (bodyR b n ds μ) := by
  unfold bodyR
  cases e : b (ds.map some ++ List.replicate (n - ds.length) none) μ with
  | none => rw [e] at h; exact h
  | some o => rw [e] at h; cases o <;> exact h
theorem w_ifT {p : Prop} [Decidable p] {a b : Prop} (hp : p) (h : a) : if p then a else b := by rw [if_pos hp]; exact h
theorem w_ifF {p : Prop} [Decidable p] {a b : Prop} (hp : ¬p) (h : b) : if p then a else b := by rw [if_neg hp]; exact h
theorem w_ifDec {p : Prop} [Decidable p] {a b : Prop} (h1 : p → a) (h2 : ¬p → b) : if decide p = true then a else b := by
  by_cases hp : p
  · rw [if_pos (decide_eq_true hp)]; exact h1 hp
  · rw [decide_eq_false hp, if_neg Bool.false_ne_true]; exact h2 hp
theorem w_ifBl {b : Bool} {p q : Prop} (h1 : b = true → p) (h2 : b = false → q) : if b = true then p else q := by
  cases b
  · rw [if_neg Bool.false_ne_true]; exact h2 rfl
  · rw [if_pos rfl]; exact h1 rfl
/-! operators -/
section
variable {Q : D → Mu → Prop} {j : Int} {i : Int}
theorem w_addI (h : Q (.int (i + j)) μ) : wQ E Q (addD (.int i) (.int j) μ) := h
theorem w_subI (h : Q (.int (i - j)) μ) : wQ E Q (subI (.int i) (.int j) μ) := h
theorem w_mulX (hm : mulOk i j = true) (h : Q (.int (i * j)) μ) : wQ E Q (mulX (.int i) (.int j) μ) := w_is (a := D.int (i * j)) (μ := μ) (by show (if mulOk i j = true then ok (D.int (i * j)) μ else none) = _; rw [if_pos hm]) h
theorem w_mod (hm : j ≠ 0) (h : Q (.int (i.fmod j)) μ) : wQ E Q (modI (.int i) (.int j) μ) := w_is (a := D.int (i.fmod j)) (μ := μ) (by show (if decide (j ≠ 0) = true then ok (D.int (i.fmod j)) μ else none) = _; rw [if_pos (decide_eq_true hm)]) h
theorem w_fdiv (hm : j ≠ 0) (hl : j.natAbs.log2 < 9000) (h : Q (.int (i.fdiv j)) μ) : wQ E Q (fdivI (.int i) (.int j) μ) := w_is (a := D.int (i.fdiv j)) (μ := μ) (by show (if divOk i j = true then ok (D.int (i.fdiv j)) μ else none) = _; rw [if_pos (divOk_of hm hl)]) h
theorem w_cmp {p : Int → Int → Bool} (h : Q (.bl (p i j)) μ) : wQ E Q (cmpI p (.int i) (.int j) μ) := h
theorem w_neg (h : Q (.int (-i)) μ) : wQ E Q (negI (.int i) μ) := h
theorem w_ipAdd (h : Q (.int (i + j)) μ) : wQ E Q (ipAdd (.int i) (.int j) μ) := h
theorem w_addT {xs ys : List D} (hz : xs.length + ys.length ≤ sizeLine) (h : Q (.tup (xs ++ ys)) μ) : wQ E Q (addD (.tup xs) (.tup ys) μ) := w_is (a := D.tup (xs ++ ys)) (μ := μ) (by show addT (D.tup xs) (D.tup ys) μ = _; unfold addT; simp only [if_pos hz]) h
theorem w_addLL {xs ys : List D} (hz : xs.length + ys.length ≤ sizeLine) (h : Q (.lst (xs ++ ys)) μ) : wQ E Q (addD (.lst xs) (.lst ys) μ) := w_is (a := D.lst (xs ++ ys)) (μ := μ) (by show addL (D.lst xs) (D.lst ys) μ = _; simp only [addL, lstOf, if_pos hz]) h
theorem w_eqI (h : Q (.bl (decide (i = j))) μ) : wQ E Q (eqD (.int i) (.int j) μ) := w_is (a := D.bl (decide (i = j))) (μ := μ) (by
  rw [eqD_pl (pl_int i) (pl_int j)]; simp only [PyData.eqv]; rfl) h
theorem w_neI (h : Q (.bl (!decide (i = j))) μ) : wQ E Q (neD (.int i) (.int j) μ) := w_is (a := D.bl (!decide (i = j))) (μ := μ) (by
  rw [neD_pl (pl_int i) (pl_int j)]; simp only [PyData.eqv]; rfl) h
theorem w_eqS {a b : Str} (h : Q (.bl (decide (a = b))) μ) : wQ E Q (eqD (.str a) (.str b) μ) := h
theorem w_neS {a b : Str} (h : Q (.bl (!decide (a = b))) μ) : wQ E Q (neD (.str a) (.str b) μ) := h
theorem w_len {xs : List D} (he : seqOf μ d = some xs) (h : Q (.int xs.length) μ) : wQ E Q (dcLen [d] μ) := w_is (by
  cases d with
  | str z => cases he
  | _ => simp only [dcLen, he]) h
theorem w_ix {xs : List D} {k : Nat} (he : seqOf μ d = some xs) (hk : xs[k]? = some x) (h : Q x μ) : wQ E Q (ixD d (.int (k : Nat)) μ) := w_is (by
  unfold ixD
  simp only [he, atI_nat hk]) h
theorem w_ixL {xs : List D} {k : Int} (he : seqOf μ d = some xs) (hk : atI xs k = some x) (h : Q x μ) : wQ E Q (ixD d (.int k) μ) := w_is (by
  unfold ixD
  simp only [he, hk]) h
theorem w_int (h : Q (.int i) μ) : wQ E Q (dcInt [.int i] μ) := h
theorem w_intB {b : Bool} (h : Q (.int (if b then 1 else 0)) μ) : wQ E Q (dcInt [.bl b] μ) := h
theorem w_abs (h : Q (.int (if i < 0 then -i else i)) μ) : wQ E Q (dcAbs [.int i] μ) := h
theorem w_max2 (h : Q (.int (if j > i then j else i)) μ) : wQ E Q (dcMax2 [.int i, .int j] μ) := h
theorem w_min2 (h : Q (.int (if j < i then j else i)) μ) : wQ E Q (dcMin2 [.int i, .int j] μ) := h
theorem w_gcd (h : Q (.int ((Nat.gcd i.natAbs j.natAbs : Nat) : Int)) μ) : wQ E Q (dcGcd [.int i, .int j] μ) := h
theorem w_tuple {xs : List D} (he : seqOf μ d = some xs) (h : Q (.tup xs) μ) : wQ E Q (dcTuple [d] μ) := w_is (by unfold dcTuple; simp only [he]) h
theorem w_list {xs : List D} (he : seqOf μ d = some xs) (h : Q (.lst xs) μ) : wQ E Q (dcList [d] μ) := w_is (by unfold dcList; simp only [he]) h
theorem w_sum {xs : List D} {ns : List Int} (he : lstOf μ d = some xs) (hn : intsOf xs = some ns) (h : Q (.int ns.sum) μ) : wQ E Q (dcSum [d] μ) := w_is (by unfold dcSum; simp only [he, Option.bind_some, hn]) h
theorem w_any {xs : List D} {ns : List Bool} (he : lstOf μ d = some xs) (hn : blsOf xs = some ns) (h : Q (.bl (ns.any id)) μ) : wQ E Q (dcAny [d] μ) := w_is (by unfold dcAny; simp only [he, Option.bind_some, hn]) h
theorem w_all {xs : List D} {ns : List Bool} (he : lstOf μ d = some xs) (hn : blsOf xs = some ns) (h : Q (.bl (ns.all id)) μ) : wQ E Q (dcAll [d] μ) := w_is (by unfold dcAll; simp only [he, Option.bind_some, hn]) h
theorem w_append {xs : List D} {l : Nat} {v : D} (he : μ[l]? = some (some (.lst xs))) (hz : xs.length < sizeLine) (h : Q .non (setL μ l (xs ++ [v]))) : wQ E Q (dmAppend (.ref l) [v] μ) := w_is (by unfold dmAppend; simp only [rawL, he, if_pos hz]) h
theorem w_extend {xs ys : List D} {l : Nat} {v : D} (he : μ[l]? = some (some (.lst xs))) (hv : seqOf μ v = some ys) (hz : xs.length + ys.length ≤ sizeLine) (h : Q .non (setL μ l (xs ++ ys))) : wQ E Q (dmExtend (.ref l) [v] μ) := w_is (by unfold dmExtend; simp only [rawL, he, hv, if_pos hz]) h
theorem w_pop {xs : List D} {l : Nat} {v : D} (he : μ[l]? = some (some (.lst (xs ++ [v])))) (h : Q v (setL μ l xs)) : wQ E Q (dmPop (.ref l) [] μ) := w_is (by unfold dmPop; simp [rawL, he]) h
end
end
theorem sm_le {n : Nat} (h : Nat.ble n 1000 = true) : n ≤ sizeLine := by
  have := sizeLine_eq
  have := Nat.le_of_ble_eq_true h
  omega
theorem and_fix {d : D} {q : Prop} (h : fixD d = true) (hq : q) : fixD d = true ∧ q := ⟨h, hq⟩
end Pd
end
section
open Pd
local macro_rules
  | `(tactic| fail) => `(tactic| with_reducible first
  | refine w_seq ?_ | refine w_asgN ?_ | refine w_var (by with_unfolding_all rfl) ?_ | refine w_c ?_ | refine w_bin ?_ | refine w_call ?_ | refine w_cons ?_ | refine w_nil ?_
  | refine w_callN (by with_unfolding_all rfl) ?_ | refine w_if ?_ | refine w_ret ?_ | refine w_exp ?_ | refine w_nx ?_ | refine w_ct ?_ | refine w_bk ?_ | refine w_retN ?_
  | refine w_tst ?_ | refine w_not ?_ | refine w_and ?_ | refine w_or ?_ | refine w_andD ?_ | refine w_orD ?_ | refine w_notD ?_ | refine w_blD ?_ | refine w_ifD ?_ | refine w_tru ?_ | refine w_ch ?_
  | refine w_stL ?_ | refine w_tup ?_ | refine w_lst ?_ | refine w_newDisp ?_ | refine w_newEmp ?_ | refine w_boxEmp ?_ | refine w_pairC ?_ | refine w_pair0 ?_ | refine w_newL ?_ | refine w_boxL ?_ | refine w_frz ?_ | refine w_un ?_ | refine w_meth0 ?_ | refine w_methB ?_ | refine w_noO ?_ | refine w_someO ?_ | refine w_slice ?_ | refine w_rev ?_
  | refine w_seqSt ?_ | refine w_zipSt ?_ | refine w_enSt ?_ | refine w_rng1 ?_ | refine w_rng2 ?_ | refine w_lcD ?_ | refine w_asg ?_ | refine w_par ?_ | refine w_aug ?_ | refine w_set ?_ | refine w_for ?_
  | refine w_addI ?_ | refine w_subI ?_ | refine w_cmp ?_ | refine w_neg ?_ | refine w_ipAdd ?_ | refine w_eqI ?_ | refine w_neI ?_ | refine w_eqS ?_ | refine w_neS ?_ | refine w_int ?_ | refine w_intB ?_ | refine w_abs ?_ | refine w_max2 ?_ | refine w_min2 ?_ | refine w_gcd ?_
  | refine w_ok ?_ | refine And.intro (Nat.le_of_ble_eq_true (by with_unfolding_all rfl)) ?_ | refine And.intro (sm_le (by with_unfolding_all rfl)) ?_ | refine and_fix (by with_unfolding_all rfl) ?_ | refine Exists.intro _ (And.intro (by with_unfolding_all rfl) ?_))
namespace Kn
open PySem PySem.Spec L2 Pd
theorem wS_is {N : Sl → Mu → Prop} {T : D → Mu → Prop} {B C : Sl → Mu → Prop} {X : Exn → Sl → Mu → Prop} {o : Option OutS} {sl : Sl} {μ : Mu} (e : o = some (.nx sl μ)) (h : N sl μ) : wS N T B C X o := by rw [e]; exact h
theorem law_ok : LawD 63 f_law := by
  intro ns hn hz
  have hzl := sizeLine_eq
  suffices h : wQ nE (fun d _ => d = .bl true) (f_law [.lst (ns.map D.int)] []) by
    obtain ⟨d, μ', e, rfl⟩ := wQ_ex h
    exact ⟨μ', e⟩
  obtain ⟨μ, e, s0⟩ := Sr.start ns (by omega) hz
  refine w_body ?_
  show wS _ _ _ _ _ (b_law [some (.lst (ns.map D.int)), none, none, none, none, none, none, none, none, none, none, none, none, none] [])
  unfold b_law
  (repeat fail)
  refine w_is (source_same ▸ e) ?_
  (repeat fail)
  refine ⟨by decide, ?_⟩
  (repeat fail)
  refine w_forSt (fun j sl μ => ∃ x2 x3 x4 x5 x6 x7 x8, sl = sl14 (some (.lst (ns.map D.int))) x2 x3 x4 x5 x6 x7 x8 none none none none none ∧ Sr (40 * j) 1 0 μ) ⟨none, none, none, none, none, none, none, rfl, s0⟩ (fun j d sl μ hj ⟨x2, x3, x4, x5, x6, x7, x8, e, s⟩ => ?_) (fun sl μ ⟨x2, x3, x4, x5, x6, x7, x8, e, s⟩ => ?_)
  · obtain ⟨hj2, rfl⟩ := rngD_at hj
    subst e
    refine ⟨_, rfl, ?_⟩
    have hj2 : j < 4 := hj2
    obtain ⟨y3, y4, y5, y6, y7, y8, μ', e, s'⟩ := lap_ok (x0 := some (.lst (ns.map D.int))) (x2 := some (.int (j : Nat))) (x3 := x3) (x4 := x4) (x5 := x5) (x6 := x6) (x7 := x7) (x8 := x8) (x9 := none) (x10 := none) (x11 := none) (x12 := none) (x13 := none) s (by omega)
    refine wS_is e ?_
    exact ⟨_, _, _, _, _, _, _, rfl, s'.mono (by omega)⟩
  · subst e
    have s : Sr 160 1 0 μ := s
    refine w_seq (w_if (w_tst (w_bin ?_)))
    refine w_is kept_list ?_
    (repeat fail)
    refine w_is (neD_self (p := .list []) ⟨rfl, rfl, by decide⟩) ?_
    (repeat fail)
    refine w_ifF Bool.false_ne_true ?_
    (repeat fail)
    refine ⟨by decide, ?_⟩
    (repeat fail)
    refine w_forSt (fun j sl μ => ∃ x2 x10 x11, sl = sl14 (some (.lst (ns.map D.int))) x2 x3 x4 x5 x6 x7 x8 none x10 x11 none none ∧ Sr (160 + 3 * j) 1 0 μ) ⟨_, none, none, rfl, s⟩ (fun j d sl μ hj ⟨x2, x10, x11, e, s⟩ => ?_) (fun sl μ ⟨x2, x10, x11, e, s⟩ => ?_)
    · obtain ⟨hj2, rfl⟩ := rngD_at hj
      subst e
      refine ⟨_, rfl, ?_⟩
      have hj2 : j < 6 := hj2
      obtain ⟨y11, μ', e, s'⟩ := lap2_ok (x0 := some (.lst (ns.map D.int))) (x2 := some (.int (j : Nat))) (x3 := x3) (x4 := x4) (x5 := x5) (x6 := x6) (x7 := x7) (x8 := x8) (x9 := none) (x10 := x10) (x11 := x11) (x12 := none) (x13 := none) s (by omega)
      refine wS_is e ?_
      exact ⟨_, _, _, rfl, s'.mono (by omega)⟩
    · subst e
      have s : Sr 178 1 0 μ := s
      (repeat fail)
      obtain ⟨x, μ1, e1, hx, s1, _⟩ := ofS (ds := odd2) s (by omega) (by simp) (by decide)
      rw [← of_same] at e1
      refine w_is e1 ?_
      (repeat fail)
      obtain ⟨r, μ2, e2, s2, hr⟩ := pick_s (many := 300) s1 (by omega) (by decide)
      refine w_is e2 ?_
      (repeat fail)
      have hr2 : r < 300 := by omega
      have ea : Str.ofString "a " = Tx [97, 32] := by kernel_rfl
      have ey : Str.ofString "y" = Tx [121] := by kernel_rfl
      obtain ⟨m, em⟩ : ∃ m : Nat, m = 200 + r := ⟨_, rfl⟩
      have er : (200 : Int) + ((r : Nat) : Int) = (m : Nat) := by omega
      refine w_is (a := D.str (Tx (List.replicate m [97, 32]).flatten)) (μ := μ2) (by
        rw [ea, er]
        show mulS (.str (Tx [97, 32])) (.int (m : Nat)) μ2 = _
        rw [mulS_ok ⟨by omega, by omega, by rw [tx_len, Int.toNat_natCast, hzl]; simp only [List.length_cons, List.length_nil]; omega⟩, strRep_tx, Int.toNat_natCast]) ?_
      have hlen : (List.replicate m [97, 32]).flatten.length = 2 * m := by simp [List.length_flatten]; omega
      have hlex : lexS (List.replicate m [97, 32]).flatten = ((List.range m).map fun j => tok "word" [97] (2 * j), none) := by
        unfold lexS
        rw [lex_rep m _ 0 (by omega)]
        simp only [Nat.zero_add]
      obtain ⟨z1, l1, _, ne1⟩ := lexemes_told (μ := μ2) (List.replicate m [97, 32]).flatten (by omega) hlex
      (repeat fail)
      refine w_is l1 ?_
      (repeat fail)
      refine ⟨by omega, ?_⟩
      (repeat fail)
      have ez : (D.lst ((rngD 0 ((200 : Int) + ((r : Nat) : Int)).toNat).map fun d => match d with | .int k => D.tup [.str "word", .str "a", .int (2 * k)] | d => d)) = .lst ((List.range m).map fun j => tok "word" [97] (2 * j)) := by
        rw [er, Int.toNat_natCast]
        unfold rngD
        rw [List.map_map]
        congr 1
        refine List.map_congr_left fun j _ => ?_
        have e97 : Str.ofString "a" = Tx [97] := by kernel_rfl
        simp only [Function.comp, tok, e97]
        congr 4
        rw [show (2 : Int) * (0 + (j : Nat)) = ((2 * j : Nat) : Int) by omega]
      refine w_lcMap (fun d => match d with | .int k => D.tup [.str "word", .str "a", .int (2 * k)] | d => d) (fun d hd => ?_) ?_ ?_
      · obtain ⟨j, hj⟩ := List.mem_iff_getElem?.mp hd
        obtain ⟨hj2, rfl⟩ := rngD_at hj
        have hj3 : j < 1000 := by omega
        refine ⟨_, rfl, wQ_is ?_⟩
        (repeat fail)
        refine w_mulX (mulOk_small (by decide) (by omega)) ?_
        (repeat fail)
        exact ⟨rfl, rfl⟩
      · show (rngD 0 ((200 : Int) + ((r : Nat) : Int)).toNat).length ≤ _
        rw [rngD_len]; omega
      · rw [show (Src.st (rngD 0 ((200 : Int) + ((r : Nat) : Int)).toNat)).ds = rngD 0 ((200 : Int) + ((r : Nat) : Int)).toNat from rfl, ez]
        (repeat fail)
        refine w_is (ne1 _) ?_
        (repeat fail)
        refine w_ifF (by simp) ?_
        (repeat fail)
        refine w_is (odd_no hx) ?_
        (repeat fail)
        refine w_is (a := D.bl true) (μ := μ2 ++ [z1]) rfl ?_
        (repeat fail)
        refine w_ifT rfl ?_
        obtain ⟨z2, l2, eq2, _⟩ := lexemes_told (μ := μ2 ++ [z1]) [] (by decide) (show lexS [] = ([], none) from rfl)
        (repeat fail)
        refine w_is (tx_nil ▸ l2) ?_
        (repeat fail)
        refine w_is (eq2 _) ?_
        (repeat fail)
        refine w_ifT rfl ?_
        have es : ∀ μ, mulX (.str "y") (.int 500) μ = ok (.str (Tx (List.replicate 500 121))) μ := fun μ => by
          rw [ey]
          show mulS (.str (Tx [121])) (.int 500) μ = _
          rw [mulS_ok ⟨by omega, by omega, by rw [tx_len, hzl]; decide⟩, strRep_tx]
          congr 3
        obtain ⟨z3, l3, eq3, _⟩ := lexemes_told (μ := μ2 ++ [z1] ++ [z2]) (List.replicate 500 121) (by rw [List.length_replicate]; decide) (lex_y 500 (by decide))
        (repeat fail)
        refine w_is (es _) ?_
        (repeat fail)
        refine w_is l3 ?_
        (repeat fail)
        refine w_is (es _) ?_
        (repeat fail)
        exact w_is (eq3 _) rfl
end Kn
end
set_option maxHeartbeats 0 in
theorem PySem.Challenge.cw_forthandback_k01_lexemes_holds : PySem.Challenge.rw_forthandback_k01_lexemes.Holds := by
  exact Kn.law_holds Kn.law_ok
