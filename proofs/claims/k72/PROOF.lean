import PyProof.Rows.All
import Wide.All
import OpenK.AllK
import Wide.FinOn
import HandS.ForMost
import HandS.Exc
import HandS.Walk
import HandS.TupAny
import HandS.TupMul
import HandS.Deep
import HandS.Wide
import HandS.Conv
import HandS.TupLen
import HandS.IsInst
import HandS.NoneIn
import HandS.Small
import HandS.SetFor
import HandS.Remove
import HandS.More
import HandS.Zip
import HandS.DictComp
import HandS.Defaults
import HandS.CallSlots
import HandS.ExcOwn
import HandS.ExcInit
import HandS.ExcField
import HandS.ExcIs
import HandS.TryMany
import KE.KExcIs
import KE.GoesMore
import KE.GoesEnum
import HandS.Words
import HandS.WordsExc
import KE.KStateDown
import HandS.Ends
import HandS.Head0
import HandS.Head1
import HandS.Head2
import HandS.HeadEnd
import HandS.HeadHook1
import HandS.HeadHook2
import HandS.HeadHook3
import HandS.HeadHook4
import PyProof.StrLawsIn
import PySem.Challenge.RW_allbide_k72_tokens_of_texts
set_option Elab.async false
set_option linter.all false
set_option maxRecDepth 100000
set_option maxHeartbeats 2000000
/-! Mv1: data, tags, what a value stands for, states. -/
namespace Mv
open PySem PySem.Spec PyProof.Rows L2

/-- a key of a dict -/
inductive Ky where
  | k (x : Key) | t (xs : List Key)
  deriving DecidableEq

/-- data -/
inductive D where
  | non | bl (b : Bool) | int (i : Int) | str (s : Str)
  | tup (xs : List D) | ktp (xs : List D) | lst (xs : List D) | dct (t : Bool) (ks : List Ky) (xs : List D) | scr (ns : List Int) | cell (n : Nat)

/-- what an address is for: read only; nobody's (kept, not to be spoken of); the slot's own; a cell -/
inductive Tag where
  | fz | prv | own (i : Nat) | cell (k : Nat)
  deriving DecidableEq
abbrev Wd := Addr → Tag
def Wd.set (W : Wd) (p : Addr) (t : Tag) : Wd := fun a => if a = p then t else W a
theorem Wd.set_same {W : Wd} {p : Addr} {t : Tag} : W.set p t p = t := if_pos rfl
theorem Wd.set_ne {W : Wd} {a p : Addr} {t : Tag} (h : a ≠ p) : W.set p t a = W a := if_neg h

/-- the written part and the module's names -/
structure Kg where
  K : PySem.W.Frag
  mg : Str → Option Value
abbrev kg (X : Cx) : Kg := ⟨X.K, X.mg⟩

/-- a dict's address, by its keys and the values -/
def DctIs (H : Hp) (a : Addr) (t : Bool) (ks : List Ky) (vs : List V) : Prop :=
  (t = false ∧ ∃ kvs : List (Key × V), Rd H a (.dK kvs) ∧ ks = kvs.map (fun p => Ky.k p.1) ∧ vs = kvs.map (·.2)) ∨
  (t = true ∧ ∃ kvs : List (List Key × V), Rd H a (.dT kvs) ∧ ks = kvs.map (fun p => Ky.t p.1) ∧ vs = kvs.map (·.2))

mutual
def Rp (g : Kg) (W : Wd) (H : Hp) : D → V → Prop
  | .non, v => v = .non
  | .bl b, v => v = .bl b
  | .int i, v => v = .int i
  | .str s, v => v = .str s
  | .tup ds, v => ∃ a vs, v = .ref a ∧ W a = .fz ∧ H a = some (.tup vs) ∧ RpL g W H ds vs
  | .ktp ds, v => ∃ a vs, v = .ref a ∧ (∀ H', SqT g.K H' a vs) ∧ RpL g W H ds vs
  | .lst ds, v => ∃ a vs, v = .ref a ∧ W a = .fz ∧ H a = some (.lst vs) ∧ RpL g W H ds vs
  | .dct t ks ds, v => ∃ a vs, v = .ref a ∧ W a = .fz ∧ DctIs H a t ks vs ∧ RpL g W H ds vs
  | .scr ns, v => ∃ a, v = .ref a ∧ ((W a = .fz ∧ Rd H a (.lst (ns.map V.int))) ∨ ∀ H', SqL g.K H' a (ns.map V.int))
  | .cell k, v => ∃ a, v = .ref a ∧ W a = .cell k ∧ ∃ o, H a = some o
def RpL (g : Kg) (W : Wd) (H : Hp) : List D → List V → Prop
  | [], vs => vs = []
  | d :: ds, vs => ∃ v r, vs = v :: r ∧ Rp g W H d v ∧ RpL g W H ds r
end

/-- borrowed: the list's or dict's own address may be anyone's -/
def RpB (g : Kg) (W : Wd) (H : Hp) : D → V → Prop
  | .lst ds, v => ∃ a vs, v = .ref a ∧ (∀ k, W a ≠ .cell k) ∧ H a = some (.lst vs) ∧ RpL g W H ds vs
  | .dct t ks ds, v => ∃ a vs, v = .ref a ∧ (∀ k, W a ≠ .cell k) ∧ DctIs H a t ks vs ∧ RpL g W H ds vs
  | .non, v => v = .non
  | .bl b, v => v = .bl b
  | .int i, v => v = .int i
  | .str s, v => v = .str s
  | .tup ds, v => Rp g W H (.tup ds) v
  | .ktp ds, v => Rp g W H (.ktp ds) v
  | .scr ns, v => Rp g W H (.scr ns) v
  | .cell k, v => Rp g W H (.cell k) v

/-- nothing that stands is changed; new things may come -/
def Grow (W : Wd) (H : Hp) (W' : Wd) (H' : Hp) : Prop := ∀ a o, H a = some o → W' a = W a ∧ H' a = some o
/-- behind an expression: all but cells is kept, what was a slot's own may be read only now -/
def Step (W : Wd) (H : Hp) (W' : Wd) (H' : Hp) : Prop := ∀ a o, H a = some o →
  ((∀ k, W a ≠ .cell k) → H' a = some o) ∧ (∃ o', H' a = some o') ∧ (W' a = W a ∨ ((∃ i, W a = .own i) ∧ W' a = .fz))
/-- behind a statement: what is read only stays, cells stay cells; nobody's stays -/
def Kp (W : Wd) (H : Hp) (W' : Wd) (H' : Hp) : Prop := ∀ a o, H a = some o →
  (W a = .fz → W' a = .fz ∧ H' a = some o) ∧ (∀ k, W a = .cell k → W' a = .cell k ∧ ∃ o', H' a = some o')
structure StepS (W : Wd) (H : Hp) (W' : Wd) (H' : Hp) : Prop where
  kp : Kp W H W' H'
  pv : ∀ a o, H a = some o → W a = .prv → W' a = .prv ∧ H' a = some o

theorem Grow.refl {W : Wd} {H : Hp} : Grow W H W H := fun _ _ e => ⟨rfl, e⟩
theorem Grow.trans {W W1 W2 : Wd} {H H1 H2 : Hp} (a : Grow W H W1 H1) (b : Grow W1 H1 W2 H2) : Grow W H W2 H2 := fun x o e =>
  ⟨(b x o (a x o e).2).1.trans (a x o e).1, (b x o (a x o e).2).2⟩
theorem Grow.step {W W' : Wd} {H H' : Hp} (g : Grow W H W' H') : Step W H W' H' := fun a o e => ⟨fun _ => (g a o e).2, ⟨o, (g a o e).2⟩, .inl (g a o e).1⟩
theorem Step.refl {W : Wd} {H : Hp} : Step W H W H := Grow.refl.step
theorem Step.trans {W W1 W2 : Wd} {H H1 H2 : Hp} (a : Step W H W1 H1) (b : Step W1 H1 W2 H2) : Step W H W2 H2 := fun x o e => by
  obtain ⟨h1, ⟨o1, h2⟩, h3⟩ := a x o e
  obtain ⟨k1, k2, k3⟩ := b x o1 h2
  refine ⟨fun nc => ?_, k2, ?_⟩
  · have e1 := h1 nc
    rw [e1] at h2; cases h2
    refine k1 fun k q => ?_
    rcases h3 with h3 | ⟨_, h3⟩
    · exact nc k (h3.symm.trans q)
    · rw [h3] at q; cases q
  · rcases h3 with h3 | ⟨h3, h4⟩
    · rcases k3 with k3 | ⟨⟨i, k3⟩, k4⟩
      · exact .inl (k3.trans h3)
      · exact .inr ⟨⟨i, h3.symm.trans k3⟩, k4⟩
    · rcases k3 with k3 | ⟨⟨i, k3⟩, k4⟩
      · exact .inr ⟨h3, k3.trans h4⟩
      · rw [h4] at k3; cases k3
theorem Kp.trans {W W1 W2 : Wd} {H H1 H2 : Hp} (a : Kp W H W1 H1) (b : Kp W1 H1 W2 H2) : Kp W H W2 H2 := fun x o e => by
  obtain ⟨h1, h3⟩ := a x o e
  refine ⟨fun q => ?_, fun k q => ?_⟩
  · obtain ⟨p1, p2⟩ := h1 q
    exact (b x o p2).1 p1
  · obtain ⟨p1, o', p2⟩ := h3 k q
    exact (b x o' p2).2 k p1
theorem Step.stmt {W W' : Wd} {H H' : Hp} (s : Step W H W' H') : StepS W H W' H' := by
  refine ⟨fun a o e => ?_, fun a o e q => ?_⟩
  · obtain ⟨h1, h2, h3⟩ := s a o e
    refine ⟨fun q => ?_, fun k q => ?_⟩
    · refine ⟨?_, h1 fun k z => by rw [q] at z; cases z⟩
      rcases h3 with h3 | ⟨⟨i, h3⟩, h4⟩
      · exact h3.trans q
      · exact h4
    · refine ⟨?_, h2⟩
      rcases h3 with h3 | ⟨⟨i, h3⟩, h4⟩
      · exact h3.trans q
      · rw [q] at h3; cases h3
  · obtain ⟨h1, h2, h3⟩ := s a o e
    refine ⟨?_, h1 fun k z => by rw [q] at z; cases z⟩
    rcases h3 with h3 | ⟨⟨i, h3⟩, h4⟩
    · exact h3.trans q
    · rw [q] at h3; cases h3
theorem Step.kp {W W' : Wd} {H H' : Hp} (s : Step W H W' H') : Kp W H W' H' := s.stmt.kp
theorem StepS.refl {W : Wd} {H : Hp} : StepS W H W H := Step.refl.stmt
theorem StepS.trans {W W1 W2 : Wd} {H H1 H2 : Hp} (a : StepS W H W1 H1) (b : StepS W1 H1 W2 H2) : StepS W H W2 H2 :=
  ⟨a.kp.trans b.kp, fun x o e q => let ⟨p1, p2⟩ := a.pv x o e q; b.pv x o p2 p1⟩

/-! what a value stands for leans on what is read only, and on where the cells are -/
theorem rd_mono {W W' : Wd} {H H' : Hp} {a : Addr} {u : HO} (s : Kp W H W' H') (hf : W a = .fz) (h : Rd H a u) : W' a = .fz ∧ Rd H' a u := by
  rcases h with h | ⟨o, h⟩
  · obtain ⟨p1, p2⟩ := (s a _ h).1 hf
    exact ⟨p1, .inl p2⟩
  · obtain ⟨p1, p2⟩ := (s a _ h).1 hf
    exact ⟨p1, .inr ⟨o, p2⟩⟩
theorem DctIs.mono {W W' : Wd} {H H' : Hp} {a : Addr} {t : Bool} {ks : List Ky} {vs : List V} (s : Kp W H W' H') (hf : W a = .fz) (h : DctIs H a t ks vs) : W' a = .fz ∧ DctIs H' a t ks vs := by
  rcases h with ⟨et, kvs, h, e1, e2⟩ | ⟨et, kvs, h, e1, e2⟩
  · obtain ⟨p, q⟩ := rd_mono s hf h
    exact ⟨p, .inl ⟨et, kvs, q, e1, e2⟩⟩
  · obtain ⟨p, q⟩ := rd_mono s hf h
    exact ⟨p, .inr ⟨et, kvs, q, e1, e2⟩⟩
mutual
theorem Rp.mono {g : Kg} {W W' : Wd} {H H' : Hp} (s : Kp W H W' H') : ∀ (d : D) (v : V), Rp g W H d v → Rp g W' H' d v
  | .non, _, h => h
  | .bl _, _, h => h
  | .int _, _, h => h
  | .str _, _, h => h
  | .tup ds, v, h => by
    obtain ⟨a, vs, e, h1, h2, h3⟩ := h
    obtain ⟨p1, p2⟩ := (s a _ h2).1 h1
    exact ⟨a, vs, e, p1, p2, RpL.mono s ds vs h3⟩
  | .ktp ds, v, h => by
    obtain ⟨a, vs, e, h1, h2⟩ := h
    exact ⟨a, vs, e, h1, RpL.mono s ds vs h2⟩
  | .lst ds, v, h => by
    obtain ⟨a, vs, e, h1, h2, h3⟩ := h
    obtain ⟨p1, p2⟩ := (s a _ h2).1 h1
    exact ⟨a, vs, e, p1, p2, RpL.mono s ds vs h3⟩
  | .dct t ks ds, v, h => by
    obtain ⟨a, vs, e, h1, h2, h3⟩ := h
    obtain ⟨p1, p2⟩ := h2.mono s h1
    exact ⟨a, vs, e, p1, p2, RpL.mono s ds vs h3⟩
  | .scr ns, v, h => by
    obtain ⟨a, e, ⟨h1, h2⟩ | h⟩ := h
    · obtain ⟨p1, p2⟩ := rd_mono s h1 h2
      exact ⟨a, e, .inl ⟨p1, p2⟩⟩
    · exact ⟨a, e, .inr h⟩
  | .cell k, v, h => by
    obtain ⟨a, e, h1, o, h2⟩ := h
    exact ⟨a, e, (s a o h2).2 k h1⟩
theorem RpL.mono {g : Kg} {W W' : Wd} {H H' : Hp} (s : Kp W H W' H') : ∀ (ds : List D) (vs : List V), RpL g W H ds vs → RpL g W' H' ds vs
  | [], _, h => h
  | d :: ds, _, h => by
    obtain ⟨v, r, e, h1, h2⟩ := h
    exact ⟨v, r, e, Rp.mono s d v h1, RpL.mono s ds r h2⟩
end
theorem RpB.of {g : Kg} {W : Wd} {H : Hp} {d : D} {v : V} (h : Rp g W H d v) : RpB g W H d v := by
  cases d with
  | lst ds =>
    obtain ⟨a, vs, e, f, h, r⟩ := h
    exact ⟨a, vs, e, (fun k z => by rw [f] at z; cases z), h, r⟩
  | dct t ks ds =>
    obtain ⟨a, vs, e, f, h, r⟩ := h
    exact ⟨a, vs, e, (fun k z => by rw [f] at z; cases z), h, r⟩
  | _ => exact h
theorem Step.rd {W W' : Wd} {H H' : Hp} {a : Addr} {u : HO} (s : Step W H W' H') (nc : ∀ k, W a ≠ .cell k) (h : Rd H a u) : (∀ k, W' a ≠ .cell k) ∧ Rd H' a u := by
  have key : ∀ o, H a = some o → (∀ k, W' a ≠ .cell k) ∧ H' a = some o := fun o e => by
    obtain ⟨h1, _, h3⟩ := s a o e
    refine ⟨fun k z => ?_, h1 nc⟩
    rcases h3 with h3 | ⟨_, h3⟩
    · exact nc k (h3.symm.trans z)
    · rw [h3] at z; cases z
  rcases h with h | ⟨o, h⟩
  · exact ⟨(key _ h).1, .inl (key _ h).2⟩
  · exact ⟨(key _ h).1, .inr ⟨o, (key _ h).2⟩⟩
theorem RpB.step {g : Kg} {W W' : Wd} {H H' : Hp} (s : Step W H W' H') {d : D} {v : V} (h : RpB g W H d v) : RpB g W' H' d v := by
  cases d with
  | lst ds =>
    obtain ⟨a, vs, e, nc, h, r⟩ := h
    obtain ⟨h1, _, h3⟩ := s a _ h
    refine ⟨a, vs, e, fun k z => ?_, h1 nc, RpL.mono s.kp ds vs r⟩
    rcases h3 with h3 | ⟨_, h3⟩
    · exact nc k (h3.symm.trans z)
    · rw [h3] at z; cases z
  | dct t ks ds =>
    obtain ⟨a, vs, e, nc, h, r⟩ := h
    rcases h with ⟨et, kvs, h, e1, e2⟩ | ⟨et, kvs, h, e1, e2⟩
    · obtain ⟨p, q⟩ := s.rd nc h
      exact ⟨a, vs, e, p, .inl ⟨et, kvs, q, e1, e2⟩, RpL.mono s.kp ds vs r⟩
    · obtain ⟨p, q⟩ := s.rd nc h
      exact ⟨a, vs, e, p, .inr ⟨et, kvs, q, e1, e2⟩, RpL.mono s.kp ds vs r⟩
  | tup ds => exact Rp.mono (g := g) s.kp (.tup ds) v h
  | ktp ds => exact Rp.mono (g := g) s.kp (.ktp ds) v h
  | scr ns => exact Rp.mono (g := g) s.kp (.scr ns) v h
  | cell k => exact Rp.mono (g := g) s.kp (.cell k) v h
  | _ => exact h

/-! ### the states -/
structure Exn where
  cls : Str
  fs : List (Str × D)
inductive SV where
  | val (own : Bool) (d : D)
  | exn (e : Exn)
inductive Cell where
  | lst (xs : List D)
  | ins (cls : Str) (fs : List (Str × D))
structure S where
  sl : List (Option SV)
  cs : List Cell

def FsR (g : Kg) (W : Wd) (H : Hp) : List (Str × D) → List (Str × V) → Prop
  | [], ws => ws = []
  | (f, d) :: r, ws => ∃ v q, ws = (f, v) :: q ∧ Rp g W H d v ∧ FsR g W H r q
theorem FsR.mono {g : Kg} {W W' : Wd} {H H' : Hp} (s : Kp W H W' H') : ∀ (fs : List (Str × D)) (ws : List (Str × V)), FsR g W H fs ws → FsR g W' H' fs ws
  | [], _, h => h
  | (f, d) :: r, _, h => by
    obtain ⟨v, q, e, h1, h2⟩ := h
    exact ⟨v, q, e, Rp.mono s d v h1, FsR.mono s r q h2⟩
def CellR (g : Kg) (W : Wd) (H : Hp) (a : Addr) : Cell → Prop
  | .lst ds => ∃ vs, H a = some (.lst vs) ∧ RpL g W H ds vs
  | .ins c fs => ∃ C dx ws, g.mg c = some (.ref C) ∧ H a = some (.ins C dx ws) ∧ FsR g W H fs ws
/-- the cells -/
structure CRep (g : Kg) (cs : List Cell) (W : Wd) (H : Hp) : Prop where
  at_ : ∀ (k : Nat) (c : Cell), cs[k]? = some c → ∃ a, W a = .cell k ∧ CellR g W H a c
  uniq : ∀ (a b : Addr) (k : Nat) (o u : HO), H a = some o → H b = some u → W a = .cell k → W b = .cell k → a = b
  bnd : ∀ (a : Addr) (k : Nat) (o : HO), H a = some o → W a = .cell k → k < cs.length
/-- an exception held in a slot: its class and its own dict -/
def ExnR (g : Kg) (W : Wd) (H : Hp) (e : Exn) (cls : Value) (d : Option Addr) : Prop :=
  ∃ C dd ws, g.mg e.cls = some (.ref C) ∧ cls = .ref C ∧ d = some dd ∧ W dd = .fz ∧ H dd = some (.xd ws) ∧ FsR g W H e.fs ws
/-- a dict that stands unlocked -/
def DctAt (H : Hp) (a : Addr) (t : Bool) (ks : List Ky) (vs : List V) : Prop :=
  (t = false ∧ ∃ kvs : List (Key × V), H a = some (.dK kvs) ∧ ks = kvs.map (fun p => Ky.k p.1) ∧ vs = kvs.map (·.2)) ∨
  (t = true ∧ ∃ kvs : List (List Key × V), H a = some (.dT kvs) ∧ ks = kvs.map (fun p => Ky.t p.1) ∧ vs = kvs.map (·.2))
theorem DctAt.is {H : Hp} {a : Addr} {t : Bool} {ks : List Ky} {vs : List V} (h : DctAt H a t ks vs) : DctIs H a t ks vs := by
  rcases h with ⟨et, kvs, h, e⟩ | ⟨et, kvs, h, e⟩
  · exact .inl ⟨et, kvs, .inl h, e⟩
  · exact .inr ⟨et, kvs, .inl h, e⟩
/-- a list of a slot's own -/
def OwnR (g : Kg) (W : Wd) (H : Hp) (i : Nat) : D → V → Prop
  | .lst ds, v => ∃ a vs, v = .ref a ∧ W a = .own i ∧ H a = some (.lst vs) ∧ RpL g W H ds vs
  | .dct t ks ds, v => ∃ a vs, v = .ref a ∧ W a = .own i ∧ DctAt H a t ks vs ∧ RpL g W H ds vs
  | _, _ => False
def SlotR (g : Kg) (W : Wd) (H : Hp) (i : Nat) (v : Option (Option V)) : Option (Option SV) → Prop
  | some (some (.val false d)) => ∃ x, v = some (some x) ∧ Rp g W H d x
  | some (some (.val true d)) => ∃ x, v = some (some x) ∧ OwnR g W H i d x
  | _ => True
structure SRep (g : Kg) (s : S) (W : Wd) (σ : L2.St) (H : Hp) : Prop where
  slot : ∀ i, SlotR g W H i σ[i]? s.sl[i]?
  cells : CRep g s.cs W H
  len : s.sl.length = σ.length

theorem CellR.mono {g : Kg} {W W' : Wd} {H H' : Hp} (s : Kp W H W' H') {a : Addr} {c : Cell} (ha : ∀ o, H a = some o → H' a = some o) (h : CellR g W H a c) : CellR g W' H' a c := by
  cases c with
  | lst ds =>
    obtain ⟨vs, h1, h2⟩ := h
    exact ⟨vs, ha _ h1, RpL.mono s ds vs h2⟩
  | ins c fs =>
    obtain ⟨C, dx, ws, h1, h2, h3⟩ := h
    exact ⟨C, dx, ws, h1, ha _ h2, FsR.mono s fs ws h3⟩
theorem CellR.there {g : Kg} {W : Wd} {H : Hp} {a : Addr} {c : Cell} (h : CellR g W H a c) : ∃ o, H a = some o := by
  cases c with
  | lst ds =>
    obtain ⟨vs, h1, h2⟩ := h
    exact ⟨_, h1⟩
  | ins c fs =>
    obtain ⟨C, dx, ws, h1, h2, h3⟩ := h
    exact ⟨_, h2⟩
/-- new things come: the states stay -/
theorem Grow.kp {W W' : Wd} {H H' : Hp} (s : Grow W H W' H') : Kp W H W' H' := s.step.kp
structure GrowC (W : Wd) (H : Hp) (W' : Wd) (H' : Hp) : Prop where
  gr : Grow W H W' H'
  nc : ∀ a o k, H' a = some o → W' a = .cell k → ∃ u, H a = some u
theorem CRep.grow {g : Kg} {cs : List Cell} {W W' : Wd} {H H' : Hp} (s : GrowC W H W' H') (h : CRep g cs W H) : CRep g cs W' H' := by
  refine ⟨fun k c e => ?_, fun a b k o u ha hb wa wb => ?_, fun a k o ha wa => ?_⟩
  · obtain ⟨a, h1, h2⟩ := h.at_ k c e
    obtain ⟨o, h3⟩ := h2.there
    exact ⟨a, (s.gr a o h3).1.trans h1, h2.mono s.gr.kp fun o q => (s.gr a o q).2⟩
  · obtain ⟨p, hp⟩ := s.nc a o k ha wa
    obtain ⟨q, hq⟩ := s.nc b u k hb wb
    exact h.uniq a b k p q hp hq ((s.gr a p hp).1.symm.trans wa) ((s.gr b q hq).1.symm.trans wb)
  · obtain ⟨p, hp⟩ := s.nc a o k ha wa
    exact h.bnd a k p hp ((s.gr a p hp).1.symm.trans wa)
theorem OwnR.grow {g : Kg} {W W' : Wd} {H H' : Hp} (s : Grow W H W' H') {i : Nat} {d : D} {v : V} (h : OwnR g W H i d v) : OwnR g W' H' i d v := by
  cases d with
  | lst ds =>
    obtain ⟨a, vs, e, h1, h2, h3⟩ := h
    exact ⟨a, vs, e, (s a _ h2).1.trans h1, (s a _ h2).2, RpL.mono s.kp ds vs h3⟩
  | dct t ks ds =>
    obtain ⟨a, vs, e, h1, h2, h3⟩ := h
    rcases h2 with ⟨et, kvs, h, e1, e2⟩ | ⟨et, kvs, h, e1, e2⟩
    · exact ⟨a, vs, e, (s a _ h).1.trans h1, .inl ⟨et, kvs, (s a _ h).2, e1, e2⟩, RpL.mono s.kp ds vs h3⟩
    · exact ⟨a, vs, e, (s a _ h).1.trans h1, .inr ⟨et, kvs, (s a _ h).2, e1, e2⟩, RpL.mono s.kp ds vs h3⟩
  | _ => exact h.elim
theorem SlotR.grow {g : Kg} {W W' : Wd} {H H' : Hp} (s : Grow W H W' H') {i : Nat} {v : Option (Option V)} {o : Option (Option SV)} (h : SlotR g W H i v o) : SlotR g W' H' i v o := by
  cases o with
  | none => trivial
  | some o =>
    cases o with
    | none => trivial
    | some o =>
      cases o with
      | exn e => trivial
      | val b d =>
        cases b with
        | false =>
          obtain ⟨x, e, h⟩ := h
          exact ⟨x, e, Rp.mono s.kp d x h⟩
        | true =>
          obtain ⟨x, e, h⟩ := h
          exact ⟨x, e, OwnR.grow s h⟩
theorem SRep.grow {g : Kg} {s : S} {W W' : Wd} {H H' : Hp} {σ : L2.St} (q : GrowC W H W' H') (h : SRep g s W σ H) : SRep g s W' σ H' :=
  ⟨fun i => (h.slot i).grow q.gr, h.cells.grow q, h.len⟩
end Mv
set_option Elab.async false
set_option linter.all false
set_option maxRecDepth 100000
set_option maxHeartbeats 2000000
/-! Mv2: judgements; names, constants, operators, tests. -/
namespace Mv
open PySem PySem.Spec PyProof.Rows L2

theorem kp_retag {W : Wd} {H : Hp} {a : Addr} {t : Tag} (h1 : W a ≠ .fz) (h2 : ∀ k, W a ≠ .cell k) : Kp W H (W.set a t) H := fun b o e => by
  refine ⟨fun q => ⟨?_, e⟩, fun k q => ⟨?_, ⟨o, e⟩⟩⟩
  · exact (Wd.set_ne (fun z : b = a => h1 (by rw [← z]; exact q))).trans q
  · exact (Wd.set_ne (fun z : b = a => h2 k (by rw [← z]; exact q))).trans q
theorem CRep.retag {g : Kg} {cs : List Cell} {W : Wd} {H : Hp} {a : Addr} {t : Tag} (h1 : W a ≠ .fz) (h2 : ∀ k, W a ≠ .cell k) (h3 : ∀ k, t ≠ .cell k) (h : CRep g cs W H) : CRep g cs (W.set a t) H := by
  have key : ∀ b k, (W.set a t) b = .cell k → W b = .cell k := fun b k q => by
    by_cases e : b = a
    · subst e; rw [Wd.set_same] at q; exact absurd q (h3 k)
    · rw [Wd.set_ne e] at q; exact q
  refine ⟨fun k c e => ?_, fun b c k o u hb hc wb wc => h.uniq b c k o u hb hc (key b k wb) (key c k wc), fun b k o hb wb => h.bnd b k o hb (key b k wb)⟩
  obtain ⟨b, p1, p2⟩ := h.at_ k c e
  refine ⟨b, ?_, p2.mono (kp_retag h1 h2) fun _ q => q⟩
  exact (Wd.set_ne (fun z : b = a => h2 k (by rw [← z]; exact p1))).trans p1
theorem OwnR.retag {g : Kg} {W : Wd} {H : Hp} {a : Addr} {t : Tag} {i : Nat} (h1 : W a ≠ .fz) (h2 : ∀ k, W a ≠ .cell k) (h3 : W a ≠ .own i) {d : D} {v : V} (h : OwnR g W H i d v) : OwnR g (W.set a t) H i d v := by
  cases d with
  | lst ds =>
    obtain ⟨b, vs, e, p1, p2, p3⟩ := h
    exact ⟨b, vs, e, (Wd.set_ne (fun z : b = a => h3 (by rw [← z]; exact p1))).trans p1, p2, RpL.mono (kp_retag h1 h2) ds vs p3⟩
  | dct t ks ds =>
    obtain ⟨b, vs, e, p1, p2, p3⟩ := h
    exact ⟨b, vs, e, (Wd.set_ne (fun z : b = a => h3 (by rw [← z]; exact p1))).trans p1, p2, RpL.mono (kp_retag h1 h2) ds vs p3⟩
  | _ => exact h.elim
/-- the state but for slot i: nobody's or slot i's own gets another tag -/
theorem SlotR.retag {g : Kg} {W : Wd} {H : Hp} {a : Addr} {t : Tag} {j : Nat} {v : Option (Option V)} {o : Option (Option SV)} (h1 : W a ≠ .fz) (h2 : ∀ k, W a ≠ .cell k) (h3 : W a ≠ .own j) (h : SlotR g W H j v o) : SlotR g (W.set a t) H j v o := by
  cases o with
  | none => trivial
  | some o =>
    cases o with
    | none => trivial
    | some o =>
      cases o with
      | exn e => trivial
      | val b d =>
        cases b with
        | false =>
          obtain ⟨x, e, h⟩ := h
          exact ⟨x, e, Rp.mono (kp_retag h1 h2) d x h⟩
        | true =>
          obtain ⟨x, e, h⟩ := h
          exact ⟨x, e, OwnR.retag h1 h2 h3 h⟩

/-! ### judgements -/
inductive Md where
  | e | b | o
def FreshR (g : Kg) (H0 : Hp) (W : Wd) (H : Hp) : D → V → Prop
  | .lst ds, v => ∃ a vs, v = .ref a ∧ H0 a = none ∧ W a = .prv ∧ H a = some (.lst vs) ∧ RpL g W H ds vs
  | .dct t ks ds, v => ∃ a vs, v = .ref a ∧ H0 a = none ∧ W a = .prv ∧ DctAt H a t ks vs ∧ RpL g W H ds vs
  | _, _ => False
def Rm (M : Md) (g : Kg) (H0 : Hp) (W : Wd) (H : Hp) (d : D) (v : V) : Prop := match M with
  | .e => Rp g W H d v
  | .b => RpB g W H d v
  | .o => FreshR g H0 W H d v
inductive RE where
  | ok (d : D) (s : S)
  | exc (e : Exn) (s : S)
  | stuck
abbrev EM := S → RE
def RE.bind (r : RE) (f : D → S → RE) : RE := match r with
  | .ok d s => f d s
  | .exc e s => .exc e s
  | .stuck => .stuck
def RE.lift (o : Option D) (s : S) : RE := match o with
  | some d => .ok d s
  | none => .stuck
def PostE (M : Md) (g : Kg) (U : WX) (W : Wd) (H : Hp) (σ : L2.St) (r : RE) (Q : VK) : Prop := match r with
  | .ok d s => ∀ v W' H', Step W H W' H' → SRep g s W' σ H' → Rm M g H W' H' d v → Q v H'
  | .exc e s => ∀ cls dd W' H', Step W H W' H' → SRep g s W' σ H' → ExnR g W' H' e cls dd → U cls dd σ H'
  | .stuck => False
def tE (M : Md) (g : Kg) (U : WX) (m : EM) : TE := fun σ H Q => ∃ s W, SRep g s W σ H ∧ PostE M g U W H σ (m s) Q
def EvE (M : Md) (X : Cx) (U : WX) (e : Expr) (m : EM) : Prop := PE X e (tE M (kg X) U m)

theorem PE.imp {X : Cx} {e : Expr} {t t' : TE} (h : PE X e t) (f : ∀ σ H Q, t' σ H Q → t σ H Q) : PE X e t' := ⟨fun pins s σ H Q I q => h.run pins s σ H Q I (f σ H Q q)⟩
theorem PT.imp {X : Cx} {e : Expr} {t t' : TT} (h : PT X e t) (f : ∀ σ H Q, t' σ H Q → t σ H Q) : PT X e t' := ⟨fun pins s σ H Q I q => h.run pins s σ H Q I (f σ H Q q)⟩
theorem PW.imp {X : Cx} {e : Expr} {t t' : TT} (h : PW X e t) (f : ∀ σ H Q, t' σ H Q → t σ H Q) : PW X e t' := ⟨fun wh pins s σ H Q I q => h.run wh pins s σ H Q I (f σ H Q q)⟩
theorem PS.imp {X : Cx} {e : Stmt} {t t' : TS} (h : PS X e t) (f : ∀ D σ H, t' D σ H → t D σ H) : PS X e t' := ⟨fun pins s σ H D I q => h.run pins s σ H D I (f D σ H q)⟩
theorem PSs.imp {X : Cx} {e : List Stmt} {t t' : TS} (h : PSs X e t) (f : ∀ D σ H, t' D σ H → t D σ H) : PSs X e t' := ⟨fun pins s σ H D I q => h.run pins s σ H D I (f D σ H q)⟩
theorem PA.imp {X : Cx} {e : List Expr} {t t' : TA} (h : PA X e t) (f : ∀ σ H Q, t' σ H Q → t σ H Q) : PA X e t' := ⟨fun pos pins s σ H Q I q => h.run pos pins s σ H Q I (f σ H Q q)⟩

theorem FreshR.weak {g : Kg} {H0 H1 : Hp} {W : Wd} {H : Hp} {d : D} {v : V} (f : ∀ a, H1 a = none → H0 a = none) (h : FreshR g H1 W H d v) : FreshR g H0 W H d v := by
  cases d with
  | lst ds =>
    obtain ⟨a, vs, e, p1, p2⟩ := h
    exact ⟨a, vs, e, f a p1, p2⟩
  | dct t ks ds =>
    obtain ⟨a, vs, e, p1, p2⟩ := h
    exact ⟨a, vs, e, f a p1, p2⟩
  | _ => exact h.elim
theorem Rm.weak {M : Md} {g : Kg} {H0 H1 : Hp} {W : Wd} {H : Hp} {d : D} {v : V} (f : ∀ a, H1 a = none → H0 a = none) (h : Rm M g H1 W H d v) : Rm M g H0 W H d v := by
  cases M with
  | e => exact h
  | b => exact h
  | o => exact FreshR.weak f h
theorem Step.none {W W' : Wd} {H H' : Hp} (s : Step W H W' H') (a : Addr) (h : H' a = Option.none) : H a = Option.none := by
  cases e : H a with
  | none => rfl
  | some o =>
    obtain ⟨_, ⟨o', q⟩, _⟩ := s a o e
    rw [q] at h; cases h
section
variable {M : Md} {g : Kg} {U : WX} {W W1 : Wd} {H H1 : Hp} {σ : L2.St} {r : RE} {Q Q' : VK}
theorem PostE.mono (h : PostE M g U W H σ r Q) (f : ∀ v H1, Q v H1 → Q' v H1) : PostE M g U W H σ r Q' := by
  cases r with
  | ok d s => exact fun v W' H' st sr rp => f _ _ (h v W' H' st sr rp)
  | exc e s => exact h
  | stuck => exact h
theorem PostE.step (st : Step W H W1 H1) (h : PostE M g U W H σ r Q) : PostE M g U W1 H1 σ r Q := by
  cases r with
  | ok d s => exact fun v W' H' st' sr rp => h v W' H' (st.trans st') sr (rp.weak st.none)
  | exc e s => exact fun cls dd W' H' st' sr ex => h cls dd W' H' (st.trans st') sr ex
  | stuck => exact h
theorem PostE.bind {N : Md} {f : D → S → RE} (h : PostE M g U W H σ (r.bind f) Q) : PostE N g U W H σ r (fun v H1 => ∃ d s1 W1, r = .ok d s1 ∧ Step W H W1 H1 ∧ SRep g s1 W1 σ H1 ∧ Rm N g H W1 H1 d v ∧ PostE M g U W1 H1 σ (f d s1) Q) := by
  cases r with
  | ok d s => exact fun v W' H' st sr rp => ⟨d, s, W', rfl, st, sr, rp, PostE.step st h⟩
  | exc e s => exact h
  | stuck => exact h
theorem PostE.b_of_e (h : PostE .b g U W H σ r Q) : PostE .e g U W H σ r Q := by
  cases r with
  | ok d s => exact fun v W' H' st sr rp => h v W' H' st sr (RpB.of rp)
  | exc e s => exact h
  | stuck => exact h
/-- what is fresh may be given away, to be read only -/
theorem PostE.e_of_o (h : PostE .e g U W H σ r Q) : PostE .o g U W H σ r Q := by
  cases r with
  | exc e s => exact h
  | stuck => exact h
  | ok d s =>
    intro v W' H' st sr rp
    have key : ∀ a, H a = none → W' a = .prv → (∃ o, H' a = some o) → Step W H (W'.set a .fz) H' ∧ SRep g s (W'.set a .fz) σ H' ∧ Kp W' H' (W'.set a .fz) H' := fun a h0 hp _ => by
      have n1 : W' a ≠ .fz := by rw [hp]; exact fun z => nomatch z
      have n2 : ∀ k, W' a ≠ .cell k := by rw [hp]; exact fun k z => nomatch z
      refine ⟨fun b o e => ?_, ⟨fun i => SlotR.retag n1 n2 (by rw [hp]; exact fun z => nomatch z) (sr.slot i), sr.cells.retag n1 n2 (fun k z => nomatch z), sr.len⟩, kp_retag n1 n2⟩
      have ne : b ≠ a := fun z => by rw [z, h0] at e; cases e
      rw [Wd.set_ne ne]
      exact st b o e
    cases d with
    | lst ds =>
      obtain ⟨a, vs, e, p1, p2, p3, p4⟩ := rp
      obtain ⟨k1, k2, k3⟩ := key a p1 p2 ⟨_, p3⟩
      exact h v _ H' k1 k2 ⟨a, vs, e, Wd.set_same, p3, RpL.mono k3 ds vs p4⟩
    | dct t ks ds =>
      obtain ⟨a, vs, e, p1, p2, p3, p4⟩ := rp
      have ex : ∃ o, H' a = some o := by
        rcases p3 with ⟨_, kvs, q, _⟩ | ⟨_, kvs, q, _⟩
        · exact ⟨_, q⟩
        · exact ⟨_, q⟩
      obtain ⟨k1, k2, k3⟩ := key a p1 p2 ex
      exact h v _ H' k1 k2 ⟨a, vs, e, Wd.set_same, p3.is, RpL.mono k3 ds vs p4⟩
    | _ => exact rp.elim
end
section
variable {X : Cx} {U : WX} {e a b c : Expr} {m ma mb mc : EM} {pos : Pos}
theorem EvE.toB (h : EvE .e X U e m) : EvE .b X U e m := PE.imp h fun _ _ _ ⟨s, W, sr, q⟩ => ⟨s, W, sr, q.b_of_e⟩
theorem EvE.fz (h : EvE .o X U e m) : EvE .e X U e m := PE.imp h fun _ _ _ ⟨s, W, sr, q⟩ => ⟨s, W, sr, q.e_of_o⟩
theorem EvE.fzb (h : EvE .o X U e m) : EvE .b X U e m := EvE.toB (EvE.fz h)

/-! ### names, constants -/
def eVar (i : Nat) : EM := fun s => match s.sl[i]? with
  | some (some (.val false d)) => .ok d s
  | some (some (.val true d)) => .ok d { s with sl := s.sl.set i (some (.val false d)) }
  | _ => .stuck
def eVarB (i : Nat) : EM := fun s => match s.sl[i]? with
  | some (some (.val _ d)) => .ok d s
  | _ => .stuck
def eC (d : D) : EM := fun s => .ok d s
theorem set_slots {l : List (Option SV)} {i j : Nat} {x : Option SV} (h : j ≠ i) : (l.set i x)[j]? = l[j]? := by
  rw [List.getElem?_set_ne (Ne.symm h)]
theorem own_ne {g : Kg} {W : Wd} {H : Hp} {i : Nat} {d : D} {v : V} (h : OwnR g W H i d v) : ∃ a, v = .ref a ∧ W a = .own i ∧ (∃ o, H a = some o) := by
  cases d with
  | lst ds =>
    obtain ⟨a, vs, e, h1, h2, h3⟩ := h
    exact ⟨a, e, h1, _, h2⟩
  | dct t ks ds =>
    obtain ⟨a, vs, e, h1, h2, h3⟩ := h
    rcases h2 with ⟨_, kvs, q, _⟩ | ⟨_, kvs, q, _⟩
    · exact ⟨a, e, h1, _, q⟩
    · exact ⟨a, e, h1, _, q⟩
  | _ => exact h.elim
theorem OwnR.frozen {g : Kg} {W : Wd} {H : Hp} {i : Nat} {d : D} {a : Addr} (hw : W a = .own i) (h : OwnR g W H i d (.ref a)) : Rp g (W.set a .fz) H d (.ref a) := by
  have k : Kp W H (W.set a .fz) H := kp_retag (by rw [hw]; exact fun z => nomatch z) (by rw [hw]; exact fun k z => nomatch z)
  cases d with
  | lst ds =>
    obtain ⟨b, vs, e, h1, h2, h3⟩ := h
    injection e with e
    subst e
    exact ⟨a, vs, rfl, Wd.set_same, h2, RpL.mono k ds vs h3⟩
  | dct t ks ds =>
    obtain ⟨b, vs, e, h1, h2, h3⟩ := h
    injection e with e
    subst e
    exact ⟨a, vs, rfl, Wd.set_same, h2.is, RpL.mono k ds vs h3⟩
  | _ => exact h.elim
theorem ev_var {i : Nat} {x : Str} (hN : X.N[i]? = some x) (hv : Vis X.env.scope x) (hd : (x == ("__debug__" : Str)) = false := by decide) (hcd : (x == ("__classdict__" : Str)) = false := by decide) : EvE .e X U (.Name x pos) (eVar i) := by
  refine PE.imp (pe_var hN hv hd hcd) fun σ H Q ⟨s, W, sr, q⟩ => ?_
  have hs := sr.slot i
  unfold eVar at q
  split at q
  · rename_i d e
    rw [e] at hs
    obtain ⟨x, e1, rp⟩ := hs
    exact ⟨x, e1, q x W H Step.refl sr rp⟩
  · rename_i d e
    rw [e] at hs
    obtain ⟨x, e1, ow⟩ := hs
    obtain ⟨a, ea, hw, o, ho⟩ := own_ne ow
    subst ea
    have n1 : W a ≠ .fz := by rw [hw]; exact fun z => nomatch z
    have n2 : ∀ k, W a ≠ .cell k := by rw [hw]; exact fun k z => nomatch z
    refine ⟨_, e1, q _ (W.set a .fz) H (fun b u eb => ⟨fun _ => eb, ⟨u, eb⟩, ?_⟩) ⟨fun j => ?_, sr.cells.retag n1 n2 (fun k z => nomatch z), by rw [← sr.len]; simp⟩ (ow.frozen hw)⟩
    · by_cases eq : b = a
      · subst eq; exact .inr ⟨⟨i, hw⟩, Wd.set_same⟩
      · exact .inl (Wd.set_ne eq)
    · by_cases ej : j = i
      · subst ej
        have hl : j < s.sl.length := by
          obtain ⟨z, _⟩ := List.getElem?_eq_some_iff.mp e
          exact z
        have es : (s.sl.set j (some (SV.val false d)))[j]? = some (some (.val false d)) := by
          rw [List.getElem?_set_self hl]
        show SlotR _ _ _ _ _ ((s.sl.set j (some (SV.val false d)))[j]?)
        rw [es]
        exact ⟨_, e1, ow.frozen hw⟩
      · show SlotR _ _ _ _ _ ((s.sl.set i (some (SV.val false d)))[j]?)
        rw [set_slots ej]
        exact SlotR.retag n1 n2 (by rw [hw]; intro z; injection z with z; exact ej z.symm) (sr.slot j)
  · exact q.elim
theorem ev_varB {i : Nat} {x : Str} (hN : X.N[i]? = some x) (hv : Vis X.env.scope x) (hd : (x == ("__debug__" : Str)) = false := by decide) (hcd : (x == ("__classdict__" : Str)) = false := by decide) : EvE .b X U (.Name x pos) (eVarB i) := by
  refine PE.imp (pe_var hN hv hd hcd) fun σ H Q ⟨s, W, sr, q⟩ => ?_
  have hs := sr.slot i
  unfold eVarB at q
  split at q
  · rename_i bo d e
    rw [e] at hs
    cases bo with
    | false =>
      obtain ⟨x, e1, rp⟩ := hs
      exact ⟨x, e1, q x W H Step.refl sr (RpB.of rp)⟩
    | true =>
      obtain ⟨x, e1, ow⟩ := hs
      refine ⟨x, e1, q x W H Step.refl sr ?_⟩
      cases d with
      | lst ds =>
        obtain ⟨a, vs, e, h1, h2, h3⟩ := ow
        exact ⟨a, vs, e, (fun k z => by rw [h1] at z; cases z), h2, h3⟩
      | dct t ks ds =>
        obtain ⟨a, vs, e, h1, h2, h3⟩ := ow
        exact ⟨a, vs, e, (fun k z => by rw [h1] at z; cases z), h2.is, h3⟩
      | _ => exact ow.elim
  · exact q.elim
theorem ev_const {d : D} {v : V} (h : PE X e (tC v)) (r : ∀ W H, Rp (kg X) W H d v) : EvE .e X U e (eC d) :=
  PE.imp h fun _ H _ ⟨_, W, sr, q⟩ => q v W H Step.refl sr (r W H)
theorem ev_int {i j} : EvE .e X U (.Constant (.int i) j pos) (eC (.int i)) := ev_const pe_int fun _ _ => rfl
theorem ev_bl {b j} : EvE .e X U (.Constant (.bool b) j pos) (eC (.bl b)) := ev_const pe_bl fun _ _ => rfl
theorem ev_non {j} : EvE .e X U (.Constant .none j pos) (eC .non) := ev_const pe_non fun _ _ => rfl
theorem ev_str {x j} : EvE .e X U (.Constant (.str x) j pos) (eC (.str x)) := ev_const pe_str fun _ _ => rfl

/-! ### operators by values -/
/-- as it stands now: a list's or dict's address may be anyone's -/
def RpN (g : Kg) (W : Wd) (H : Hp) : D → V → Prop
  | .lst ds, v => ∃ a vs, v = .ref a ∧ H a = some (.lst vs) ∧ RpL g W H ds vs
  | .dct t ks ds, v => ∃ a vs, v = .ref a ∧ DctIs H a t ks vs ∧ RpL g W H ds vs
  | .non, v => v = .non
  | .bl b, v => v = .bl b
  | .int i, v => v = .int i
  | .str s, v => v = .str s
  | .tup ds, v => Rp g W H (.tup ds) v
  | .ktp ds, v => Rp g W H (.ktp ds) v
  | .scr ns, v => Rp g W H (.scr ns) v
  | .cell k, v => Rp g W H (.cell k) v
def deref (cs : List Cell) : D → D
  | .cell k => match cs[k]? with
    | some (.lst xs) => .lst xs
    | _ => .cell k
  | d => d
theorem RpN.ofB {g : Kg} {W : Wd} {H : Hp} {d : D} {v : V} (h : RpB g W H d v) : RpN g W H d v := by
  cases d with
  | lst ds =>
    obtain ⟨a, vs, e, _, h, r⟩ := h
    exact ⟨a, vs, e, h, r⟩
  | dct t ks ds =>
    obtain ⟨a, vs, e, _, h, r⟩ := h
    exact ⟨a, vs, e, h, r⟩
  | _ => exact h
theorem RpN.deref {g : Kg} {cs : List Cell} {W : Wd} {H : Hp} {d : D} {v : V} (c : CRep g cs W H) (h : RpB g W H d v) : RpN g W H (deref cs d) v := by
  have hn := RpN.ofB h
  cases d with
  | cell k =>
    have go : ∀ o : Option Cell, cs[k]? = o → RpN g W H (match (motive := Option Cell → D) o with | some (.lst xs) => .lst xs | _ => .cell k) v := fun o eo => by
      cases o with
      | none => exact hn
      | some c0 =>
        cases c0 with
        | ins _ _ => exact hn
        | lst xs =>
          obtain ⟨a, e1, w1, o, ho⟩ := h
          obtain ⟨b, w2, vs, hb, r⟩ := c.at_ _ _ eo
          have := c.uniq a b k o _ ho hb w1 w2
          subst this
          exact ⟨a, vs, e1, hb, r⟩
    exact go _ rfl
  | _ => exact hn
/-- r gives o of the data, whatever they stand at -/
def OpD (g : Kg) (M : Md) (r : R2) (o : D → D → Option D) : Prop := ∀ (W : Wd) (H : Hp) (d1 d2 d : D) (x y : V) (Q : VK), RpN g W H d1 x → RpN g W H d2 y → o d1 d2 = some d →
  (∀ v W' H', GrowC W H W' H' → Rm M g H W' H' d v → Q v H') → r x y H Q
def eBin (o : D → D → Option D) (ma mb : EM) : EM := fun s => (ma s).bind fun d1 s1 => (mb s1).bind fun d2 s2 => RE.lift (o (deref s2.cs d1) (deref s2.cs d2)) s2
theorem op_go {M : Md} {r : R2} {o : D → D → Option D} (hd : OpD (kg X) M r o) {σ : L2.St} {H : Hp} {Q : VK} (h : tE M (kg X) U (eBin o ma mb) σ H Q) : tOp r (tE .b (kg X) U ma) (tE .b (kg X) U mb) σ H Q := by
  obtain ⟨s, W, sr, h⟩ := h
  refine ⟨s, W, sr, (PostE.bind h).mono fun x H1 ⟨d1, s1, W1, e1, st1, sr1, rp1, h1⟩ => ⟨s1, W1, sr1, (PostE.bind h1).mono fun y H2 ⟨d2, s2, W2, e2, st2, sr2, rp2, h2⟩ => ?_⟩⟩
  cases eo : o (deref s2.cs d1) (deref s2.cs d2) with
  | none => rw [eo] at h2; exact h2.elim
  | some d =>
    rw [eo] at h2
    exact hd W2 H2 _ _ d x y Q (RpN.deref sr2.cells (RpB.step st2 rp1)) (RpN.deref sr2.cells rp2) eo fun v W3 H3 gr rp => h2 v W3 H3 gr.gr.step (sr2.grow gr) rp
theorem ev_bin {M : Md} {op : Operator} {r : R2} {o : D → D → Option D} (ho : OpR X (binaryOp op) r) (hd : OpD (kg X) M r o) (ha : EvE .b X U a ma) (hb : EvE .b X U b mb) : EvE M X U (.BinOp a op b pos) (eBin o ma mb) :=
  PE.imp (pe_op ho ha hb) fun _ _ _ h => op_go hd h
theorem ev_cmp {op : CmpOp} {r : R2} {o : D → D → Option D} (ho : OpR X (compareOp op) r) (hd : OpD (kg X) .e r o) (ha : EvE .b X U a ma) (hb : EvE .b X U b mb) (hm : behindInMarks op b = false) : EvE .e X U (.Compare a [op] [b] pos) (eBin o ma mb) :=
  PE.imp (pe_cmpR ho ha hb hm) fun _ _ _ h => op_go hd h
def UnD (g : Kg) (M : Md) (r : V → Hp → VK → Prop) (o : D → Option D) : Prop := ∀ (W : Wd) (H : Hp) (d1 d : D) (x : V) (Q : VK), RpN g W H d1 x → o d1 = some d →
  (∀ v W' H', GrowC W H W' H' → Rm M g H W' H' d v → Q v H') → r x H Q
def eUn (o : D → Option D) (ma : EM) : EM := fun s => (ma s).bind fun d1 s1 => RE.lift (o (deref s1.cs d1)) s1
theorem un_go {M : Md} {r : V → Hp → VK → Prop} {o : D → Option D} (hd : UnD (kg X) M r o) {σ : L2.St} {H : Hp} {Q : VK} (h : tE M (kg X) U (eUn o ma) σ H Q) : tUn r (tE .b (kg X) U ma) σ H Q := by
  obtain ⟨s, W, sr, h⟩ := h
  refine ⟨s, W, sr, (PostE.bind h).mono fun x H1 ⟨d1, s1, W1, e1, st1, sr1, rp1, h1⟩ => ?_⟩
  cases eo : o (deref s1.cs d1) with
  | none => rw [eo] at h1; exact h1.elim
  | some d =>
    rw [eo] at h1
    exact hd W1 H1 _ d x Q (RpN.deref sr1.cells rp1) eo fun v W3 H3 gr rp => h1 v W3 H3 gr.gr.step (sr1.grow gr) rp
theorem ev_un {M : Md} {op : UnaryOp} {r : V → Hp → VK → Prop} {o : D → Option D} (ho : UnR X (unaryOp op) r) (hd : UnD (kg X) M r o) (ha : EvE .b X U a ma) : EvE M X U (.UnaryOp op a pos) (eUn o ma) :=
  PE.imp (pe_un ho ha) fun _ _ _ h => un_go hd h

/-! ### argument lists -/
inductive RL where
  | ok (ds : List D) (s : S)
  | exc (e : Exn) (s : S)
  | stuck
abbrev AM := S → RL
def RL.bind (r : RL) (f : List D → S → RE) : RE := match r with
  | .ok d s => f d s
  | .exc e s => .exc e s
  | .stuck => .stuck
def aNil : AM := fun s => .ok [] s
def aCons (m : EM) (r : AM) : AM := fun s => match m s with
  | .ok d s1 => (match r s1 with
    | .ok ds s2 => .ok (d :: ds) s2
    | .exc e s2 => .exc e s2
    | .stuck => .stuck)
  | .exc e s1 => .exc e s1
  | .stuck => .stuck
/-- M for each -/
def RmL (M : Md) (g : Kg) (W : Wd) (H : Hp) : List D → List V → Prop
  | [], vs => vs = []
  | d :: ds, vs => ∃ v r, vs = v :: r ∧ (match M with | .e => Rp g W H d v | _ => RpB g W H d v) ∧ RmL M g W H ds r
def PostA (M : Md) (g : Kg) (U : WX) (W : Wd) (H : Hp) (σ : L2.St) (r : RL) (Q : List V → Hp → Prop) : Prop := match r with
  | .ok ds s => ∀ vs W' H', Step W H W' H' → SRep g s W' σ H' → RmL M g W' H' ds vs → Q vs H'
  | .exc e s => ∀ cls dd W' H', Step W H W' H' → SRep g s W' σ H' → ExnR g W' H' e cls dd → U cls dd σ H'
  | .stuck => False
def tA (M : Md) (g : Kg) (U : WX) (m : AM) : TA := fun σ H Q => ∃ s W, SRep g s W σ H ∧ PostA M g U W H σ (m s) Q
def EvA (M : Md) (X : Cx) (U : WX) (es : List Expr) (m : AM) : Prop := PA X es (tA M (kg X) U m)
def mdE : Md → Md
  | .e => .e
  | _ => .b
theorem ea_nil {M : Md} : EvA M X U [] aNil := PA.imp pa_nil fun σ H Q ⟨s, W, sr, h⟩ => h [] W H Step.refl sr rfl
theorem ea_cons {M : Md} {es : List Expr} {r : AM} (ha : EvE (mdE M) X U a m) (hr : EvA M X U es r) (hs : starEach (a :: es) X.env = (false, eval a X.env) :: starEach es X.env := by rfl) : EvA M X U (a :: es) (aCons m r) := by
  refine PA.imp (pa_cons ha hr hs) fun σ H Q ⟨s, W, sr, h⟩ => ⟨s, W, sr, ?_⟩
  unfold aCons at h
  cases e1 : m s with
  | stuck => rw [e1] at h; exact h
  | exc e s1 => rw [e1] at h; exact h
  | ok d s1 =>
    rw [e1] at h
    dsimp only at h
    intro v W1 H1 st1 sr1 rp1
    refine ⟨s1, W1, sr1, ?_⟩
    cases e2 : r s1 with
    | stuck => rw [e2] at h; exact h
    | exc e s2 => rw [e2] at h; exact fun cls dd W2 H2 st2 => h cls dd W2 H2 (st1.trans st2)
    | ok ds s2 =>
      rw [e2] at h
      intro vs W2 H2 st2 sr2 rp2
      refine h (v :: vs) W2 H2 (st1.trans st2) sr2 ⟨v, vs, rfl, ?_, rp2⟩
      cases M with
      | e => exact Rp.mono st2.kp d v rp1
      | b => exact RpB.step st2 rp1
      | o => exact RpB.step st2 rp1
theorem PostA.bind {M N : Md} {g : Kg} {W : Wd} {H : Hp} {σ : L2.St} {r : RL} {f : List D → S → RE} {Q : VK} (h : PostE M g U W H σ (r.bind f) Q) :
    PostA N g U W H σ r (fun vs H1 => ∃ ds s1 W1, r = .ok ds s1 ∧ Step W H W1 H1 ∧ SRep g s1 W1 σ H1 ∧ RmL N g W1 H1 ds vs ∧ PostE M g U W1 H1 σ (f ds s1) Q) := by
  cases r with
  | ok d s => exact fun v W' H' st sr rp => ⟨d, s, W', rfl, st, sr, rp, PostE.step st h⟩
  | exc e s => exact h
  | stuck => exact h
theorem PostA.mono {N : Md} {g : Kg} {W : Wd} {H : Hp} {σ : L2.St} {r : RL} {Q Q' : List V → Hp → Prop} (h : PostA N g U W H σ r Q) (f : ∀ v H1, Q v H1 → Q' v H1) : PostA N g U W H σ r Q' := by
  cases r with
  | ok d s => exact fun v W' H' st sr rp => f _ _ (h v W' H' st sr rp)
  | exc e s => exact h
  | stuck => exact h
theorem RmL.toRp {g : Kg} {W : Wd} {H : Hp} : ∀ {ds : List D} {vs : List V}, RmL .e g W H ds vs → RpL g W H ds vs
  | [], _, h => h
  | _ :: _, _, h => by
    obtain ⟨v, r, e, h1, h2⟩ := h
    exact ⟨v, r, e, h1, RmL.toRp h2⟩
theorem RpL.length {g : Kg} {W : Wd} {H : Hp} : ∀ {ds : List D} {vs : List V}, RpL g W H ds vs → ds.length = vs.length
  | [], _, h => by cases h; rfl
  | _ :: _, _, h => by
    obtain ⟨v, r, e, h1, h2⟩ := h
    subst e
    simp [RpL.length h2]

/-- a new object at p, with a tag -/
theorem grow_new {W : Wd} {H : Hp} {p : Addr} {o : HO} {t : Tag} (hp : H p = Option.none) (ht : ∀ k, t ≠ .cell k) : GrowC W H (W.set p t) (upd H p o) := by
  have ne : ∀ a u, H a = some u → a ≠ p := fun a u e z => by rw [z, hp] at e; cases e
  refine ⟨fun a u e => ⟨Wd.set_ne (ne a u e), (upd_ne (ne a u e)).trans e⟩, fun a u k e q => ?_⟩
  by_cases z : a = p
  · subst z; rw [Wd.set_same] at q; exact absurd q (ht k)
  · rw [upd_ne z] at e; exact ⟨u, e⟩
/-! ### displays -/
def eTup (m : AM) : EM := fun s => (m s).bind fun ds s1 => if ds.length ≤ sizeLine then .ok (.tup ds) s1 else .stuck
def eLst (m : AM) : EM := fun s => (m s).bind fun ds s1 => if ds.length ≤ sizeLine then .ok (.lst ds) s1 else .stuck
theorem ev_tup {es : List Expr} {r : AM} {x1} (h : EvA .e X U es r) : EvE .e X U (.Tuple es x1 pos) (eTup r) := by
  refine PE.imp (pe_tup h) fun σ H Q ⟨s, W, sr, h⟩ => ⟨s, W, sr, (PostA.bind h).mono fun vs H1 ⟨ds, s1, W1, e1, st1, sr1, rp1, h1⟩ => ?_⟩
  have rl := RmL.toRp rp1
  split at h1
  · rename_i hl
    refine ⟨by rw [← rl.length]; exact hl, fun p hp => ?_⟩
    have gr : GrowC W1 H1 (W1.set p .fz) (upd H1 p (.tup vs)) := grow_new hp (fun k z => nomatch z)
    exact h1 _ _ _ gr.gr.step (sr1.grow gr) ⟨p, vs, rfl, Wd.set_same, upd_same, RpL.mono gr.gr.kp ds vs rl⟩
  · exact h1.elim
theorem ev_lst {es : List Expr} {r : AM} (h : EvA .e X U es r) : EvE .o X U (.List es pos) (eLst r) := by
  refine PE.imp (pe_lst h) fun σ H Q ⟨s, W, sr, h⟩ => ⟨s, W, sr, (PostA.bind h).mono fun vs H1 ⟨ds, s1, W1, e1, st1, sr1, rp1, h1⟩ => ?_⟩
  have rl := RmL.toRp rp1
  split at h1
  · rename_i hl
    refine ⟨by rw [← rl.length]; exact hl, fun p hp => ?_⟩
    have gr : GrowC W1 H1 (W1.set p .prv) (upd H1 p (.lst vs)) := grow_new hp (fun k z => nomatch z)
    exact h1 _ _ _ gr.gr.step (sr1.grow gr) ⟨p, vs, rfl, hp, Wd.set_same, upd_same, RpL.mono gr.gr.kp ds vs rl⟩
  · exact h1.elim

/-! ### tests -/
def PostT (g : Kg) (U : WX) (W : Wd) (H : Hp) (σ : L2.St) (r : RE) (Q : Bool → Hp → Prop) : Prop := match r with
  | .ok (.bl b) s => ∀ W' H', Step W H W' H' → SRep g s W' σ H' → Q b H'
  | .ok _ _ => False
  | .exc e s => ∀ cls dd W' H', Step W H W' H' → SRep g s W' σ H' → ExnR g W' H' e cls dd → U cls dd σ H'
  | .stuck => False
def tT (g : Kg) (U : WX) (m : EM) : TT := fun σ H Q => ∃ s W, SRep g s W σ H ∧ PostT g U W H σ (m s) Q
def EvT (X : Cx) (U : WX) (e : Expr) (m : EM) : Prop := PT X e (tT (kg X) U m)
def EvW (X : Cx) (U : WX) (e : Expr) (m : EM) : Prop := PW X e (tT (kg X) U m)
theorem PostT.mono {g : Kg} {W : Wd} {H : Hp} {σ : L2.St} {r : RE} {Q Q' : Bool → Hp → Prop} (h : PostT g U W H σ r Q) (f : ∀ v H1, Q v H1 → Q' v H1) : PostT g U W H σ r Q' := by
  cases r with
  | ok d s =>
    cases d with
    | bl b => exact fun W' H' st sr => f _ _ (h W' H' st sr)
    | _ => exact h.elim
  | exc e s => exact h
  | stuck => exact h
theorem PostT.step {g : Kg} {W W1 : Wd} {H H1 : Hp} {σ : L2.St} {r : RE} {Q : Bool → Hp → Prop} (st : Step W H W1 H1) (h : PostT g U W H σ r Q) : PostT g U W1 H1 σ r Q := by
  cases r with
  | ok d s =>
    cases d with
    | bl b => exact fun W' H' st' sr => h W' H' (st.trans st') sr
    | _ => exact h.elim
  | exc e s => exact fun cls dd W' H' st' sr ex => h cls dd W' H' (st.trans st') sr ex
  | stuck => exact h
theorem PostT.toE {g : Kg} {W : Wd} {H : Hp} {σ : L2.St} {r : RE} {Q : Bool → Hp → Prop} (h : PostT g U W H σ r Q) : PostE .b g U W H σ r (fun x H1 => ∃ k, x = .bl k ∧ Q k H1) := by
  cases r with
  | ok d s =>
    cases d with
    | bl b => exact fun v W' H' st sr rp => ⟨b, rp, h W' H' st sr⟩
    | _ => exact h.elim
  | exc e s => exact h
  | stuck => exact h
theorem PostE.e_of_b' {M : Md} {g : Kg} {W : Wd} {H : Hp} {σ : L2.St} {r : RE} {Q : VK} (h : PostE .b g U W H σ r Q) : PostE .e g U W H σ r Q := h.b_of_e
theorem PostT.bind {g : Kg} {W : Wd} {H : Hp} {σ : L2.St} {N : Md} {r : RE} {f : D → S → RE} {Q : Bool → Hp → Prop} (h : PostT g U W H σ (r.bind f) Q) :
    PostE N g U W H σ r (fun v H1 => ∃ d s1 W1, r = .ok d s1 ∧ Step W H W1 H1 ∧ SRep g s1 W1 σ H1 ∧ Rm N g H W1 H1 d v ∧ PostT g U W1 H1 σ (f d s1) Q) := by
  cases r with
  | ok d s => exact fun v W' H' st sr rp => ⟨d, s, W', rfl, st, sr, rp, PostT.step st h⟩
  | exc e s => exact h
  | stuck => exact h
/-- an expression whose value is a bool -/
theorem et_val (h : EvE .b X U e m) (he : ∀ whole, isTrue e X.env whole = (do let v ← whole; standAt e.pos; holding [v] (truthy v)) := by intro _; rfl) : EvT X U e m :=
  PT.imp (pt_val h he) fun σ H Q ⟨s, W, sr, h⟩ => ⟨s, W, sr, PostT.toE h⟩
theorem et_cmp {op : CmpOp} {r : R2} {o : D → D → Option D} (ho : OpR X (compareOp op) r) (hd : OpD (kg X) .e r o) (ha : EvE .b X U a ma) (hb : EvE .b X U b mb) (hm : behindInMarks op b = false) : EvT X U (.Compare a [op] [b] pos) (eBin o ma mb) :=
  PT.imp (pt_cmpR ho ha hb hm) fun σ H Q ⟨s, W, sr, h⟩ => op_go hd ⟨s, W, sr, (PostT.toE h).b_of_e⟩
def eNot (m : EM) : EM := fun s => (m s).bind fun d s1 => match d with
  | .bl b => .ok (.bl (!b)) s1
  | _ => .stuck
theorem PostT.not {g : Kg} {W : Wd} {H : Hp} {σ : L2.St} {s : S} {Q : Bool → Hp → Prop} (h : PostT g U W H σ (eNot m s) Q) : PostT g U W H σ (m s) fun c H1 => Q (!c) H1 := by
  unfold eNot at h
  cases e1 : m s with
  | ok d s1 =>
    rw [e1] at h
    cases d with
    | bl b => exact h
    | _ => exact h.elim
  | exc e s1 => rw [e1] at h; exact h
  | stuck => rw [e1] at h; exact h
theorem et_not (h : EvT X U e m) : EvT X U (.UnaryOp .Not e pos) (eNot m) := PT.imp (pt_not h) fun σ H Q ⟨s, W, sr, h⟩ => ⟨s, W, sr, h.not⟩
def eAnd (ma mb : EM) : EM := fun s => (ma s).bind fun d s1 => match d with
  | .bl true => mb s1
  | .bl false => .ok (.bl false) s1
  | _ => .stuck
def eOr (ma mb : EM) : EM := fun s => (ma s).bind fun d s1 => match d with
  | .bl false => mb s1
  | .bl true => .ok (.bl true) s1
  | _ => .stuck
section
variable {rest : List Expr}
theorem PostT.and {g : Kg} {W : Wd} {H : Hp} {σ : L2.St} {s : S} {Q : Bool → Hp → Prop} (h : PostT g U W H σ (eAnd ma mb s) Q) :
    PostT g U W H σ (ma s) fun c H1 => if c = true then tT g U mb σ H1 Q else Q false H1 := by
  unfold eAnd at h
  cases e1 : ma s with
  | ok d s1 =>
    rw [e1] at h
    cases d with
    | bl b =>
      cases b with
      | true =>
        intro W' H' st sr
        rw [if_pos rfl]
        exact ⟨s1, W', sr, PostT.step st h⟩
      | false =>
        intro W' H' st sr
        rw [if_neg Bool.false_ne_true]
        exact h W' H' st sr
    | _ => exact h.elim
  | exc e s1 => rw [e1] at h; exact h
  | stuck => rw [e1] at h; exact h
theorem PostT.or {g : Kg} {W : Wd} {H : Hp} {σ : L2.St} {s : S} {Q : Bool → Hp → Prop} (h : PostT g U W H σ (eOr ma mb s) Q) :
    PostT g U W H σ (ma s) fun c H1 => if c = true then Q true H1 else tT g U mb σ H1 Q := by
  unfold eOr at h
  cases e1 : ma s with
  | ok d s1 =>
    rw [e1] at h
    cases d with
    | bl b =>
      cases b with
      | false =>
        intro W' H' st sr
        rw [if_neg Bool.false_ne_true]
        exact ⟨s1, W', sr, PostT.step st h⟩
      | true =>
        intro W' H' st sr
        rw [if_pos rfl]
        exact h W' H' st sr
    | _ => exact h.elim
  | exc e s1 => rw [e1] at h; exact h
  | stuck => rw [e1] at h; exact h
theorem ew_and1 (ha : EvT X U a ma) : EvW X U (.BoolOp .And [a] pos) ma := pw_and1 ha
theorem ew_or1 (ha : EvT X U a ma) : EvW X U (.BoolOp .Or [a] pos) ma := pw_or1 ha
theorem ew_and (ha : EvT X U a ma) (hb : EvW X U (.BoolOp .And (b :: rest) pos) mb) : EvW X U (.BoolOp .And (a :: b :: rest) pos) (eAnd ma mb) :=
  PW.imp (pw_and ha hb) fun σ H Q ⟨s, W, sr, h⟩ => ⟨s, W, sr, h.and⟩
theorem ew_or (ha : EvT X U a ma) (hb : EvW X U (.BoolOp .Or (b :: rest) pos) mb) : EvW X U (.BoolOp .Or (a :: b :: rest) pos) (eOr ma mb) :=
  PW.imp (pw_or ha hb) fun σ H Q ⟨s, W, sr, h⟩ => ⟨s, W, sr, h.or⟩
theorem et_w (h : EvW X U e m) : EvT X U e m := PW.pt h
/-- .. as values -/
theorem ev_one {op} (h : EvE .e X U a m) : EvE .e X U (.BoolOp op [a] pos) m := pe_one h
theorem ev_and (ha : EvE .e X U a ma) (hb : EvE .e X U (.BoolOp .And (b :: rest) pos) mb) : EvE .e X U (.BoolOp .And (a :: b :: rest) pos) (eAnd ma mb) := by
  refine PE.imp (pe_and ha hb) fun σ H Q ⟨s, W, sr, h⟩ => ⟨s, W, sr, ?_⟩
  unfold eAnd at h
  cases e1 : ma s with
  | ok d s1 =>
    rw [e1] at h
    cases d with
    | bl b =>
      cases b with
      | true =>
        intro v W' H' st sr rp
        refine ⟨true, rp, ?_⟩
        rw [if_pos rfl]
        exact ⟨s1, W', sr, PostE.step st h⟩
      | false =>
        intro v W' H' st sr rp
        refine ⟨false, rp, ?_⟩
        rw [if_neg Bool.false_ne_true]
        exact h _ W' H' st sr rfl
    | _ => exact h.elim
  | exc e s1 => rw [e1] at h; exact h
  | stuck => rw [e1] at h; exact h
theorem ev_or (ha : EvE .e X U a ma) (hb : EvE .e X U (.BoolOp .Or (b :: rest) pos) mb) : EvE .e X U (.BoolOp .Or (a :: b :: rest) pos) (eOr ma mb) := by
  refine PE.imp (pe_or ha hb) fun σ H Q ⟨s, W, sr, h⟩ => ⟨s, W, sr, ?_⟩
  unfold eOr at h
  cases e1 : ma s with
  | ok d s1 =>
    rw [e1] at h
    cases d with
    | bl b =>
      cases b with
      | false =>
        intro v W' H' st sr rp
        refine ⟨false, rp, ?_⟩
        rw [if_neg Bool.false_ne_true]
        exact ⟨s1, W', sr, PostE.step st h⟩
      | true =>
        intro v W' H' st sr rp
        refine ⟨true, rp, ?_⟩
        rw [if_pos rfl]
        exact h _ W' H' st sr rfl
    | _ => exact h.elim
  | exc e s1 => rw [e1] at h; exact h
  | stuck => rw [e1] at h; exact h
theorem ev_not (ha : EvE .e X U a m) : EvE .e X U (.UnaryOp .Not a pos) (eNot m) := by
  refine PE.imp (pe_not ha) fun σ H Q ⟨s, W, sr, h⟩ => ⟨s, W, sr, ?_⟩
  unfold eNot at h
  cases e1 : m s with
  | ok d s1 =>
    rw [e1] at h
    cases d with
    | bl b => exact fun v W' H' st sr rp => ⟨b, rp, h _ W' H' st sr rfl⟩
    | _ => exact h.elim
  | exc e s1 => rw [e1] at h; exact h
  | stuck => rw [e1] at h; exact h
def eIf (mc ma mb : EM) : EM := fun s => (mc s).bind fun d s1 => match d with
  | .bl true => ma s1
  | .bl false => mb s1
  | _ => .stuck
theorem ev_if {M : Md} (hc : EvT X U c mc) (ha : EvE M X U a ma) (hb : EvE M X U b mb) : EvE M X U (.IfExp c a b pos) (eIf mc ma mb) := by
  refine PE.imp (pe_ifExp hc ha hb) fun σ H Q ⟨s, W, sr, h⟩ => ⟨s, W, sr, ?_⟩
  unfold eIf at h
  cases e1 : mc s with
  | ok d s1 =>
    rw [e1] at h
    cases d with
    | bl b =>
      cases b with
      | true =>
        intro W' H' st sr
        rw [if_pos rfl]
        exact ⟨s1, W', sr, PostE.step st h⟩
      | false =>
        intro W' H' st sr
        rw [if_neg Bool.false_ne_true]
        exact ⟨s1, W', sr, PostE.step st h⟩
    | _ => exact h.elim
  | exc e s1 => rw [e1] at h; exact h
  | stuck => rw [e1] at h; exact h
/-- a < b < c -/
def eChain (o o' : D → D → Option D) (ma mb mc : EM) : EM := fun s => (ma s).bind fun d1 s1 => (mb s1).bind fun d2 s2 => match o (deref s2.cs d1) (deref s2.cs d2) with
  | some (.bl true) => (mc s2).bind fun d3 s3 => RE.lift (o' (deref s3.cs d2) (deref s3.cs d3)) s3
  | some (.bl false) => .ok (.bl false) s2
  | _ => .stuck
theorem chain_go {r r' : R2} {o o' : D → D → Option D} (hd : OpD (kg X) .e r o) (hd' : OpD (kg X) .e r' o') {σ : L2.St} {H : Hp} {Q : VK} (h : tE .e (kg X) U (eChain o o' ma mb mc) σ H Q) :
    tChain r r' (tE .b (kg X) U ma) (tE .b (kg X) U mb) (tE .b (kg X) U mc) σ H Q := by
  obtain ⟨s, W, sr, h⟩ := h
  refine ⟨s, W, sr, (PostE.bind h).mono fun x H1 ⟨d1, s1, W1, e1, st1, sr1, rp1, h1⟩ => ⟨s1, W1, sr1, (PostE.bind h1).mono fun y H2 ⟨d2, s2, W2, e2, st2, sr2, rp2, h2⟩ => ?_⟩⟩
  have q1 := RpN.deref sr2.cells (RpB.step st2 rp1)
  have q2 := RpN.deref sr2.cells rp2
  split at h2
  · rename_i eo
    refine hd W2 H2 _ _ _ x y _ q1 q2 eo fun v W3 H3 gr rp => ⟨true, rp, ?_⟩
    rw [if_pos rfl]
    have sr3 := sr2.grow gr
    refine ⟨s2, W3, sr3, (PostE.bind (PostE.step gr.gr.step h2)).mono fun z H4 ⟨d3, s3, W4, e3, st3, sr4, rp3, h3⟩ => ?_⟩
    cases eo' : o' (deref s3.cs d2) (deref s3.cs d3) with
    | none => rw [eo'] at h3; exact h3.elim
    | some d =>
      rw [eo'] at h3
      exact hd' W4 H4 _ _ d y z Q (RpN.deref sr4.cells (RpB.step (gr.gr.step.trans st3) rp2)) (RpN.deref sr4.cells rp3) eo' fun v W5 H5 gr5 rp5 => h3 v W5 H5 gr5.gr.step (sr4.grow gr5) rp5
  · rename_i eo
    refine hd W2 H2 _ _ _ x y _ q1 q2 eo fun v W3 H3 gr rp => ⟨false, rp, ?_⟩
    rw [if_neg Bool.false_ne_true]
    exact h2 _ W3 H3 gr.gr.step (sr2.grow gr) rfl
  · exact h2.elim
end
end
end Mv
set_option Elab.async false
set_option linter.all false
set_option maxRecDepth 100000
set_option maxHeartbeats 2000000
/-! Mv3: operators on data. -/
namespace Mv
open PySem PySem.Spec PyProof.Rows L2

theorem RpL.get {g : Kg} {W : Wd} {H : Hp} : ∀ {ds : List D} {vs : List V} {j : Nat} {d : D}, RpL g W H ds vs → ds[j]? = some d → ∃ v, vs[j]? = some v ∧ Rp g W H d v
  | [], _, j, _, _, e => by simp at e
  | _ :: _, _, 0, d, h, e => by
    obtain ⟨v, r, e1, h1, h2⟩ := h
    subst e1
    simp at e; subst e
    exact ⟨v, by simp, h1⟩
  | _ :: _, _, j + 1, d, h, e => by
    obtain ⟨v, r, e1, h1, h2⟩ := h
    subst e1
    obtain ⟨w, e2, h3⟩ := RpL.get (j := j) h2 (by simpa using e)
    exact ⟨w, by simpa using e2, h3⟩
theorem RpL.append {g : Kg} {W : Wd} {H : Hp} : ∀ {ds es : List D} {vs ws : List V}, RpL g W H ds vs → RpL g W H es ws → RpL g W H (ds ++ es) (vs ++ ws)
  | [], _, _, _, h, k => by cases h; exact k
  | _ :: _, _, _, _, h, k => by
    obtain ⟨v, r, e, h1, h2⟩ := h
    subst e
    exact ⟨v, _, rfl, h1, RpL.append h2 k⟩
theorem RpL.drop {g : Kg} {W : Wd} {H : Hp} : ∀ {ds : List D} {vs : List V} (n : Nat), RpL g W H ds vs → RpL g W H (ds.drop n) (vs.drop n)
  | _, _, 0, h => by simpa using h
  | [], _, n + 1, h => by cases h; exact rfl
  | _ :: _, _, n + 1, h => by
    obtain ⟨v, r, e, h1, h2⟩ := h
    subst e
    simpa using RpL.drop n h2
theorem RpL.take {g : Kg} {W : Wd} {H : Hp} : ∀ {ds : List D} {vs : List V} (n : Nat), RpL g W H ds vs → RpL g W H (ds.take n) (vs.take n)
  | _, _, 0, h => by simp; exact rfl
  | [], _, n + 1, h => by cases h; exact rfl
  | _ :: _, _, n + 1, h => by
    obtain ⟨v, r, e, h1, h2⟩ := h
    subst e
    simpa using ⟨v, _, rfl, h1, RpL.take n h2⟩
theorem RpL.flat {g : Kg} {W : Wd} {H : Hp} {ds : List D} {vs : List V} (h : RpL g W H ds vs) : ∀ k : Nat, RpL g W H (List.replicate k ds).flatten (List.replicate k vs).flatten
  | 0 => rfl
  | k + 1 => by
    rw [List.replicate_succ, List.flatten_cons, List.replicate_succ, List.flatten_cons]
    exact h.append (RpL.flat h k)

theorem rp_new_tup {g : Kg} {W : Wd} {H : Hp} {p : Addr} {ds : List D} {vs : List V} (hp : H p = none) (r : RpL g W H ds vs) : GrowC W H (W.set p .fz) (upd H p (.tup vs)) ∧ Rp g (W.set p .fz) (upd H p (.tup vs)) (.tup ds) (.ref p) := by
  have gr : GrowC W H (W.set p .fz) (upd H p (.tup vs)) := grow_new hp (fun k z => nomatch z)
  exact ⟨gr, p, vs, rfl, Wd.set_same, upd_same, RpL.mono gr.gr.kp ds vs r⟩
theorem rp_new_lst {g : Kg} {W : Wd} {H : Hp} {p : Addr} {ds : List D} {vs : List V} (hp : H p = none) (r : RpL g W H ds vs) : GrowC W H (W.set p .fz) (upd H p (.lst vs)) ∧ Rp g (W.set p .fz) (upd H p (.lst vs)) (.lst ds) (.ref p) := by
  have gr : GrowC W H (W.set p .fz) (upd H p (.lst vs)) := grow_new hp (fun k z => nomatch z)
  exact ⟨gr, p, vs, rfl, Wd.set_same, upd_same, RpL.mono gr.gr.kp ds vs r⟩
theorem fr_new_lst {g : Kg} {W : Wd} {H : Hp} {p : Addr} {ds : List D} {vs : List V} (hp : H p = none) (r : RpL g W H ds vs) : GrowC W H (W.set p .prv) (upd H p (.lst vs)) ∧ FreshR g H (W.set p .prv) (upd H p (.lst vs)) (.lst ds) (.ref p) := by
  have gr : GrowC W H (W.set p .prv) (upd H p (.lst vs)) := grow_new hp (fun k z => nomatch z)
  exact ⟨gr, p, vs, rfl, hp, Wd.set_same, upd_same, RpL.mono gr.gr.kp ds vs r⟩
theorem GrowC.refl {W : Wd} {H : Hp} : GrowC W H W H := ⟨Grow.refl, fun _ _ _ e _ => ⟨_, e⟩⟩
/-- r answers at once -/
theorem OpD.same {g : Kg} {r : R2} {o : D → D → Option D} (h : ∀ (W : Wd) (H : Hp) (d1 d2 d : D) (x y : V), RpN g W H d1 x → RpN g W H d2 y → o d1 d2 = some d → ∃ v, Rp g W H d v ∧ ∀ Q : VK, Q v H → r x y H Q) : OpD g .e r o :=
  fun W H d1 d2 d x y Q r1 r2 e q => by
    obtain ⟨v, rv, k⟩ := h W H d1 d2 d x y r1 r2 e
    exact k Q (q v W H GrowC.refl rv)

/-! ### + -/
def dAdd : D → D → Option D
  | .int i, .int j => some (.int (i + j))
  | .str x, .str y => if x.length + y.length ≤ sizeLine then some (.str (x ++ y)) else none
  | .lst xs, .lst ys => if xs.length + ys.length ≤ sizeLine then some (.lst (xs ++ ys)) else none
  | .tup xs, .tup ys => if xs.length + ys.length ≤ sizeLine then some (.tup (xs ++ ys)) else none
  | _, _ => none
def dCat : D → D → Option D
  | .lst xs, .lst ys => if xs.length + ys.length ≤ sizeLine then some (.lst (xs ++ ys)) else none
  | _, _ => none
section
variable {X : Cx} {U : WX} {a b c e : Expr} {ma mb mc m : EM} {pos : Pos}
abbrev rAddA (K : PySem.W.Frag) : R2 := fun x y H Q => (rI0 fun i j => .int (i + j)) x y H Q ∨ (∃ i j, x = V.str i ∧ y = V.str j ∧ i.length + j.length ≤ sizeLine ∧ Q (.str (i ++ j)) H) ∨ rCat x y H Q ∨ rCatA K x y H Q
theorem op_addA : OpR X (binaryOp .Add) (rAddA X.K) := op_add.or (op_add_str.or (op_cat.or op_catA))
theorem od_add {g : Kg} : OpD g .e (rAddA g.K) dAdd := by
  intro W H d1 d2 d x y Q r1 r2 e q
  unfold dAdd at e
  split at e
  · rename_i i j
    cases e
    exact .inl ⟨i, j, r1, r2, q _ W H GrowC.refl rfl⟩
  · rename_i i j
    split at e
    · rename_i hl
      cases e
      exact .inr (.inl ⟨i, j, r1, r2, hl, q _ W H GrowC.refl rfl⟩)
    · cases e
  · rename_i ds es
    split at e
    · rename_i hl
      cases e
      obtain ⟨p, vs, rfl, h1, h2⟩ := r1
      obtain ⟨p', ws, rfl, h1', h2'⟩ := r2
      refine .inr (.inr (.inl ⟨p, p', vs, ws, rfl, rfl, h1, h1', by rw [← h2.length, ← h2'.length]; exact hl, fun n hn => ?_⟩))
      obtain ⟨g1, g2⟩ := rp_new_lst hn (h2.append h2')
      exact q _ _ _ g1 g2
    · cases e
  · rename_i ds es
    split at e
    · rename_i hl
      cases e
      obtain ⟨p, vs, rfl, h0, h1, h2⟩ := r1
      obtain ⟨p', ws, rfl, h0', h1', h2'⟩ := r2
      refine .inr (.inr (.inr ⟨p, p', vs, ws, rfl, rfl, SqT.of h1, SqT.of h1', by rw [← h2.length, ← h2'.length]; exact hl, fun e => ?_, fun _ e => ?_, fun _ _ n hn => ?_⟩))
      · subst e
        have := h2.length
        have e0 : ds = [] := by cases ds with | nil => rfl | cons _ _ => simp at this
        subst e0
        exact q _ W H GrowC.refl ⟨p', ws, rfl, h0', h1', h2'⟩
      · subst e
        have := h2'.length
        have e0 : es = [] := by cases es with | nil => rfl | cons _ _ => simp at this
        subst e0
        exact q _ W H GrowC.refl ⟨p, vs, rfl, h0, h1, by simpa using h2⟩
      · obtain ⟨g1, g2⟩ := rp_new_tup hn (h2.append h2')
        exact q _ _ _ g1 g2
    · cases e
  · cases e
theorem od_cat {g : Kg} : OpD g .o rCat dCat := by
  intro W H d1 d2 d x y Q r1 r2 e q
  unfold dCat at e
  split at e
  · rename_i ds es
    split at e
    · rename_i hl
      cases e
      obtain ⟨p, vs, rfl, h1, h2⟩ := r1
      obtain ⟨p', ws, rfl, h1', h2'⟩ := r2
      refine ⟨p, p', vs, ws, rfl, rfl, h1, h1', by rw [← h2.length, ← h2'.length]; exact hl, fun n hn => ?_⟩
      obtain ⟨g1, g2⟩ := fr_new_lst hn (h2.append h2')
      exact q _ _ _ g1 g2
    · cases e
  · cases e
theorem ev_add (ha : EvE .b X U a ma) (hb : EvE .b X U b mb) : EvE .e X U (.BinOp a .Add b pos) (eBin dAdd ma mb) := ev_bin op_addA od_add ha hb
theorem ev_cat (ha : EvE .b X U a ma) (hb : EvE .b X U b mb) : EvE .o X U (.BinOp a .Add b pos) (eBin dCat ma mb) := ev_bin op_cat od_cat ha hb

/-! ### ints -/
def dSub : D → D → Option D
  | .int i, .int j => some (.int (i - j))
  | _, _ => none
def dMulI (i j : Int) : Option D := if (-(2 ^ 64) < i ∧ i < 2 ^ 64) ∨ (-(2 ^ 64) < j ∧ j < 2 ^ 64) then some (.int (i * j)) else none
def dFdiv : D → D → Option D
  | .int i, .int j => if 0 < j ∧ j < 1073741824 then some (.int (i / j)) else none
  | _, _ => none
def dMod : D → D → Option D
  | .int i, .int j => if 0 < j then some (.int (i % j)) else none
  | _, _ => none
def dPow : D → D → Option D
  | .int i, .int j => if 0 ≤ j ∧ j ≤ 1000 ∧ i.natAbs ≤ 100 then some (.int (i ^ j.toNat)) else none
  | _, _ => none
def dNeg : D → Option D
  | .int i => some (.int (-i))
  | _ => none
theorem od_sub {g : Kg} : OpD g .e (rI0 fun i j => .int (i - j)) dSub := OpD.same fun W H d1 d2 d x y r1 r2 e => by
  unfold dSub at e
  split at e
  · cases e; exact ⟨_, rfl, fun Q q => ⟨_, _, r1, r2, q⟩⟩
  · cases e
theorem od_fdiv {g : Kg} : OpD g .e (rI CDiv fun i j => .int (i / j)) dFdiv := OpD.same fun W H d1 d2 d x y r1 r2 e => by
  unfold dFdiv at e
  split at e
  · split at e
    · rename_i h; cases e; exact ⟨_, rfl, fun Q q => ⟨_, _, r1, r2, h, q⟩⟩
    · cases e
  · cases e
theorem od_mod {g : Kg} : OpD g .e (rI (fun _ j => 0 < j) fun i j => .int (i % j)) dMod := OpD.same fun W H d1 d2 d x y r1 r2 e => by
  unfold dMod at e
  split at e
  · split at e
    · rename_i h; cases e; exact ⟨_, rfl, fun Q q => ⟨_, _, r1, r2, h, q⟩⟩
    · cases e
  · cases e
theorem od_pow {g : Kg} : OpD g .e (rI CPow fun i j => .int (i ^ j.toNat)) dPow := OpD.same fun W H d1 d2 d x y r1 r2 e => by
  unfold dPow at e
  split at e
  · split at e
    · rename_i h; cases e; exact ⟨_, rfl, fun Q q => ⟨_, _, r1, r2, ⟨h.1, by omega, by omega⟩, q⟩⟩
    · cases e
  · cases e
theorem ud_neg {g : Kg} : UnD g .e (rU fun i => .int (-i)) dNeg := fun W H d1 d x Q r1 e q => by
  unfold dNeg at e
  split at e
  · cases e; exact ⟨_, r1, q _ W H GrowC.refl rfl⟩
  · cases e
theorem ev_sub (ha : EvE .b X U a ma) (hb : EvE .b X U b mb) : EvE .e X U (.BinOp a .Sub b pos) (eBin dSub ma mb) := ev_bin op_sub od_sub ha hb
theorem ev_fdiv (ha : EvE .b X U a ma) (hb : EvE .b X U b mb) : EvE .e X U (.BinOp a .FloorDiv b pos) (eBin dFdiv ma mb) := ev_bin op_fdiv od_fdiv ha hb
theorem ev_mod (ha : EvE .b X U a ma) (hb : EvE .b X U b mb) : EvE .e X U (.BinOp a .Mod b pos) (eBin dMod ma mb) := ev_bin op_mod od_mod ha hb
theorem ev_pow (ha : EvE .b X U a ma) (hb : EvE .b X U b mb) : EvE .e X U (.BinOp a .Pow b pos) (eBin dPow ma mb) := ev_bin op_pow od_pow ha hb
theorem ev_neg (ha : EvE .b X U a ma) : EvE .e X U (.UnaryOp .USub a pos) (eUn dNeg ma) := ev_un un_neg ud_neg ha

/-! ### * -/
def sRep (z : Str) (n : Int) : Str := ⟨(List.replicate n.toNat z.cps.toList).flatten.toArray⟩
theorem foldl_arr (x : Array Nat) : ∀ (k : Nat) (acc : Array Nat), (List.replicate k x).foldl (· ++ ·) acc = (acc.toList ++ (List.replicate k x.toList).flatten).toArray
  | 0, acc => by simp
  | k + 1, acc => by
    rw [List.replicate_succ, List.foldl_cons, foldl_arr x k, List.replicate_succ, List.flatten_cons]
    simp
theorem op_mul_str : OpR X (binaryOp .Mult) (fun x y H Q => ∃ z n, x = .str z ∧ y = .int n ∧ -1000 ≤ n ∧ n ≤ 1000 ∧ z.length ≤ 1000 ∧ Q (.str (sRep z n)) H) := by
  intro pins s σ H x y v u Q I rx ry h
  obtain ⟨z, n, rfl, rfl, h0, h1, h2, q⟩ := h
  obtain ⟨t, rfl⟩ := rx
  obtain ⟨t', rfl⟩ := ry
  refine PySem.P.mul_str ?_ (fun p1 p2 => ?_) (fun p1 p2 => ?_) ?_
  · rw [decide_eq_false (by omega), decide_eq_false (by omega)]; rfl
  · have e1 : (1000 : Int) ≤ (2 ^ 63 - 1) / n := by
      refine Int.le_ediv_of_mul_le (by omega) ?_
      omega
    omega
  · have : z.length * n.toNat ≤ 1000 * 1000 := Nat.mul_le_mul h2 (by omega)
    have e : Builtin.Str.tooLong (z.length * n.toNat) = decide (z.length * n.toNat > sizeLine) := rfl
    rw [e, sizeLine_eq]
    exact decide_eq_false (by omega)
  · have fin : ∀ (z' : Str) (t2 : Tok) (s' : Shared), z' = sRep z n → Inv X pins σ H s' → EP X pins σ Q (.str z' t2) s' := fun z' t2 s' e I' => ⟨.str z', H, I', ⟨_, rfl⟩, by rw [e]; exact q⟩
    have hz : (⟨z.cps⟩ : Str) = z := rfl
    by_cases c1 : n < 1
    · rw [if_pos c1]
      refine ⟨by decide, fin _ _ _ ?_ (I.tok _)⟩
      have e0 : n.toNat = 0 := by omega
      unfold sRep
      rw [e0] <;> rfl
    · rw [if_neg c1]
      by_cases c2 : (n == 1 || z.length == 0) = true
      · rw [if_pos c2]
        refine fin _ _ _ ?_ I
        rw [Bool.or_eq_true] at c2
        unfold sRep
        rcases c2 with c2 | c2
        · have e1 : n = 1 := by simpa using c2
          subst e1
          simp
        · have e0 : z.cps.size = 0 := by simpa [Str.length] using c2
          have e2 : z.cps = #[] := by simpa using e0
          rw [← hz, e2]
          simp
      · rw [if_neg c2]
        refine ⟨?_, fin _ _ _ ?_ (I.tok _)⟩
        · have : z.length * n.toNat ≤ 1000 * 1000 := Nat.mul_le_mul h2 (by omega)
          rw [foldl_arr]
          have e3 : (Str.length ⟨(#[].toList ++ (List.replicate n.toNat z.cps.toList).flatten).toArray⟩) = z.length * n.toNat := by
            simp [Str.length, Nat.mul_comm]
          rw [sizeLine_eq] 
          omega
        · rw [foldl_arr]
          rfl
def dMul : D → D → Option D
  | .int i, .int j => dMulI i j
  | .str z, .int n => if -1000 ≤ n ∧ n ≤ 1000 ∧ z.length ≤ 1000 then some (.str (sRep z n)) else none
  | .lst xs, .int k => if -(2 ^ 63) ≤ k ∧ k < 2 ^ 63 ∧ xs.length * k.toNat ≤ sizeLine then some (.lst (List.replicate k.toNat xs).flatten) else none
  | .tup xs, .int k => if xs ≠ [] ∧ 2 ≤ k ∧ k ≤ 1000 ∧ xs.length ≤ 1000 then some (.tup (List.replicate k.toNat xs).flatten) else none
  | _, _ => none

/-! ### order -/
def dLt : D → D → Option D
  | .int i, .int j => some (.bl (decide (i < j)))
  | _, _ => none
def dLe : D → D → Option D
  | .int i, .int j => some (.bl (decide (i ≤ j)))
  | _, _ => none
def dGt : D → D → Option D
  | .int i, .int j => some (.bl (decide (j < i)))
  | _, _ => none
def dGe : D → D → Option D
  | .int i, .int j => some (.bl (decide (j ≤ i)))
  | _, _ => none
theorem od_lt {g : Kg} : OpD g .e (rI0 fun i j => .bl (decide (i < j))) dLt := OpD.same fun W H d1 d2 d x y r1 r2 e => by
  unfold dLt at e
  split at e
  · cases e; exact ⟨_, rfl, fun Q q => ⟨_, _, r1, r2, q⟩⟩
  · cases e
theorem od_le {g : Kg} : OpD g .e (rI0 fun i j => .bl (decide (i ≤ j))) dLe := OpD.same fun W H d1 d2 d x y r1 r2 e => by
  unfold dLe at e
  split at e
  · cases e; exact ⟨_, rfl, fun Q q => ⟨_, _, r1, r2, q⟩⟩
  · cases e
theorem od_gt {g : Kg} : OpD g .e (rI0 fun i j => .bl (decide (j < i))) dGt := OpD.same fun W H d1 d2 d x y r1 r2 e => by
  unfold dGt at e
  split at e
  · cases e; exact ⟨_, rfl, fun Q q => ⟨_, _, r1, r2, q⟩⟩
  · cases e
theorem od_ge {g : Kg} : OpD g .e (rI0 fun i j => .bl (decide (j ≤ i))) dGe := OpD.same fun W H d1 d2 d x y r1 r2 e => by
  unfold dGe at e
  split at e
  · cases e; exact ⟨_, rfl, fun Q q => ⟨_, _, r1, r2, q⟩⟩
  · cases e

/-! ### == -/
mutual
def dPy : D → Option PyData
  | .non => some .none
  | .bl b => some (.bool b)
  | .int i => some (.int i)
  | .str s => some (.str s)
  | .tup ds => (dPyL ds).map .tuple
  | .ktp _ => none
  | .lst ds => (dPyL ds).map .list
  | .dct _ _ _ => none
  | .scr _ => none
  | .cell _ => none
def dPyL : List D → Option (List PyData)
  | [] => some []
  | d :: ds => (dPy d).bind fun x => (dPyL ds).map fun r => x :: r
end
mutual
theorem dp_of {g : Kg} {W : Wd} {H : Hp} : ∀ (d : D) (p : PyData) (v : V), dPy d = some p → Rp g W H d v → Dp g.K H v p
  | .non, p, v, e, r => by simp only [dPy] at e; cases e; cases r; exact .non
  | .bl b, p, v, e, r => by simp only [dPy] at e; cases e; cases r; exact .bl b
  | .int i, p, v, e, r => by simp only [dPy] at e; cases e; cases r; exact .int i
  | .str s, p, v, e, r => by simp only [dPy] at e; cases e; cases r; exact .str s
  | .tup ds, p, v, e, r => by
    simp only [dPy] at e
    obtain ⟨ps, e1, e2⟩ := Option.map_eq_some_iff.mp e
    subst e2
    obtain ⟨a, vs, rfl, h0, h1, h2⟩ := r
    exact .tup (SqT.of h1) (dp_ofL ds ps vs e1 h2)
  | .ktp _, p, v, e, r => by simp only [dPy] at e; cases e
  | .lst ds, p, v, e, r => by
    simp only [dPy] at e
    obtain ⟨ps, e1, e2⟩ := Option.map_eq_some_iff.mp e
    subst e2
    obtain ⟨a, vs, rfl, h0, h1, h2⟩ := r
    exact .lst (.inl (.inl h1)) (dp_ofL ds ps vs e1 h2)
  | .dct _ _ _, p, v, e, r => by simp only [dPy] at e; cases e
  | .scr _, p, v, e, r => by simp only [dPy] at e; cases e
  | .cell _, p, v, e, r => by simp only [dPy] at e; cases e
theorem dp_ofL {g : Kg} {W : Wd} {H : Hp} : ∀ (ds : List D) (ps : List PyData) (vs : List V), dPyL ds = some ps → RpL g W H ds vs → DpAll g.K H vs ps
  | [], ps, vs, e, r => by simp only [dPyL] at e; cases e; cases r; exact .nil
  | d :: ds, ps, vs, e, r => by
    simp only [dPyL] at e
    obtain ⟨x, e1, e2⟩ := Option.bind_eq_some_iff.mp e
    obtain ⟨xs, e3, e4⟩ := Option.map_eq_some_iff.mp e2
    subst e4
    obtain ⟨v, r', rfl, h1, h2⟩ := r
    exact .cons (dp_of d x v e1 h1) (dp_ofL ds xs r' e3 h2)
end
theorem dp_now {g : Kg} {W : Wd} {H : Hp} {d : D} {p : PyData} {v : V} (e : dPy d = some p) (r : RpN g W H d v) : Dp g.K H v p := by
  cases d with
  | lst ds =>
    simp only [dPy] at e
    obtain ⟨ps, e1, e2⟩ := Option.map_eq_some_iff.mp e
    subst e2
    obtain ⟨a, vs, rfl, h1, h2⟩ := r
    exact .lst (.inl (.inl h1)) (dp_ofL ds ps vs e1 h2)
  | dct t ks ds => simp only [dPy] at e; cases e
  | non => exact dp_of (g := g) (W := W) .non p v e r
  | bl b => exact dp_of (g := g) (W := W) (.bl b) p v e r
  | int b => exact dp_of (g := g) (W := W) (.int b) p v e r
  | str b => exact dp_of (g := g) (W := W) (.str b) p v e r
  | tup b => exact dp_of (g := g) (W := W) (.tup b) p v e r
  | ktp b => simp only [dPy] at e; cases e
  | scr b => simp only [dPy] at e; cases e
  | cell b => simp only [dPy] at e; cases e
def dEq (x y : D) : Option D := (dPy x).bind fun p => (dPy y).bind fun q => if SeqAt.shaped p = true ∧ SeqAt.shaped q = true then some (.bl (PyData.eqv p q)) else none
def dNe (x y : D) : Option D := (dPy x).bind fun p => (dPy y).bind fun q => if SeqAt.shaped p = true ∧ SeqAt.shaped q = true then some (.bl (!PyData.eqv p q)) else none
theorem od_eq {g : Kg} : OpD g .e (rEqD g.K) dEq := OpD.same fun W H d1 d2 d x y r1 r2 e => by
  unfold dEq at e
  obtain ⟨p, e1, e⟩ := Option.bind_eq_some_iff.mp e
  obtain ⟨q, e2, e⟩ := Option.bind_eq_some_iff.mp e
  split at e
  · rename_i h
    cases e
    exact ⟨_, rfl, fun Q k => ⟨p, q, dp_now e1 r1, dp_now e2 r2, h.1, h.2, k⟩⟩
  · cases e
theorem od_ne {g : Kg} : OpD g .e (rNeD g.K) dNe := OpD.same fun W H d1 d2 d x y r1 r2 e => by
  unfold dNe at e
  obtain ⟨p, e1, e⟩ := Option.bind_eq_some_iff.mp e
  obtain ⟨q, e2, e⟩ := Option.bind_eq_some_iff.mp e
  split at e
  · rename_i h
    cases e
    exact ⟨_, rfl, fun Q k => ⟨p, q, dp_now e1 r1, dp_now e2 r2, h.1, h.2, k⟩⟩
  · cases e

/-! ### is None -/
def dIsN : D → D → Option D
  | .non, .non => some (.bl true)
  | _, .non => some (.bl false)
  | _, _ => none
def dNotN : D → D → Option D
  | .non, .non => some (.bl false)
  | _, .non => some (.bl true)
  | _, _ => none
theorem rpn_non {g : Kg} {W : Wd} {H : Hp} {d : D} {v : V} (h : RpN g W H d v) : (v = .non ↔ d = .non) := by
  have no : ∀ {p : Prop} {v : V} {d : D}, v ≠ .non → d ≠ .non → (v = .non ↔ d = .non) := fun h1 h2 => ⟨fun z => (h1 z).elim, fun z => (h2 z).elim⟩
  cases d with
  | non => cases h; exact ⟨fun _ => rfl, fun _ => rfl⟩
  | bl b => cases h; exact no (p := True) (by intro z; cases z) (by intro z; cases z)
  | int b => cases h; exact no (p := True) (by intro z; cases z) (by intro z; cases z)
  | str b => cases h; exact no (p := True) (by intro z; cases z) (by intro z; cases z)
  | ktp b => obtain ⟨a, vs, rfl, _⟩ := h; exact no (p := True) (by intro z; cases z) (by intro z; cases z)
  | tup b => obtain ⟨a, vs, rfl, _⟩ := h; exact no (p := True) (by intro z; cases z) (by intro z; cases z)
  | lst b => obtain ⟨a, vs, rfl, _⟩ := h; exact no (p := True) (by intro z; cases z) (by intro z; cases z)
  | dct t b c => obtain ⟨a, vs, rfl, _⟩ := h; exact no (p := True) (by intro z; cases z) (by intro z; cases z)
  | scr b => obtain ⟨a, rfl, _⟩ := h; exact no (p := True) (by intro z; cases z) (by intro z; cases z)
  | cell b => obtain ⟨a, rfl, _⟩ := h; exact no (p := True) (by intro z; cases z) (by intro z; cases z)
theorem od_isN {g : Kg} : OpD g .e (fun x y H Q => y = .non ∧ Q (.bl (decide (x = .non))) H) dIsN := OpD.same fun W H d1 d2 d x y r1 r2 e => by
  have k := rpn_non r1
  unfold dIsN at e
  split at e
  · cases e
    exact ⟨.bl true, rfl, fun Q q => ⟨r2, by rw [decide_eq_true (k.mpr rfl)]; exact q⟩⟩
  · rename_i hne
    cases e
    exact ⟨.bl false, rfl, fun Q q => ⟨r2, by rw [decide_eq_false (fun z => (hne (k.mp z)).elim)]; exact q⟩⟩
  · cases e
theorem od_notN {g : Kg} : OpD g .e (fun x y H Q => y = .non ∧ Q (.bl (!decide (x = .non))) H) dNotN := OpD.same fun W H d1 d2 d x y r1 r2 e => by
  have k := rpn_non r1
  unfold dNotN at e
  split at e
  · cases e
    exact ⟨.bl false, rfl, fun Q q => ⟨r2, by rw [decide_eq_true (k.mpr rfl)]; exact q⟩⟩
  · rename_i hne
    cases e
    exact ⟨.bl true, rfl, fun Q q => ⟨r2, by rw [decide_eq_false (fun z => (hne (k.mp z)).elim)]; exact q⟩⟩
  · cases e


theorem od_mul {g : Kg} : OpD g .e (fun x y H Q => rI CMul (fun i j => .int (i * j)) x y H Q ∨ (∃ z n, x = .str z ∧ y = .int n ∧ -1000 ≤ n ∧ n ≤ 1000 ∧ z.length ≤ 1000 ∧ Q (.str (sRep z n)) H) ∨ rRep x y H Q ∨ rRepT g.K x y H Q) dMul := by
  intro W H d1 d2 d x y Q r1 r2 e q
  unfold dMul at e
  split at e
  · unfold dMulI at e
    split at e
    · rename_i h
      cases e
      exact .inl ⟨_, _, r1, r2, h, q _ W H GrowC.refl rfl⟩
    · cases e
  · split at e
    · rename_i h
      cases e
      exact .inr (.inl ⟨_, _, r1, r2, h.1, h.2.1, h.2.2, q _ W H GrowC.refl rfl⟩)
    · cases e
  · split at e
    · rename_i h
      cases e
      obtain ⟨p, vs, rfl, h1, h2⟩ := r1
      refine .inr (.inr (.inl ⟨p, _, vs, rfl, r2, h1, h.1, h.2.1, by rw [← h2.length]; exact h.2.2, fun n hn => ?_⟩))
      obtain ⟨g1, g2⟩ := rp_new_lst hn (h2.flat _)
      exact q _ _ _ g1 g2
    · cases e
  · split at e
    · rename_i ds k h
      cases e
      obtain ⟨p, vs, rfl, h0, h1, h2⟩ := r1
      refine .inr (.inr (.inr ⟨p, _, vs, rfl, r2, SqT.of h1, ?_, h.2.1, h.2.2.1, by rw [← h2.length]; exact h.2.2.2, fun n hn => ?_⟩))
      · intro z
        subst z
        have := h2.length
        exact h.1 (by cases ds with | nil => rfl | cons _ _ => simp at this)
      · obtain ⟨g1, g2⟩ := rp_new_tup hn (h2.flat _)
        exact q _ _ _ g1 g2
    · cases e
  · cases e
theorem ev_mul (ha : EvE .b X U a ma) (hb : EvE .b X U b mb) : EvE .e X U (.BinOp a .Mult b pos) (eBin dMul ma mb) := ev_bin (op_mul.or (op_mul_str.or (op_rep.or op_repT))) od_mul ha hb
/-- great ints -/
def dMulW : D → D → Option D
  | .int i, .int j => if i.natAbs.log2 + j.natAbs.log2 < 1000000 then some (.int (i * j)) else none
  | _, _ => none
def dFdivW : D → D → Option D
  | .int i, .int j => if 0 < j ∧ j.natAbs.log2 < 9000 then some (.int (i / j)) else none
  | _, _ => none

/-! ### the orders and equalities as rules -/
variable (hu : X.A.units + 65 < cLine)
theorem ev_lt (ha : EvE .b X U a ma) (hb : EvE .b X U b mb) : EvE .e X U (.Compare a [.Lt] [b] pos) (eBin dLt ma mb) := ev_cmp op_lt od_lt ha hb (nomark _)
theorem ev_le (ha : EvE .b X U a ma) (hb : EvE .b X U b mb) : EvE .e X U (.Compare a [.LtE] [b] pos) (eBin dLe ma mb) := ev_cmp op_le od_le ha hb (nomark _)
theorem ev_gt (ha : EvE .b X U a ma) (hb : EvE .b X U b mb) : EvE .e X U (.Compare a [.Gt] [b] pos) (eBin dGt ma mb) := ev_cmp op_gt od_gt ha hb (nomark _)
theorem ev_ge (ha : EvE .b X U a ma) (hb : EvE .b X U b mb) : EvE .e X U (.Compare a [.GtE] [b] pos) (eBin dGe ma mb) := ev_cmp op_ge od_ge ha hb (nomark _)
theorem ev_isN (ha : EvE .b X U a ma) (hb : EvE .b X U b mb) : EvE .e X U (.Compare a [.Is] [b] pos) (eBin dIsN ma mb) := ev_cmp op_isN od_isN ha hb (nomark _)
theorem ev_notN (ha : EvE .b X U a ma) (hb : EvE .b X U b mb) : EvE .e X U (.Compare a [.IsNot] [b] pos) (eBin dNotN ma mb) := ev_cmp op_notN od_notN ha hb (nomark _)
include hu in
theorem ev_eq (ha : EvE .b X U a ma) (hb : EvE .b X U b mb) : EvE .e X U (.Compare a [.Eq] [b] pos) (eBin dEq ma mb) := ev_cmp (op_eqD (by omega)) od_eq ha hb (nomark _)
include hu in
theorem ev_ne (ha : EvE .b X U a ma) (hb : EvE .b X U b mb) : EvE .e X U (.Compare a [.NotEq] [b] pos) (eBin dNe ma mb) := ev_cmp (op_neD (by omega)) od_ne ha hb (nomark _)
theorem et_lt (ha : EvE .b X U a ma) (hb : EvE .b X U b mb) : EvT X U (.Compare a [.Lt] [b] pos) (eBin dLt ma mb) := et_cmp op_lt od_lt ha hb (nomark _)
theorem et_le (ha : EvE .b X U a ma) (hb : EvE .b X U b mb) : EvT X U (.Compare a [.LtE] [b] pos) (eBin dLe ma mb) := et_cmp op_le od_le ha hb (nomark _)
theorem et_gt (ha : EvE .b X U a ma) (hb : EvE .b X U b mb) : EvT X U (.Compare a [.Gt] [b] pos) (eBin dGt ma mb) := et_cmp op_gt od_gt ha hb (nomark _)
theorem et_ge (ha : EvE .b X U a ma) (hb : EvE .b X U b mb) : EvT X U (.Compare a [.GtE] [b] pos) (eBin dGe ma mb) := et_cmp op_ge od_ge ha hb (nomark _)
theorem et_isN (ha : EvE .b X U a ma) (hb : EvE .b X U b mb) : EvT X U (.Compare a [.Is] [b] pos) (eBin dIsN ma mb) := et_cmp op_isN od_isN ha hb (nomark _)
theorem et_notN (ha : EvE .b X U a ma) (hb : EvE .b X U b mb) : EvT X U (.Compare a [.IsNot] [b] pos) (eBin dNotN ma mb) := et_cmp op_notN od_notN ha hb (nomark _)
include hu in
theorem et_eq (ha : EvE .b X U a ma) (hb : EvE .b X U b mb) : EvT X U (.Compare a [.Eq] [b] pos) (eBin dEq ma mb) := et_cmp (op_eqD (by omega)) od_eq ha hb (nomark _)
include hu in
theorem et_ne (ha : EvE .b X U a ma) (hb : EvE .b X U b mb) : EvT X U (.Compare a [.NotEq] [b] pos) (eBin dNe ma mb) := et_cmp (op_neD (by omega)) od_ne ha hb (nomark _)
/-- chains of <= and < -/
theorem ev_chain {op op' : CmpOp} {r r' : R2} {o o' : D → D → Option D} (h1 : OpR X (compareOp op) r) (h2 : OpR X (compareOp op') r') (d1 : OpD (kg X) .e r o) (d2 : OpD (kg X) .e r' o') (ha : EvE .b X U a ma) (hb : EvE .b X U b mb) (hc : EvE .b X U c mc)
    (hm : lastMarks [op, op'] [b, c] = false) : EvE .e X U (.Compare a [op, op'] [b, c] pos) (eChain o o' ma mb mc) := by
  refine PE.imp (pe_chain h1 h2 ha hb hc hm) fun _ _ _ h => chain_go d1 d2 h
theorem et_chain {op op' : CmpOp} {r r' : R2} {o o' : D → D → Option D} (h1 : OpR X (compareOp op) r) (h2 : OpR X (compareOp op') r') (d1 : OpD (kg X) .e r o) (d2 : OpD (kg X) .e r' o') (ha : EvE .b X U a ma) (hb : EvE .b X U b mb) (hc : EvE .b X U c mc)
    (hm : lastMarks [op, op'] [b, c] = false) : EvT X U (.Compare a [op, op'] [b, c] pos) (eChain o o' ma mb mc) := by
  refine PT.imp (pt_chain h1 h2 ha hb hc hm) fun _ _ _ ⟨s, W, sr, h⟩ => chain_go d1 d2 ⟨s, W, sr, (PostT.toE h).b_of_e⟩
theorem ev_lele (ha : EvE .b X U a ma) (hb : EvE .b X U b mb) (hc : EvE .b X U c mc) (hm : lastMarks [.LtE, .LtE] [b, c] = false := by rfl) : EvE .e X U (.Compare a [.LtE, .LtE] [b, c] pos) (eChain dLe dLe ma mb mc) := ev_chain op_le op_le od_le od_le ha hb hc hm
theorem et_lele (ha : EvE .b X U a ma) (hb : EvE .b X U b mb) (hc : EvE .b X U c mc) (hm : lastMarks [.LtE, .LtE] [b, c] = false := by rfl) : EvT X U (.Compare a [.LtE, .LtE] [b, c] pos) (eChain dLe dLe ma mb mc) := et_chain op_le op_le od_le od_le ha hb hc hm
theorem ev_lelt (ha : EvE .b X U a ma) (hb : EvE .b X U b mb) (hc : EvE .b X U c mc) (hm : lastMarks [.LtE, .Lt] [b, c] = false := by rfl) : EvE .e X U (.Compare a [.LtE, .Lt] [b, c] pos) (eChain dLe dLt ma mb mc) := ev_chain op_le op_lt od_le od_lt ha hb hc hm
theorem et_lelt (ha : EvE .b X U a ma) (hb : EvE .b X U b mb) (hc : EvE .b X U c mc) (hm : lastMarks [.LtE, .Lt] [b, c] = false := by rfl) : EvT X U (.Compare a [.LtE, .Lt] [b, c] pos) (eChain dLe dLt ma mb mc) := et_chain op_le op_lt od_le od_lt ha hb hc hm
theorem ev_ltlt (ha : EvE .b X U a ma) (hb : EvE .b X U b mb) (hc : EvE .b X U c mc) (hm : lastMarks [.Lt, .Lt] [b, c] = false := by rfl) : EvE .e X U (.Compare a [.Lt, .Lt] [b, c] pos) (eChain dLt dLt ma mb mc) := ev_chain op_lt op_lt od_lt od_lt ha hb hc hm
theorem et_ltlt (ha : EvE .b X U a ma) (hb : EvE .b X U b mb) (hc : EvE .b X U c mc) (hm : lastMarks [.Lt, .Lt] [b, c] = false := by rfl) : EvT X U (.Compare a [.Lt, .Lt] [b, c] pos) (eChain dLt dLt ma mb mc) := et_chain op_lt op_lt od_lt od_lt ha hb hc hm
end
end Mv
set_option Elab.async false
set_option linter.all false
set_option maxRecDepth 100000
set_option maxHeartbeats 2000000
/-! Mv4: in, subscripts, slices, calls of built-ins. -/
namespace Mv
open PySem PySem.Spec PyProof.Rows L2

/-! ### flat data -/
def vOf : D → V
  | .bl b => .bl b
  | .int i => .int i
  | .str s => .str s
  | _ => .non
def isFlat : D → Bool
  | .non | .bl _ | .int _ | .str _ => true
  | _ => false
theorem flat_v {g : Kg} {W : Wd} {H : Hp} {d : D} {v : V} (f : isFlat d = true) (h : Rp g W H d v) : v = vOf d ∧ flatV v = true := by
  cases d with
  | non => cases h; exact ⟨rfl, rfl⟩
  | bl b => cases h; exact ⟨rfl, rfl⟩
  | int b => cases h; exact ⟨rfl, rfl⟩
  | str b => cases h; exact ⟨rfl, rfl⟩
  | _ => cases f
theorem flat_n {g : Kg} {W : Wd} {H : Hp} {d : D} {v : V} (f : isFlat d = true) (h : RpN g W H d v) : v = vOf d ∧ flatV v = true := by
  cases d with
  | non => cases h; exact ⟨rfl, rfl⟩
  | bl b => cases h; exact ⟨rfl, rfl⟩
  | int b => cases h; exact ⟨rfl, rfl⟩
  | str b => cases h; exact ⟨rfl, rfl⟩
  | _ => cases f
theorem flat_l {g : Kg} {W : Wd} {H : Hp} : ∀ {ds : List D} {vs : List V}, ds.all isFlat = true → RpL g W H ds vs → vs = ds.map vOf ∧ vs.all flatV = true
  | [], _, _, h => by cases h; exact ⟨rfl, rfl⟩
  | d :: ds, _, f, h => by
    obtain ⟨v, r, rfl, h1, h2⟩ := h
    rw [List.all_cons, Bool.and_eq_true] at f
    obtain ⟨e1, e2⟩ := flat_v f.1 h1
    obtain ⟨e3, e4⟩ := flat_l f.2 h2
    exact ⟨by rw [e1, e3]; rfl, by rw [List.all_cons, e2, e4]; rfl⟩

/-! ### keys of dicts -/
def atomK : D → Option Key
  | .int i => some (.inl i)
  | .str s => some (.inr s)
  | _ => none
def atomsK : List D → Option (List Key)
  | [] => some []
  | d :: ds => (atomK d).bind fun k => (atomsK ds).map fun r => k :: r
def kyOf : D → Option Ky
  | .tup ds => (atomsK ds).map .t
  | d => (atomK d).map .k
def dLook : List Ky → List D → Ky → Option D
  | k :: ks, d :: ds, q => if k = q then some d else dLook ks ds q
  | _, _, _ => none
theorem atomK_v {g : Kg} {W : Wd} {H : Hp} {d : D} {k : Key} {v : V} (e : atomK d = some k) (h : Rp g W H d v) : v = kV k := by
  cases d with
  | int i => simp only [atomK] at e; cases e; cases h; rfl
  | str i => simp only [atomK] at e; cases e; cases h; rfl
  | _ => simp only [atomK] at e; cases e
theorem atomK_n {g : Kg} {W : Wd} {H : Hp} {d : D} {k : Key} {v : V} (e : atomK d = some k) (h : RpN g W H d v) : v = kV k := by
  cases d with
  | int i => simp only [atomK] at e; cases e; cases h; rfl
  | str i => simp only [atomK] at e; cases e; cases h; rfl
  | _ => simp only [atomK] at e; cases e
theorem atomsK_v {g : Kg} {W : Wd} {H : Hp} : ∀ {ds : List D} {ks : List Key} {vs : List V}, atomsK ds = some ks → RpL g W H ds vs → vs = ks.map kV
  | [], ks, _, e, h => by simp only [atomsK] at e; cases e; cases h; rfl
  | d :: ds, ks, _, e, h => by
    simp only [atomsK] at e
    obtain ⟨k, e1, e2⟩ := Option.bind_eq_some_iff.mp e
    obtain ⟨r, e3, e4⟩ := Option.map_eq_some_iff.mp e2
    subst e4
    obtain ⟨v, q, rfl, h1, h2⟩ := h
    rw [atomK_v e1 h1, atomsK_v e3 h2]; rfl
/-- what stands as a key -/
inductive KeyAt (H : Hp) : Ky → V → Prop
  | k (x : Key) : KeyAt H (.k x) (kV x)
  | t (xs : List Key) (b : Addr) (h : H b = some (.tup (xs.map kV))) : KeyAt H (.t xs) (.ref b)
theorem keyAt_of {g : Kg} {W : Wd} {H : Hp} {d : D} {k : Ky} {v : V} (e : kyOf d = some k) (h : RpN g W H d v) : KeyAt H k v := by
  cases d with
  | tup ds =>
    simp only [kyOf] at e
    obtain ⟨ks, e1, e2⟩ := Option.map_eq_some_iff.mp e
    subst e2
    obtain ⟨a, vs, rfl, _, h1, h2⟩ := h
    have := atomsK_v e1 h2
    subst this
    exact .t ks a h1
  | int i => simp only [kyOf, atomK, Option.map_some] at e; cases e; cases h; exact .k (.inl i)
  | str i => simp only [kyOf, atomK, Option.map_some] at e; cases e; cases h; exact .k (.inr i)
  | _ => simp only [kyOf, atomK, Option.map_none] at e; cases e
theorem look_k : ∀ (kvs : List (Key × V)) (ds : List D) (k : Key) (P : D → V → Prop), Paired P ds (kvs.map (·.2)) → (match dLook (kvs.map fun p => Ky.k p.1) ds (.k k) with | some d => ∃ v, valV kvs k = some v ∧ P d v | none => valV kvs k = none)
  | [], ds, k, P, h => by cases h; exact valV_nil
  | (k', v) :: r, _, k, P, .cons p t => by
    rename_i d ds
    show match (if Ky.k k' = Ky.k k then some d else dLook (r.map fun p => Ky.k p.1) ds (.k k)) with | some d => _ | none => _
    by_cases e : k' = k
    · subst e
      rw [if_pos rfl]
      exact ⟨v, valV_pos rfl, p⟩
    · rw [if_neg (by intro z; injection z with z; exact e z), valV_neg e]
      exact look_k r ds k P t
theorem look_t : ∀ (kvs : List (List Key × V)) (ds : List D) (k : List Key) (P : D → V → Prop), Paired P ds (kvs.map (·.2)) → (match dLook (kvs.map fun p => Ky.t p.1) ds (.t k) with | some d => ∃ v, valV kvs k = some v ∧ P d v | none => valV kvs k = none)
  | [], ds, k, P, h => by cases h; exact valV_nil
  | (k', v) :: r, _, k, P, .cons p t => by
    rename_i d ds
    show match (if Ky.t k' = Ky.t k then some d else dLook (r.map fun p => Ky.t p.1) ds (.t k)) with | some d => _ | none => _
    by_cases e : k' = k
    · subst e
      rw [if_pos rfl]
      exact ⟨v, valV_pos rfl, p⟩
    · rw [if_neg (by intro z; injection z with z; exact e z), valV_neg e]
      exact look_t r ds k P t
theorem RpL.paired {g : Kg} {W : Wd} {H : Hp} : ∀ {ds : List D} {vs : List V}, RpL g W H ds vs → Paired (Rp g W H) ds vs
  | [], _, h => by cases h; exact .nil
  | _ :: _, _, h => by
    obtain ⟨v, r, rfl, h1, h2⟩ := h
    exact .cons h1 (RpL.paired h2)
theorem RpL.of_paired {g : Kg} {W : Wd} {H : Hp} : ∀ {ds : List D} {vs : List V}, Paired (Rp g W H) ds vs → RpL g W H ds vs
  | _, _, .nil => rfl
  | _, _, .cons p t => ⟨_, _, rfl, p, RpL.of_paired t⟩
/-- the key's kind -/
def Ky.kind : Ky → Bool
  | .k _ => false
  | .t _ => true
theorem dget_of {g : Kg} {W : Wd} {H : Hp} {a : Addr} {t : Bool} {ks : List Ky} {ds : List D} {vs : List V} {k : Ky} {y : V} (h : DctIs H a t ks vs) (r : RpL g W H ds vs) (hk : KeyAt H k y) (hs : k.kind = t) :
    ∃ o, DGet H a y o ∧ (match dLook ks ds k with | some d => ∃ v, o = some v ∧ Rp g W H d v | none => o = none) := by
  rcases h with ⟨et, kvs, h, e1, e2⟩ | ⟨et, kvs, h, e1, e2⟩
  · subst e1 e2
    cases hk with
    | k x => exact ⟨valV kvs x, .inl ⟨kvs, x, h, rfl, rfl⟩, look_k kvs ds x _ r.paired⟩
    | t xs b hb => rw [et] at hs; cases hs
  · subst e1 e2
    cases hk with
    | t x b hb => exact ⟨valV kvs x, .inr ⟨kvs, x, b, h, rfl, hb, rfl⟩, look_t kvs ds x _ r.paired⟩
    | k x => rw [et] at hs; cases hs
section
variable {X : Cx} {U : WX} {a b c e : Expr} {ma mb mc m : EM} {pos : Pos}
def rInDct : R2 := fun y x H Q => ∃ a o, x = .ref a ∧ DGet H a y o ∧ Q (.bl o.isSome) H
def rNotInDct : R2 := fun y x H Q => ∃ a o, x = .ref a ∧ DGet H a y o ∧ Q (.bl (!o.isSome)) H
theorem op_inDct (hu : X.A.units + 1 < cLine) : OpR X (compareOp .In) rInDct := by
  intro pins s σ H y x iv u Q I ry rx h
  obtain ⟨a, o, ex, g, q⟩ := h
  subst ex
  obtain rfl : u = Value.ref a := rx
  exact d_in hu I g ry fun s3 I3 => ⟨.bl o.isSome, H, I3, rfl, q⟩
theorem op_notInDct (hu : X.A.units + 1 < cLine) : OpR X (compareOp .NotIn) rNotInDct := by
  intro pins s σ H y x iv u Q I ry rx h
  obtain ⟨a, o, ex, g, q⟩ := h
  subst ex
  obtain rfl : u = Value.ref a := rx
  exact d_notIn hu I g ry fun s3 I3 => ⟨.bl (!o.isSome), H, I3, rfl, q⟩
def inFlat (x : D) (ds : List D) : Option Bool := if isFlat x = true ∧ ds.all isFlat = true then some (ds.any fun d => eqV (vOf d) (vOf x)) else none
def inDeep (x : D) (ds : List D) : Option Bool := (dPy x).bind fun p => (dPyL ds).bind fun q => if SeqAt.shaped p = true ∧ SeqAt.shaped (.list q) = true then some (q.any fun z => PyData.eqv z p) else none
def subStr (x y : Str) : Bool := !(Builtin.Str.occurrences y x 0 y.length 1).isEmpty
def dInB (x : D) : D → Option Bool
  | .lst ds => (inFlat x ds).or (inDeep x ds)
  | .tup ds => inFlat x ds
  | .ktp ds => inFlat x ds
  | .str z => match x with
    | .str y => some (subStr y z)
    | _ => none
  | .dct t ks ds => (kyOf x).bind fun k => if k.kind = t then some (dLook ks ds k).isSome else none
  | _ => none
def dIn (x y : D) : Option D := (dInB x y).map .bl
def dNotIn (x y : D) : Option D := (dInB x y).map fun b => .bl (!b)
abbrev rInA (K : PySem.W.Frag) : R2 := fun x y H Q => rIn K false x y H Q ∨ rInD K x y H Q ∨ (∃ i j, x = .str i ∧ y = .str j ∧ Q (.bl (subStr i j)) H) ∨ rInDct x y H Q
abbrev rNotInA (K : PySem.W.Frag) : R2 := fun x y H Q => rIn K true x y H Q ∨ rNotInD K x y H Q ∨ (∃ i j, x = .str i ∧ y = .str j ∧ Q (.bl (!subStr i j)) H) ∨ rNotInDct x y H Q
theorem op_inA (hu : X.A.units + 65 < cLine) : OpR X (compareOp .In) (rInA X.K) := op_in_seq.or ((op_inD hu).or (op_in_str.or (op_inDct (by omega))))
theorem op_notInA (hu : X.A.units + 65 < cLine) : OpR X (compareOp .NotIn) (rNotInA X.K) := op_notIn_seq.or ((op_notInD hu).or (op_notIn_str.or (op_notInDct (by omega))))
theorem in_flat_go {g : Kg} {W : Wd} {H : Hp} {x : D} {ds : List D} {v : V} {vs : List V} {k : Bool} (e : inFlat x ds = some k) (r1 : RpN g W H x v) (r2 : RpL g W H ds vs) : flatV v = true ∧ vs.all flatV = true ∧ inV v vs = k := by
  unfold inFlat at e
  split at e
  · rename_i h
    cases e
    obtain ⟨e1, e2⟩ := flat_n h.1 r1
    obtain ⟨e3, e4⟩ := flat_l h.2 r2
    refine ⟨e2, e4, ?_⟩
    subst e1 e3
    unfold inV
    rw [List.any_map]
    rfl
  · cases e
theorem in_go {g : Kg} {W : Wd} {H : Hp} {x y : D} {v w : V} {k : Bool} (e : dInB x y = some k) (r1 : RpN g W H x v) (r2 : RpN g W H y w) :
    (∀ Q : VK, Q (.bl k) H → rInA g.K v w H Q) ∧ (∀ Q : VK, Q (.bl (!k)) H → rNotInA g.K v w H Q) := by
  cases y with
  | lst ds =>
    simp only [dInB] at e
    cases e1 : inFlat x ds with
    | some k' =>
      rw [e1] at e
      cases e
      obtain ⟨p, vs, rfl, h1, h2⟩ := r2
      obtain ⟨f1, f2, f3⟩ := in_flat_go e1 r1 h2
      subst f3
      exact ⟨fun Q q => .inl ⟨p, vs, rfl, .inl (SqL.of h1), f1, f2, q⟩, fun Q q => .inl ⟨p, vs, rfl, .inl (SqL.of h1), f1, f2, q⟩⟩
    | none =>
      rw [e1] at e
      have e : inDeep x ds = some k := e
      unfold inDeep at e
      obtain ⟨p, e2, e⟩ := Option.bind_eq_some_iff.mp e
      obtain ⟨q, e3, e⟩ := Option.bind_eq_some_iff.mp e
      split at e
      · rename_i h
        cases e
        have hp : Dp g.K H w (.list q) := dp_now (g := g) (W := W) (d := .lst ds) (by simp only [dPy, e3, Option.map_some]) r2
        exact ⟨fun Q qq => .inr (.inl ⟨p, q, dp_now e2 r1, hp, h.1, h.2, qq⟩), fun Q qq => .inr (.inl ⟨p, q, dp_now e2 r1, hp, h.1, h.2, qq⟩)⟩
      · cases e
  | tup ds =>
    obtain ⟨p, vs, rfl, _, h1, h2⟩ := r2
    obtain ⟨f1, f2, f3⟩ := in_flat_go e r1 h2
    subst f3
    exact ⟨fun Q q => .inl ⟨p, vs, rfl, .inr (SqT.of h1), f1, f2, q⟩, fun Q q => .inl ⟨p, vs, rfl, .inr (SqT.of h1), f1, f2, q⟩⟩
  | ktp ds =>
    obtain ⟨p, vs, rfl, h1, h2⟩ := r2
    obtain ⟨f1, f2, f3⟩ := in_flat_go e r1 h2
    subst f3
    exact ⟨fun Q q => .inl ⟨p, vs, rfl, .inr (h1 H), f1, f2, q⟩, fun Q q => .inl ⟨p, vs, rfl, .inr (h1 H), f1, f2, q⟩⟩
  | str z =>
    cases r2
    cases x with
    | str y =>
      simp only [dInB] at e
      cases e
      cases r1
      exact ⟨fun Q q => .inr (.inr (.inl ⟨y, z, rfl, rfl, q⟩)), fun Q q => .inr (.inr (.inl ⟨y, z, rfl, rfl, q⟩))⟩
    | _ => simp only [dInB] at e; cases e
  | dct t ks ds =>
    simp only [dInB] at e
    obtain ⟨q, e1, e⟩ := Option.bind_eq_some_iff.mp e
    split at e
    · rename_i h
      obtain ⟨p, vs, rfl, h1, h2⟩ := r2
      obtain ⟨o, g1, g2⟩ := dget_of h1 h2 (keyAt_of e1 r1) h
      have ek : o.isSome = k := by
        cases e
        cases el : dLook ks ds q with
        | none => rw [el] at g2; rw [g2]; rfl
        | some d => rw [el] at g2; obtain ⟨v', g3, _⟩ := g2; rw [g3]; rfl
      exact ⟨fun Q qq => .inr (.inr (.inr ⟨p, o, rfl, g1, by rw [ek]; exact qq⟩)), fun Q qq => .inr (.inr (.inr ⟨p, o, rfl, g1, by rw [ek]; exact qq⟩))⟩
    · cases e
  | _ => simp only [dInB] at e; cases e
theorem od_in {g : Kg} : OpD g .e (rInA g.K) dIn := OpD.same fun W H d1 d2 d x y r1 r2 e => by
  unfold dIn at e
  obtain ⟨k, e1, e2⟩ := Option.map_eq_some_iff.mp e
  subst e2
  exact ⟨_, rfl, (in_go e1 r1 r2).1⟩
theorem od_notIn {g : Kg} : OpD g .e (rNotInA g.K) dNotIn := OpD.same fun W H d1 d2 d x y r1 r2 e => by
  unfold dNotIn at e
  obtain ⟨k, e1, e2⟩ := Option.map_eq_some_iff.mp e
  subst e2
  exact ⟨_, rfl, (in_go e1 r1 r2).2⟩
variable (hu : X.A.units + 65 < cLine)
include hu in
theorem ev_in (ha : EvE .b X U a ma) (hb : EvE .b X U b mb) (hm : behindInMarks .In b = false := by rfl) : EvE .e X U (.Compare a [.In] [b] pos) (eBin dIn ma mb) := ev_cmp (op_inA hu) od_in ha hb hm
include hu in
theorem et_in (ha : EvE .b X U a ma) (hb : EvE .b X U b mb) (hm : behindInMarks .In b = false := by rfl) : EvT X U (.Compare a [.In] [b] pos) (eBin dIn ma mb) := et_cmp (op_inA hu) od_in ha hb hm
include hu in
theorem ev_notIn (ha : EvE .b X U a ma) (hb : EvE .b X U b mb) (hm : behindInMarks .NotIn b = false := by rfl) : EvE .e X U (.Compare a [.NotIn] [b] pos) (eBin dNotIn ma mb) := ev_cmp (op_notInA hu) od_notIn ha hb hm
include hu in
theorem et_notIn (ha : EvE .b X U a ma) (hb : EvE .b X U b mb) (hm : behindInMarks .NotIn b = false := by rfl) : EvT X U (.Compare a [.NotIn] [b] pos) (eBin dNotIn ma mb) := et_cmp (op_notInA hu) od_notIn ha hb hm

/-! ### subscripts -/
def rGetD : R2 := fun x y H Q => ∃ a v, x = .ref a ∧ DGet H a y (some v) ∧ Q v H
theorem ix_dct (hu : X.A.units + 1 < cLine) : IxR X rGetD := by
  intro value slice pins s σ H x y o i Q I rx ry h hs
  obtain ⟨a, v, ex, g, q⟩ := h
  subst ex
  obtain rfl : o = Value.ref a := rx
  have hT := dict_typeIs I g
  have hget : wpAny (model X.prog X.w) X.A (getItem (.ref a) i) (EP X pins σ Q) X.xe s := d_getItem hu I g ry fun w' s3 I3 rw' => ⟨v, H, I3, rw', q⟩
  unfold subscriptTail
  refine wpAny_bind ?_
  rw [getitemInPython_of_ne hT.not_modules]
  refine wpAny_bind (wpAny_specialOf hT PySem.F.slot_dict_getitem.lookup ?_)
  have fin : wpAny (model X.prog X.w) X.A (subscripted slice false (.ref a) i) (fun r s₃ => wpAny (model X.prog X.w) X.A (letTemporaryGo value (.ref a) r >>= fun _ => pure r) (EP X pins σ Q) X.xe s₃) X.xe s := by
    rw [hs]
    exact wpAny_operating (wpAny_mono hget (fun r s₃ h₃ => wpAny_bind (wpAny_letTemporaryGo (wpAny_pure h₃))) fun _ _ x => x)
  first
    | exact wpAny_pure (wpAny_bind fin)
    | exact wpAny_bind (wpAny_pure (wpAny_bind fin))
    | exact wpAny_bind fin
def dIx : D → D → Option D
  | .lst ds, .int i => atI ds i
  | .tup ds, .int i => atI ds i
  | .ktp ds, .int i => atI ds i
  | .str z, .int i => if z.length ≤ sizeLine then (atI z.cps.toList i).map fun c => .str ⟨#[c]⟩ else none
  | .dct t ks ds, q => (kyOf q).bind fun k => if k.kind = t then dLook ks ds k else none
  | _, _ => none
theorem RpL.at_ {g : Kg} {W : Wd} {H : Hp} {ds : List D} {vs : List V} {i : Int} {d : D} (h : RpL g W H ds vs) (e : atI ds i = some d) : ∃ v, atI vs i = some v ∧ Rp g W H d v := by
  unfold atI at e ⊢
  rw [← h.length]
  obtain ⟨j, e1, e2⟩ := Option.bind_eq_some_iff.mp e
  obtain ⟨v, e3, r⟩ := h.get e2
  exact ⟨v, by rw [e1]; exact e3, r⟩
theorem od_ix {g : Kg} : OpD g .e (fun x y H Q => rIx g.K x y H Q ∨ rGetD x y H Q) dIx := OpD.same fun W H d1 d2 d x y r1 r2 e => by
  unfold dIx at e
  split at e
  · obtain ⟨p, vs, rfl, h1, h2⟩ := r1
    obtain ⟨v, ev, rv⟩ := h2.at_ e
    exact ⟨v, rv, fun Q q => .inl (.inl ⟨p, vs, _, v, rfl, r2, SqL.of h1, ev, q⟩)⟩
  · obtain ⟨p, vs, rfl, _, h1, h2⟩ := r1
    obtain ⟨v, ev, rv⟩ := h2.at_ e
    exact ⟨v, rv, fun Q q => .inl (.inr (.inl ⟨p, vs, _, v, rfl, r2, SqT.of h1, ev, q⟩))⟩
  · obtain ⟨p, vs, rfl, h1, h2⟩ := r1
    obtain ⟨v, ev, rv⟩ := h2.at_ e
    exact ⟨v, rv, fun Q q => .inl (.inr (.inl ⟨p, vs, _, v, rfl, r2, h1 H, ev, q⟩))⟩
  · split at e
    · rename_i z i hz
      obtain ⟨c, e1, e2⟩ := Option.map_eq_some_iff.mp e
      subst e2
      exact ⟨_, rfl, fun Q q => .inl (.inr (.inr ⟨_, _, c, r1, r2, hz, e1, q⟩))⟩
    · cases e
  · obtain ⟨k, e1, e⟩ := Option.bind_eq_some_iff.mp e
    split at e
    · rename_i h
      obtain ⟨p, vs, rfl, h1, h2⟩ := r1
      obtain ⟨o, g1, g2⟩ := dget_of h1 h2 (keyAt_of e1 r2) h
      rw [e] at g2
      obtain ⟨v, e2, rv⟩ := g2
      subst e2
      exact ⟨v, rv, fun Q q => .inr ⟨p, v, rfl, g1, q⟩⟩
    · cases e
  · cases e
include hu in
theorem ev_ix (ha : EvE .b X U a ma) (hb : EvE .b X U b mb) (hs : PlainIx b := by exact fun _ _ => rfl) : EvE .e X U (.Subscript a b pos) (eBin dIx ma mb) :=
  PE.imp (pe_ix (ix_seq.or (ix_dct (by omega))) ha hb hs) fun _ _ _ h => op_go od_ix h

/-! ### slices -/
def cutL {α : Type} (xs : List α) (lo hi : Option Int) : List α := (xs.drop (HT.sIx xs.length 0 lo)).take (HT.sIx xs.length xs.length hi - HT.sIx xs.length 0 lo)
theorem cutL_v (xs : List V) (lo hi : Option Int) : cutV xs lo hi = cutL xs lo hi := rfl
theorem RpL.cut {g : Kg} {W : Wd} {H : Hp} {ds : List D} {vs : List V} (h : RpL g W H ds vs) (lo hi : Option Int) : RpL g W H (cutL ds lo hi) (cutL vs lo hi) := by
  unfold cutL
  rw [← h.length]
  exact (h.drop _).take _
inductive RP where
  | ok (o : Option Int) (s : S)
  | exc (e : Exn) (s : S)
  | stuck
abbrev PM := S → RP
def RP.bind (r : RP) (f : Option Int → S → RE) : RE := match r with
  | .ok d s => f d s
  | .exc e s => .exc e s
  | .stuck => .stuck
def PostP (g : Kg) (U : WX) (W : Wd) (H : Hp) (σ : L2.St) (r : RP) (Q : Option Int → Hp → Prop) : Prop := match r with
  | .ok o s' => ∀ W' H', Step W H W' H' → SRep g s' W' σ H' → Q o H'
  | .exc e s' => ∀ cls dd W' H', Step W H W' H' → SRep g s' W' σ H' → ExnR g W' H' e cls dd → U cls dd σ H'
  | .stuck => False
def tP (g : Kg) (U : WX) (m : PM) : TO := fun σ H Q => ∃ s W, SRep g s W σ H ∧ PostP g U W H σ (m s) Q
def EvP (X : Cx) (U : WX) (e : Option Expr) (m : PM) : Prop := PO X e (tP (kg X) U m)
theorem PO.imp {X : Cx} {e : Option Expr} {t t' : TO} (h : PO X e t) (f : ∀ σ H Q, t' σ H Q → t σ H Q) : PO X e t' := ⟨fun pins s σ H Q I q => h.run pins s σ H Q I (f σ H Q q)⟩
def pNone : PM := fun s => .ok none s
theorem ep_none : EvP X U none pNone := PO.imp po_none fun σ H Q ⟨s, W, sr, h⟩ => h W H Step.refl sr
def pSome (m : EM) : PM := fun s => match m s with
  | .ok (.int i) s1 => .ok (some i) s1
  | .ok _ _ => .stuck
  | .exc e s1 => .exc e s1
  | .stuck => .stuck
theorem ep_some (h : EvE .b X U e m) : EvP X U (some e) (pSome m) := PO.imp (po_some h) fun σ H Q ⟨s, W, sr, h⟩ => by
  refine ⟨s, W, sr, ?_⟩
  unfold pSome at h
  cases e1 : m s with
  | ok d s1 =>
    rw [e1] at h
    cases d with
    | int i => exact fun v W' H' st sr' rp => ⟨i, rp, h W' H' st sr'⟩
    | _ => exact h.elim
  | exc e s1 => rw [e1] at h; exact h
  | stuck => rw [e1] at h; exact h
theorem PostP.bind {M : Md} {g : Kg} {W : Wd} {H : Hp} {σ : L2.St} {r : RP} {f : Option Int → S → RE} {Q : VK} (h : PostE M g U W H σ (r.bind f) Q) :
    PostP g U W H σ r (fun o H1 => ∃ s1 W1, r = .ok o s1 ∧ Step W H W1 H1 ∧ SRep g s1 W1 σ H1 ∧ PostE M g U W1 H1 σ (f o s1) Q) := by
  cases r with
  | ok d s => exact fun W' H' st sr => ⟨s, W', rfl, st, sr, PostE.step st h⟩
  | exc e s => exact h
  | stuck => exact h
theorem PostP.mono {g : Kg} {W : Wd} {H : Hp} {σ : L2.St} {r : RP} {Q Q' : Option Int → Hp → Prop} (h : PostP g U W H σ r Q) (f : ∀ v H1, Q v H1 → Q' v H1) : PostP g U W H σ r Q' := by
  cases r with
  | ok d s => exact fun W' H' st sr => f _ _ (h W' H' st sr)
  | exc e s => exact h
  | stuck => exact h
def dSl : D → Option Int → Option Int → Option D
  | .lst ds, lo, hi => some (.lst (cutL ds lo hi))
  | .tup ds, lo, hi => some (.tup (cutL ds lo hi))
  | .str z, lo, hi => if z.length ≤ sizeLine then some (.str (cutS z lo hi)) else none
  | _, _, _ => none
def dSlL : D → Option Int → Option Int → Option D
  | .lst ds, lo, hi => some (.lst (cutL ds lo hi))
  | _, _, _ => none
def eSl (o : D → Option Int → Option Int → Option D) (m : EM) (ml mh : PM) : EM := fun s => (m s).bind fun d s1 => (ml s1).bind fun l s2 => (mh s2).bind fun h s3 => RE.lift (o (deref s3.cs d) l h) s3
def SlD (g : Kg) (M : Md) (r : V → Option Int → Option Int → Hp → VK → Prop) (o : D → Option Int → Option Int → Option D) : Prop := ∀ (W : Wd) (H : Hp) (d1 d : D) (x : V) (l h : Option Int) (Q : VK), RpN g W H d1 x → o d1 l h = some d →
  (∀ v W' H', GrowC W H W' H' → Rm M g H W' H' d v → Q v H') → r x l h H Q
theorem sl_go {M : Md} {r : V → Option Int → Option Int → Hp → VK → Prop} {o : D → Option Int → Option Int → Option D} {ml mh : PM} (hd : SlD (kg X) M r o) {σ : L2.St} {H : Hp} {Q : VK} (h : tE M (kg X) U (eSl o m ml mh) σ H Q) :
    tSl r (tE .b (kg X) U m) (tP (kg X) U ml) (tP (kg X) U mh) σ H Q := by
  obtain ⟨s, W, sr, h⟩ := h
  refine ⟨s, W, sr, (PostE.bind h).mono fun x H1 ⟨d1, s1, W1, e1, st1, sr1, rp1, h1⟩ => ⟨s1, W1, sr1, (PostP.bind h1).mono fun l H2 ⟨s2, W2, e2, st2, sr2, h2⟩ => ⟨s2, W2, sr2, (PostP.bind h2).mono fun l' H3 ⟨s3, W3, e3, st3, sr3, h3⟩ => ?_⟩⟩⟩
  cases eo : o (deref s3.cs d1) l l' with
  | none => rw [eo] at h3; exact h3.elim
  | some dd =>
    rw [eo] at h3
    exact hd W3 H3 _ dd x l l' Q (RpN.deref sr3.cells (RpB.step (st2.trans st3) rp1)) eo fun v W4 H4 gr rp => h3 v W4 H4 gr.gr.step (sr3.grow gr) rp
abbrev rSlAll (K : PySem.W.Frag) : V → Option Int → Option Int → Hp → VK → Prop := fun x lo hi H Q => rSlL K x lo hi H Q ∨ rSlA K x lo hi H Q ∨ rSlS x lo hi H Q
theorem sl_all : SlR X (rSlAll X.K) := sl_list.or (sl_tupA.or sl_str)
theorem cut_whole {α : Type} {xs : List α} {lo hi : Option Int} (h : HT.sIx xs.length 0 lo = 0 ∧ HT.sIx xs.length xs.length hi = xs.length) : cutL xs lo hi = xs := by
  unfold cutL
  rw [h.1, h.2]; simp
theorem sd_all {g : Kg} : SlD g .e (rSlAll g.K) dSl := by
  intro W H d1 d x l h Q r1 e q
  unfold dSl at e
  split at e
  · cases e
    obtain ⟨p, vs, rfl, h1, h2⟩ := r1
    refine .inl ⟨p, vs, rfl, SqL.of h1, fun n hn => ?_⟩
    obtain ⟨g1, g2⟩ := rp_new_lst hn (h2.cut l h)
    exact q _ _ _ g1 g2
  · cases e
    obtain ⟨p, vs, rfl, h0, h1, h2⟩ := r1
    refine .inr (.inl ⟨p, vs, rfl, SqT.of h1, fun hw => ?_, fun hw n hn => ?_⟩)
    · refine q _ W H GrowC.refl ⟨p, vs, rfl, h0, h1, ?_⟩
      have e1 := h2.length
      rw [cut_whole (by rw [e1]; exact hw)]
      exact h2
    · obtain ⟨g1, g2⟩ := rp_new_tup hn (h2.cut l h)
      exact q _ _ _ g1 g2
  · split at e
    · rename_i hz
      cases e
      exact .inr (.inr ⟨_, r1, hz, q _ W H GrowC.refl rfl⟩)
    · cases e
  · cases e
theorem sd_lst {g : Kg} : SlD g .o (rSlL g.K) dSlL := by
  intro W H d1 d x l h Q r1 e q
  unfold dSlL at e
  split at e
  · cases e
    obtain ⟨p, vs, rfl, h1, h2⟩ := r1
    refine ⟨p, vs, rfl, SqL.of h1, fun n hn => ?_⟩
    obtain ⟨g1, g2⟩ := fr_new_lst hn (h2.cut l h)
    exact q _ _ _ g1 g2
  · cases e
theorem ev_sl {lo hi : Option Expr} {p2 : Pos} {ml mh : PM} (he : EvE .b X U e m) (hl : EvP X U lo ml) (hh : EvP X U hi mh) : EvE .e X U (.Subscript e (.Slice lo hi none p2) pos) (eSl dSl m ml mh) :=
  PE.imp (pe_slice sl_all he hl hh) fun _ _ _ h => sl_go sd_all h
theorem ev_slL {lo hi : Option Expr} {p2 : Pos} {ml mh : PM} (he : EvE .b X U e m) (hl : EvP X U lo ml) (hh : EvP X U hi mh) : EvE .o X U (.Subscript e (.Slice lo hi none p2) pos) (eSl dSlL m ml mh) :=
  PE.imp (pe_slice sl_list he hl hh) fun _ _ _ h => sl_go sd_lst h

/-! ### built-ins of one and of two arguments -/
def ClD (g : Kg) (M : Md) (r : List V → Hp → VK → Prop) (o : D → Option D) : Prop := UnD g M (fun x H Q => r [x] H Q) o
def ClD2 (g : Kg) (M : Md) (r : List V → Hp → VK → Prop) (o : D → D → Option D) : Prop := OpD g M (fun x y H Q => r [x, y] H Q) o
section
variable {M : Md} {x : Str} {p : Pos} {id T : String} {r : List V → Hp → VK → Prop} {o : D → Option D} {o2 : D → D → Option D}
theorem ev_callB (hc : CallR X (.builtin id) r) (hd : ClD (kg X) M r o) (hm : X.mg x = none) (hv : bootBuiltins x = some (.builtin id)) (hg : Gl X x) (ha : EvE .b X U a m) (hn : x ≠ "__name__" := by decide) (hdb : (x == ("__debug__" : Str)) = false := by decide)
    (he : starEach [a] X.env = (false, eval a X.env) :: starEach [] X.env := by rfl) (hpl : (backTo pos (starEach [] X.env)).any (·.1) = false := by rfl) : EvE M X U (.Call (.Name x p) [a] [] pos) (eUn o m) :=
  PE.imp (pe_callB hc hg hm hv (pa_cons ha pa_nil he) hn hdb he hpl) fun _ _ _ h => un_go hd h
theorem ev_callT (hc : CallR X (.type T) r) (hd : ClD (kg X) M r o) (hm : X.mg x = none) (hv : bootBuiltins x = some (.type T)) (hg : Gl X x) (ha : EvE .b X U a m) (hn : x ≠ "__name__" := by decide) (hdb : (x == ("__debug__" : Str)) = false := by decide)
    (he : starEach [a] X.env = (false, eval a X.env) :: starEach [] X.env := by rfl) (hpl : (backTo pos (starEach [] X.env)).any (·.1) = false := by rfl) : EvE M X U (.Call (.Name x p) [a] [] pos) (eUn o m) :=
  PE.imp (pe_callTy hc hg hm hv (pa_cons ha pa_nil he) hn hdb he hpl) fun _ _ _ h => un_go hd h
theorem ev_callB2 (hc : CallR X (.builtin id) r) (hd : ClD2 (kg X) M r o2) (hm : X.mg x = none) (hv : bootBuiltins x = some (.builtin id)) (hg : Gl X x) (ha : EvE .b X U a ma) (hb : EvE .b X U b mb) (hn : x ≠ "__name__" := by decide) (hdb : (x == ("__debug__" : Str)) = false := by decide)
    (he : starEach [a, b] X.env = (false, eval a X.env) :: starEach [b] X.env := by rfl) (he2 : starEach [b] X.env = (false, eval b X.env) :: starEach [] X.env := by rfl) (hpl : (backTo pos (starEach [b] X.env)).any (·.1) = false := by rfl) : EvE M X U (.Call (.Name x p) [a, b] [] pos) (eBin o2 ma mb) :=
  PE.imp (pe_callB hc hg hm hv (pa_cons ha (pa_cons hb pa_nil he2) he) hn hdb he hpl) fun _ _ _ h => op_go hd h
end
theorem UnD.same {g : Kg} {r : V → Hp → VK → Prop} {o : D → Option D} (h : ∀ (W : Wd) (H : Hp) (d1 d : D) (x : V), RpN g W H d1 x → o d1 = some d → ∃ v, Rp g W H d v ∧ ∀ Q : VK, Q v H → r x H Q) : UnD g .e r o :=
  fun W H d1 d x Q r1 e q => by
    obtain ⟨v, rv, k⟩ := h W H d1 d x r1 e
    exact k Q (q v W H GrowC.refl rv)
/-- len -/
def dLen : D → Option D
  | .lst ds => some (.int ds.length)
  | .tup ds => some (.int ds.length)
  | .ktp ds => some (.int ds.length)
  | .str z => if z.length ≤ sizeLine then some (.int z.length) else none
  | .dct _ ks _ => some (.int ks.length)
  | _ => none
theorem call_len_dct : CallR X (.builtin "len") (fun xs H Q => ∃ (p : Addr) (kvs : List (Key × V)), xs = [.ref p] ∧ Rd H p (.dK kvs) ∧ Q (.int ((kvs.length : Nat) : Int)) H) := by
  intro pins s σ H xs us Q I r h
  obtain ⟨p, kvs, rfl, e, q⟩ := h
  obtain ⟨u, rfl, rx⟩ := vals1 r
  cases rx
  exact d_len I e fun t s' I' => ⟨.int ((kvs.length : Nat) : Int), H, I', ⟨t, rfl⟩, q⟩
theorem call_len_dctT : CallR X (.builtin "len") (fun xs H Q => ∃ (p : Addr) (kvs : List (List Key × V)), xs = [.ref p] ∧ Rd H p (.dT kvs) ∧ Q (.int ((kvs.length : Nat) : Int)) H) := by
  intro pins s σ H xs us Q I r h
  obtain ⟨p, kvs, rfl, hp, q⟩ := h
  obtain ⟨u, rfl, rx⟩ := vals1 r
  obtain rfl : u = .ref p := rx
  obtain ⟨z, hd, ys, rel, dd⟩ := dt_rd I.hok hp
  have hl : kvs.length = ys.length := Paired.length rel
  refine call_len_dictH hd dd (by rw [← hl]; rw [sizeLine_eq] at z; omega) ?_
  rw [← hl]
  exact ⟨.int ((kvs.length : Nat) : Int), H, I.tok _, ⟨_, rfl⟩, q⟩
theorem cd_len {g : Kg} : ClD g .e (fun xs H Q => (∃ x n, xs = [x] ∧ LenV g.K x H n ∧ Q (.int n) H) ∨ (∃ (p : Addr) (kvs : List (Key × V)), xs = [.ref p] ∧ Rd H p (.dK kvs) ∧ Q (.int ((kvs.length : Nat) : Int)) H) ∨ (∃ (p : Addr) (kvs : List (List Key × V)), xs = [.ref p] ∧ Rd H p (.dT kvs) ∧ Q (.int ((kvs.length : Nat) : Int)) H)) dLen := UnD.same fun W H d1 d x r1 e => by
  unfold dLen at e
  split at e
  · cases e
    obtain ⟨p, vs, rfl, h1, h2⟩ := r1
    exact ⟨_, rfl, fun Q q => .inl ⟨.ref p, vs.length, rfl, .inl ⟨vs, SqL.of h1, rfl⟩, by rw [← h2.length]; exact q⟩⟩
  · cases e
    obtain ⟨p, vs, rfl, _, h1, h2⟩ := r1
    exact ⟨_, rfl, fun Q q => .inl ⟨.ref p, vs.length, rfl, .inr ⟨vs, SqT.of h1, rfl⟩, by rw [← h2.length]; exact q⟩⟩
  · cases e
    obtain ⟨p, vs, rfl, h1, h2⟩ := r1
    exact ⟨_, rfl, fun Q q => .inl ⟨.ref p, vs.length, rfl, .inr ⟨vs, h1 H, rfl⟩, by rw [← h2.length]; exact q⟩⟩
  · split at e
    · rename_i hz
      cases e
      cases r1
      exact ⟨_, rfl, fun Q q => .inl ⟨_, _, rfl, ⟨hz, rfl⟩, q⟩⟩
    · cases e
  · rename_i ks ds
    cases e
    obtain ⟨p, vs, rfl, h1, h2⟩ := r1
    refine ⟨_, rfl, fun Q q => ?_⟩
    rcases h1 with ⟨et, kvs, h, e1, e2⟩ | ⟨et, kvs, h, e1, e2⟩
    · refine .inr (.inl ⟨p, kvs, rfl, h, ?_⟩)
      rw [e1, List.length_map] at q
      exact q
    · refine .inr (.inr ⟨p, kvs, rfl, h, ?_⟩)
      rw [e1, List.length_map] at q
      exact q
  · cases e
theorem ev_len {p : Pos} (hm : X.mg "len" = none) (hg : Gl X "len") (ha : EvE .b X U a m)
    (he : starEach [a] X.env = (false, eval a X.env) :: starEach [] X.env := by rfl) (hpl : (backTo pos (starEach [] X.env)).any (·.1) = false := by rfl) : EvE .e X U (.Call (.Name "len" p) [a] [] pos) (eUn dLen m) :=
  ev_callB (call_len.or (call_len_dct.or call_len_dctT)) cd_len hm (by decide +kernel) hg ha (by decide) (by decide) he hpl

/-! ### abs, min, max, int, str, bool -/
def dAbs : D → Option D
  | .int i => some (.int (if i < 0 then -i else i))
  | _ => none
theorem ev_abs {p : Pos} (hm : X.mg "abs" = none) (hg : Gl X "abs") (ha : EvE .b X U a m)
    (he : starEach [a] X.env = (false, eval a X.env) :: starEach [] X.env := by rfl) (hpl : (backTo pos (starEach [] X.env)).any (·.1) = false := by rfl) : EvE .e X U (.Call (.Name "abs" p) [a] [] pos) (eUn dAbs m) :=
  ev_callB call_abs (UnD.same fun W H d1 d x r1 e => by
    unfold dAbs at e
    split at e
    · cases e; cases r1; exact ⟨_, rfl, fun Q q => ⟨_, rfl, q⟩⟩
    · cases e) hm (by decide +kernel) hg ha (by decide) (by decide) he hpl
def dMax2 : D → D → Option D
  | .int i, .int j => some (.int (if j > i then j else i))
  | _, _ => none
def dMin2 : D → D → Option D
  | .int i, .int j => some (.int (if j < i then j else i))
  | _, _ => none
theorem ev_max2 {p : Pos} (hc : X.calm = true) (hm : X.mg "max" = none) (hg : Gl X "max") (ha : EvE .b X U a ma) (hb : EvE .b X U b mb)
    (he : starEach [a, b] X.env = (false, eval a X.env) :: starEach [b] X.env := by rfl) (he2 : starEach [b] X.env = (false, eval b X.env) :: starEach [] X.env := by rfl) (hpl : (backTo pos (starEach [b] X.env)).any (·.1) = false := by rfl) :
    EvE .e X U (.Call (.Name "max" p) [a, b] [] pos) (eBin dMax2 ma mb) :=
  ev_callB2 (call_max2 hc) (OpD.same fun W H d1 d2 d x y r1 r2 e => by
    unfold dMax2 at e
    split at e
    · cases e; cases r1; cases r2; exact ⟨_, rfl, fun Q q => ⟨_, _, rfl, q⟩⟩
    · cases e) hm (by decide +kernel) hg ha hb (by decide) (by decide) he he2 hpl
theorem ev_min2 {p : Pos} (hc : X.calm = true) (hm : X.mg "min" = none) (hg : Gl X "min") (ha : EvE .b X U a ma) (hb : EvE .b X U b mb)
    (he : starEach [a, b] X.env = (false, eval a X.env) :: starEach [b] X.env := by rfl) (he2 : starEach [b] X.env = (false, eval b X.env) :: starEach [] X.env := by rfl) (hpl : (backTo pos (starEach [b] X.env)).any (·.1) = false := by rfl) :
    EvE .e X U (.Call (.Name "min" p) [a, b] [] pos) (eBin dMin2 ma mb) :=
  ev_callB2 (call_min2 hc) (OpD.same fun W H d1 d2 d x y r1 r2 e => by
    unfold dMin2 at e
    split at e
    · cases e; cases r1; cases r2; exact ⟨_, rfl, fun Q q => ⟨_, _, rfl, q⟩⟩
    · cases e) hm (by decide +kernel) hg ha hb (by decide) (by decide) he he2 hpl
/-- lists of ints -/
def intsD : List D → Option (List Int)
  | [] => some []
  | .int i :: r => (intsD r).map fun q => i :: q
  | _ :: _ => none
theorem intsD_v {g : Kg} {W : Wd} {H : Hp} : ∀ {ds : List D} {ns : List Int} {vs : List V}, intsD ds = some ns → RpL g W H ds vs → vs = ns.map V.int
  | [], _, _, e, h => by simp only [intsD] at e; cases e; cases h; rfl
  | d :: ds, ns, _, e, h => by
    cases d with
    | int i =>
      simp only [intsD] at e
      obtain ⟨r, e1, e2⟩ := Option.map_eq_some_iff.mp e
      subst e2
      obtain ⟨v, q, rfl, h1, h2⟩ := h
      rw [intsD_v e1 h2]
      cases h1
      rfl
    | _ => simp only [intsD] at e; cases e
def iMax : List Int → Option Int
  | [] => none
  | i :: r => match iMax r with
    | none => some i
    | some j => some (if j < i then i else j)
def iMin : List Int → Option Int
  | [] => none
  | i :: r => match iMin r with
    | none => some i
    | some j => some (if i < j then i else j)
theorem iMax_spec : ∀ {ns : List Int} {m : Int}, iMax ns = some m → m ∈ ns ∧ ∀ y ∈ ns, y ≤ m
  | [], _, e => by simp [iMax] at e
  | i :: r, m, e => by
    simp only [iMax] at e
    cases er : iMax r with
    | none =>
      rw [er] at e
      cases e
      cases r with
      | nil => exact ⟨by simp, by simp⟩
      | cons a q =>
        simp only [iMax] at er
        split at er <;> cases er
    | some j =>
      rw [er] at e
      cases e
      obtain ⟨h1, h2⟩ := iMax_spec er
      split
      · rename_i h
        refine ⟨by simp, fun y hy => ?_⟩
        rcases List.mem_cons.mp hy with rfl | hy
        · omega
        · have := h2 y hy; omega
      · rename_i h
        refine ⟨by simp [h1], fun y hy => ?_⟩
        rcases List.mem_cons.mp hy with rfl | hy
        · omega
        · exact h2 y hy
theorem iMin_spec : ∀ {ns : List Int} {m : Int}, iMin ns = some m → m ∈ ns ∧ ∀ y ∈ ns, m ≤ y
  | [], _, e => by simp [iMin] at e
  | i :: r, m, e => by
    simp only [iMin] at e
    cases er : iMin r with
    | none =>
      rw [er] at e
      cases e
      cases r with
      | nil => exact ⟨by simp, by simp⟩
      | cons a q =>
        simp only [iMin] at er
        split at er <;> cases er
    | some j =>
      rw [er] at e
      cases e
      obtain ⟨h1, h2⟩ := iMin_spec er
      split
      · rename_i h
        refine ⟨by simp, fun y hy => ?_⟩
        rcases List.mem_cons.mp hy with rfl | hy
        · omega
        · have := h2 y hy; omega
      · rename_i h
        refine ⟨by simp [h1], fun y hy => ?_⟩
        rcases List.mem_cons.mp hy with rfl | hy
        · omega
        · exact h2 y hy
theorem mem_pos {ns : List Int} {m : Int} (h : m ∈ ns) : 0 < ns.length := List.length_pos_of_mem h
def dMax : D → Option D
  | .lst ds => (intsD ds).bind fun ns => (iMax ns).map .int
  | _ => none
def dMin : D → Option D
  | .lst ds => (intsD ds).bind fun ns => (iMin ns).map .int
  | _ => none
theorem cd_max {g : Kg} : ClD g .e (rMax g.K) dMax := UnD.same fun W H d1 d x r1 e => by
  unfold dMax at e
  split at e
  · obtain ⟨ns, e1, e⟩ := Option.bind_eq_some_iff.mp e
    obtain ⟨m, e2, e3⟩ := Option.map_eq_some_iff.mp e
    subst e3
    obtain ⟨p, vs, rfl, h1, h2⟩ := r1
    have := intsD_v e1 h2
    subst this
    obtain ⟨k1, k2⟩ := iMax_spec e2
    refine ⟨_, rfl, fun Q q => ⟨p, ns, rfl, SqL.of h1, mem_pos k1, fun m' q1 q2 => ?_⟩⟩
    have : m' = m := by have := q2 m k1; have := k2 m' q1; omega
    subst this
    exact q
  · cases e
theorem cd_min {g : Kg} : ClD g .e (rMin g.K) dMin := UnD.same fun W H d1 d x r1 e => by
  unfold dMin at e
  split at e
  · obtain ⟨ns, e1, e⟩ := Option.bind_eq_some_iff.mp e
    obtain ⟨m, e2, e3⟩ := Option.map_eq_some_iff.mp e
    subst e3
    obtain ⟨p, vs, rfl, h1, h2⟩ := r1
    have := intsD_v e1 h2
    subst this
    obtain ⟨k1, k2⟩ := iMin_spec e2
    refine ⟨_, rfl, fun Q q => ⟨p, ns, rfl, SqL.of h1, mem_pos k1, fun m' q1 q2 => ?_⟩⟩
    have : m' = m := by have := q2 m k1; have := k2 m' q1; omega
    subst this
    exact q
  · cases e
theorem ev_max {p : Pos} (hc : X.calm = true) (hm : X.mg "max" = none) (hg : Gl X "max") (ha : EvE .b X U a m)
    (he : starEach [a] X.env = (false, eval a X.env) :: starEach [] X.env := by rfl) (hpl : (backTo pos (starEach [] X.env)).any (·.1) = false := by rfl) : EvE .e X U (.Call (.Name "max" p) [a] [] pos) (eUn dMax m) :=
  ev_callB (cr_max hc) cd_max hm (by decide +kernel) hg ha (by decide) (by decide) he hpl
theorem ev_min {p : Pos} (hc : X.calm = true) (hm : X.mg "min" = none) (hg : Gl X "min") (ha : EvE .b X U a m)
    (he : starEach [a] X.env = (false, eval a X.env) :: starEach [] X.env := by rfl) (hpl : (backTo pos (starEach [] X.env)).any (·.1) = false := by rfl) : EvE .e X U (.Call (.Name "min" p) [a] [] pos) (eUn dMin m) :=
  ev_callB (cr_min hc) cd_min hm (by decide +kernel) hg ha (by decide) (by decide) he hpl
/-- sum -/
def dSum : D → Option D
  | .lst ds => (intsD ds).map fun ns => .int ns.sum
  | _ => none
theorem ev_sum {p : Pos} (hc : X.calm = true) (hm : X.mg "sum" = none) (hg : Gl X "sum") (ha : EvE .b X U a m)
    (he : starEach [a] X.env = (false, eval a X.env) :: starEach [] X.env := by rfl) (hpl : (backTo pos (starEach [] X.env)).any (·.1) = false := by rfl) : EvE .e X U (.Call (.Name "sum" p) [a] [] pos) (eUn dSum m) :=
  ev_callB (cr_sum hc) (UnD.same fun W H d1 d x r1 e => by
    unfold dSum at e
    split at e
    · obtain ⟨ns, e1, e3⟩ := Option.map_eq_some_iff.mp e
      subst e3
      obtain ⟨p, vs, rfl, h1, h2⟩ := r1
      have := intsD_v e1 h2
      subst this
      exact ⟨_, rfl, fun Q q => ⟨p, ns, rfl, SqL.of h1, q⟩⟩
    · cases e) hm (by decide +kernel) hg ha (by decide) (by decide) he hpl
/-- any, all -/
def blsD : List D → Option (List Bool)
  | [] => some []
  | .bl i :: r => (blsD r).map fun q => i :: q
  | _ :: _ => none
theorem blsD_v {g : Kg} {W : Wd} {H : Hp} : ∀ {ds : List D} {ns : List Bool} {vs : List V}, blsD ds = some ns → RpL g W H ds vs → vs = ns.map V.bl
  | [], _, _, e, h => by simp only [blsD] at e; cases e; cases h; rfl
  | d :: ds, ns, _, e, h => by
    cases d with
    | bl i =>
      simp only [blsD] at e
      obtain ⟨r, e1, e2⟩ := Option.map_eq_some_iff.mp e
      subst e2
      obtain ⟨v, q, rfl, h1, h2⟩ := h
      rw [blsD_v e1 h2]
      cases h1
      rfl
    | _ => simp only [blsD] at e; cases e
def dAny : D → Option D
  | .lst ds => (blsD ds).map fun ns => .bl (ns.any id)
  | _ => none
def dAll : D → Option D
  | .lst ds => (blsD ds).map fun ns => .bl (ns.all id)
  | _ => none
theorem ev_any {p : Pos} (hc : X.calm = true) (hm : X.mg "any" = none) (hg : Gl X "any") (ha : EvE .b X U a m)
    (he : starEach [a] X.env = (false, eval a X.env) :: starEach [] X.env := by rfl) (hpl : (backTo pos (starEach [] X.env)).any (·.1) = false := by rfl) : EvE .e X U (.Call (.Name "any" p) [a] [] pos) (eUn dAny m) :=
  ev_callB (cr_any hc) (UnD.same fun W H d1 d x r1 e => by
    unfold dAny at e
    split at e
    · obtain ⟨ns, e1, e3⟩ := Option.map_eq_some_iff.mp e
      subst e3
      obtain ⟨p, vs, rfl, h1, h2⟩ := r1
      have := blsD_v e1 h2
      subst this
      exact ⟨_, rfl, fun Q q => ⟨p, ns, rfl, SqL.of h1, q⟩⟩
    · cases e) hm (by decide +kernel) hg ha (by decide) (by decide) he hpl
theorem ev_all {p : Pos} (hc : X.calm = true) (hm : X.mg "all" = none) (hg : Gl X "all") (ha : EvE .b X U a m)
    (he : starEach [a] X.env = (false, eval a X.env) :: starEach [] X.env := by rfl) (hpl : (backTo pos (starEach [] X.env)).any (·.1) = false := by rfl) : EvE .e X U (.Call (.Name "all" p) [a] [] pos) (eUn dAll m) :=
  ev_callB (cr_all hc) (UnD.same fun W H d1 d x r1 e => by
    unfold dAll at e
    split at e
    · obtain ⟨ns, e1, e3⟩ := Option.map_eq_some_iff.mp e
      subst e3
      obtain ⟨p, vs, rfl, h1, h2⟩ := r1
      have := blsD_v e1 h2
      subst this
      exact ⟨_, rfl, fun Q q => ⟨p, ns, rfl, SqL.of h1, q⟩⟩
    · cases e) hm (by decide +kernel) hg ha (by decide) (by decide) he hpl
/-- int(..), str(..) -/
def dInt : D → Option D
  | .int i => some (.int i)
  | .bl b => some (.int (if b then 1 else 0))
  | .str z => if z.length ≤ 640 then (PySem.intText? z).map .int else none
  | _ => none
theorem ev_toInt {p : Pos} (hm : X.mg "int" = none) (hg : Gl X "int") (ha : EvE .b X U a m)
    (he : starEach [a] X.env = (false, eval a X.env) :: starEach [] X.env := by rfl) (hpl : (backTo pos (starEach [] X.env)).any (·.1) = false := by rfl) : EvE .e X U (.Call (.Name "int" p) [a] [] pos) (eUn dInt m) :=
  ev_callT (call_int1.or call_int_str) (UnD.same fun W H d1 d x r1 e => by
    unfold dInt at e
    split at e
    · cases e; cases r1; exact ⟨_, rfl, fun Q q => .inl (.inl ⟨_, rfl, q⟩)⟩
    · cases e; cases r1; exact ⟨_, rfl, fun Q q => .inl (.inr ⟨_, rfl, q⟩)⟩
    · split at e
      · rename_i hz
        obtain ⟨n, e1, e3⟩ := Option.map_eq_some_iff.mp e
        subst e3
        cases r1
        exact ⟨_, rfl, fun Q q => .inr ⟨_, n, rfl, e1, hz, q⟩⟩
      · cases e
    · cases e) hm (by decide +kernel) hg ha (by decide) (by decide) he hpl
def iStrS (i : Int) : Str := toString i
def dStr : D → Option D
  | .int i => if i.natAbs.log2 < 1920 then some (.str (iStrS i)) else none
  | _ => none
theorem ev_toStr {p : Pos} (hm : X.mg "str" = none) (hg : Gl X "str") (ha : EvE .b X U a m)
    (he : starEach [a] X.env = (false, eval a X.env) :: starEach [] X.env := by rfl) (hpl : (backTo pos (starEach [] X.env)).any (·.1) = false := by rfl) : EvE .e X U (.Call (.Name "str" p) [a] [] pos) (eUn dStr m) :=
  ev_callT call_str_int (UnD.same fun W H d1 d x r1 e => by
    unfold dStr at e
    split at e
    · split at e
      · rename_i hz
        cases e; cases r1; exact ⟨_, rfl, fun Q q => ⟨_, rfl, hz, q⟩⟩
      · cases e
    · cases e) hm (by decide +kernel) hg ha (by decide) (by decide) he hpl
/-- list(..), tuple(..) of a list or a tuple -/
def dList : D → Option D
  | .lst ds => some (.lst ds)
  | .tup ds => some (.lst ds)
  | .scr ns => some (.lst (ns.map .int))
  | _ => none
def dTuple : D → Option D
  | .lst ds => some (.tup ds)
  | .tup ds => some (.tup ds)
  | _ => none
theorem RpL.ints {g : Kg} {W : Wd} {H : Hp} : ∀ (ns : List Int), RpL g W H (ns.map .int) (ns.map V.int)
  | [] => rfl
  | n :: r => ⟨_, _, rfl, rfl, RpL.ints r⟩
theorem cd_list {g : Kg} : ClD g .o (fun xs H Q => ∃ p ys, xs = [.ref p] ∧ (SqL g.K H p ys ∨ SqT g.K H p ys) ∧ ∀ l, H l = none → Q (.ref l) (upd H l (.lst ys))) dList := by
  intro W H d1 d x Q r1 e q
  unfold dList at e
  split at e
  · cases e
    obtain ⟨p, vs, rfl, h1, h2⟩ := r1
    refine ⟨p, vs, rfl, .inl (SqL.of h1), fun n hn => ?_⟩
    obtain ⟨g1, g2⟩ := fr_new_lst hn h2
    exact q _ _ _ g1 g2
  · cases e
    obtain ⟨p, vs, rfl, _, h1, h2⟩ := r1
    refine ⟨p, vs, rfl, .inr (SqT.of h1), fun n hn => ?_⟩
    obtain ⟨g1, g2⟩ := fr_new_lst hn h2
    exact q _ _ _ g1 g2
  · cases e
    rename_i ns
    obtain ⟨p, rfl, h0⟩ := r1
    have h1 : SqL g.K H p (ns.map V.int) := by
      rcases h0 with ⟨_, h0⟩ | h0
      · exact .inl h0
      · exact h0 H
    refine ⟨p, _, rfl, .inl h1, fun n hn => ?_⟩
    obtain ⟨g1, g2⟩ := fr_new_lst hn (RpL.ints _)
    exact q _ _ _ g1 g2
  · cases e
theorem ev_list {p : Pos} (hm : X.mg "list" = none) (hg : Gl X "list") (ha : EvE .b X U a m)
    (he : starEach [a] X.env = (false, eval a X.env) :: starEach [] X.env := by rfl) (hpl : (backTo pos (starEach [] X.env)).any (·.1) = false := by rfl) : EvE .o X U (.Call (.Name "list" p) [a] [] pos) (eUn dList m) :=
  ev_callT call_list_of cd_list hm (by decide +kernel) hg ha (by decide) (by decide) he hpl
theorem cd_tuple {g : Kg} : ClD g .e (fun xs H Q => ∃ p ys, xs = [.ref p] ∧ ((SqL g.K H p ys ∧ ∀ l, H l = none → Q (.ref l) (upd H l (.tup ys))) ∨ (SqT g.K H p ys ∧ Q (.ref p) H))) dTuple := by
  intro W H d1 d x Q r1 e q
  unfold dTuple at e
  split at e
  · cases e
    obtain ⟨p, vs, rfl, h1, h2⟩ := r1
    refine ⟨p, vs, rfl, .inl ⟨SqL.of h1, fun n hn => ?_⟩⟩
    obtain ⟨g1, g2⟩ := rp_new_tup hn h2
    exact q _ _ _ g1 g2
  · cases e
    obtain ⟨p, vs, rfl, h0, h1, h2⟩ := r1
    exact ⟨p, vs, rfl, .inr ⟨SqT.of h1, q _ W H GrowC.refl ⟨p, vs, rfl, h0, h1, h2⟩⟩⟩
  · cases e
theorem ev_tuple {p : Pos} (hm : X.mg "tuple" = none) (hg : Gl X "tuple") (ha : EvE .b X U a m)
    (he : starEach [a] X.env = (false, eval a X.env) :: starEach [] X.env := by rfl) (hpl : (backTo pos (starEach [] X.env)).any (·.1) = false := by rfl) : EvE .e X U (.Call (.Name "tuple" p) [a] [] pos) (eUn dTuple m) :=
  ev_callT call_tuple_of cd_tuple hm (by decide +kernel) hg ha (by decide) (by decide) he hpl
/-- list(range(..)) -/
def rgD (n : Int) : List D := (List.range n.toNat).map fun (i : Nat) => D.int i
def eListRg (m : EM) : EM := fun s => (m s).bind fun d s1 => match d with
  | .int n => if 0 ≤ n ∧ n ≤ 16777216 then .ok (.lst (rgD n)) s1 else .stuck
  | _ => .stuck
theorem RpL.rg {g : Kg} {W : Wd} {H : Hp} (f : Nat → Int) : ∀ (l : List Nat), RpL g W H (l.map fun i => D.int (f i)) (l.map fun i => V.int (f i))
  | [] => rfl
  | n :: r => ⟨_, _, rfl, rfl, RpL.rg f r⟩
theorem ev_listRg {p p2 : Pos} {pos2 : Pos} (hc : X.calm = true) (hm : X.mg "list" = none) (hg : Gl X "list") (hm2 : X.mg "range" = none) (hg2 : Gl X "range") (ha : EvE .b X U a m)
    (na : starEach [a] X.env = (false, eval a X.env) :: starEach [] X.env := by rfl) (na2 : starEach [Expr.Call (.Name "range" p2) [a] [] pos2] X.env = (false, eval (Expr.Call (.Name "range" p2) [a] [] pos2) X.env) :: starEach [] X.env := by rfl) :
    EvE .o X U (.Call (.Name "list" p) [.Call (.Name "range" p2) [a] [] pos2] [] pos) (eListRg m) := by
  refine PE.imp (pe_listRg hc hg hm (prg_1 hg2 hm2 ha na) na2) fun σ H Q ⟨s, W, sr, h⟩ => ⟨s, W, sr, (PostE.bind h).mono fun x H1 ⟨d1, s1, W1, e1, st1, sr1, rp1, h1⟩ => ?_⟩
  split at h1
  · rename_i n
    split at h1
    · rename_i hn
      refine ⟨n, rp1, RgOk.of_le (by omega) hn.2 (by omega) hn.1, fun q hq => ?_⟩
      have er : rgV 0 n = (List.range n.toNat).map fun (i : Nat) => V.int (i : Int) := by
        unfold rgV
        rw [Int.sub_zero]
        refine List.map_congr_left fun i _ => ?_
        rw [Int.zero_add]
      rw [er]
      obtain ⟨g1, g2⟩ := fr_new_lst (g := kg X) (W := W1) (ds := rgD n) hq (RpL.rg (fun i => (i : Int)) _)
      exact h1 _ _ _ g1.gr.step (sr1.grow g1) g2
    · exact h1.elim
  · exact h1.elim
/-- sorted, of ints (below 64) -/
def insI (x : Int) : List Int → List Int
  | [] => [x]
  | y :: r => if x ≤ y then x :: y :: r else y :: insI x r
def sortI : List Int → List Int
  | [] => []
  | x :: r => insI x (sortI r)
theorem insI_perm (x : Int) : ∀ l : List Int, (insI x l).Perm (x :: l)
  | [] => List.Perm.refl _
  | y :: r => by
    unfold insI
    split
    · exact List.Perm.refl _
    · exact ((insI_perm x r).cons y).trans (List.Perm.swap x y r)
theorem sortI_perm : ∀ l : List Int, (sortI l).Perm l
  | [] => List.Perm.refl _
  | x :: r => (insI_perm x _).trans ((sortI_perm r).cons x)
theorem insI_sorted (x : Int) : ∀ l : List Int, l.Pairwise (· ≤ ·) → (insI x l).Pairwise (· ≤ ·)
  | [], _ => by simp [insI]
  | y :: r, h => by
    unfold insI
    have hc := List.pairwise_cons.mp h
    split
    · rename_i hx
      refine List.pairwise_cons.mpr ⟨fun z hz => ?_, h⟩
      rcases List.mem_cons.mp hz with rfl | hz
      · exact hx
      · have := hc.1 z hz; omega
    · rename_i hx
      refine List.pairwise_cons.mpr ⟨fun z hz => ?_, insI_sorted x r hc.2⟩
      rcases List.mem_cons.mp ((insI_perm x r).mem_iff.mp hz) with rfl | hz
      · omega
      · exact hc.1 z hz
theorem sortI_sorted : ∀ l : List Int, (sortI l).Pairwise (· ≤ ·)
  | [] => .nil
  | x :: r => insI_sorted x _ (sortI_sorted r)
theorem sorted_one {l l' : List Int} (p : l.Perm l') (h : l.Pairwise (· ≤ ·)) (h' : l'.Pairwise (· ≤ ·)) : l = l' :=
  List.Perm.eq_of_pairwise (fun a b _ _ h1 h2 => by omega) h h' p
def dSortI : D → Option D
  | .lst ds => (intsD ds).bind fun ns => if ns.length < 64 then some (.lst ((sortI ns).map .int)) else none
  | _ => none
theorem ev_sortI {p : Pos} (hm : X.mg "sorted" = none) (hg : Gl X "sorted") (ha : EvE .b X U a m)
    (he : starEach [a] X.env = (false, eval a X.env) :: starEach [] X.env := by rfl) (hpl : (backTo pos (starEach [] X.env)).any (·.1) = false := by rfl) : EvE .o X U (.Call (.Name "sorted" p) [a] [] pos) (eUn dSortI m) :=
  ev_callB cr_sorted (by
    intro W H d1 d x Q r1 e q
    unfold dSortI at e
    split at e
    · obtain ⟨ns, e1, e⟩ := Option.bind_eq_some_iff.mp e
      split at e
      · rename_i hz
        cases e
        obtain ⟨p, vs, rfl, h1, h2⟩ := r1
        have := intsD_v e1 h2
        subst this
        refine ⟨p, ns, rfl, SqL.of h1, hz, fun ns' l hp hs hl => ?_⟩
        have := sorted_one (hp.trans (sortI_perm ns).symm) hs (sortI_sorted ns)
        subst this
        obtain ⟨g1, g2⟩ := fr_new_lst (g := kg X) (W := W) (ds := (sortI ns).map .int) hl (RpL.ints _)
        exact q _ _ _ g1 g2
      · cases e
    · cases e) hm (by decide +kernel) hg ha (by decide) (by decide) he hpl
/-- isinstance(x, T), T a built-in type -/
inductive Ty where
  | int | bool | tuple | list | str
  deriving DecidableEq
def Ty.name : Ty → String
  | .int => "int" | .bool => "bool" | .tuple => "tuple" | .list => "list" | .str => "str"
def dIs : Ty → D → Option D
  | t, .non => some (.bl false)
  | t, .bl _ => some (.bl (t = .int || t = .bool))
  | t, .int _ => some (.bl (decide (t = .int)))
  | t, .str _ => some (.bl (decide (t = .str)))
  | t, .tup _ => some (.bl (decide (t = .tuple)))
  | t, .lst _ => some (.bl (decide (t = .list)))
  | _, _ => none
end
end Mv
set_option Elab.async false
set_option linter.all false
set_option maxRecDepth 100000
set_option maxHeartbeats 2000000
/-! Mv5: isinstance, statements. -/
namespace Mv
open PySem PySem.Spec PyProof.Rows L2
section
variable {X : Cx} {U : WX} {a b c e : Expr} {ma mb mc m : EM} {pos : Pos}
theorem is_go {g : Kg} {W : Wd} {H : Hp} {d : D} {x : V} {t : Ty} {r : D} (rp : RpN g W H d x) (e : dIs t d = some r) : ∃ (T : String) (b : Bool), TyX g.K H x (.type T) ∧ kitB T t.name = some b ∧ r = .bl b := by
  cases d with
  | non =>
    cases rp
    refine ⟨"NoneType", false, .base .non, ?_, ?_⟩
    · cases t <;> decide +kernel
    · simp only [dIs] at e; cases e; rfl
  | bl b =>
    cases rp
    refine ⟨"bool", (t = .int || t = .bool), .base (.bl b), ?_, ?_⟩
    · cases t <;> decide +kernel
    · simp only [dIs] at e; cases e; rfl
  | int b =>
    cases rp
    refine ⟨"int", decide (t = .int), .base (.int b), ?_, ?_⟩
    · cases t <;> decide +kernel
    · simp only [dIs] at e; cases e; rfl
  | str b =>
    cases rp
    refine ⟨"str", decide (t = .str), .base (.str b), ?_, ?_⟩
    · cases t <;> decide +kernel
    · simp only [dIs] at e; cases e; rfl
  | tup ds =>
    obtain ⟨p, vs, rfl, _, h1, h2⟩ := rp
    refine ⟨"tuple", decide (t = .tuple), .base (.tup h1), ?_, ?_⟩
    · cases t <;> decide +kernel
    · simp only [dIs] at e; cases e; rfl
  | lst ds =>
    obtain ⟨p, vs, rfl, h1, h2⟩ := rp
    refine ⟨"list", decide (t = .list), .base (.lst h1), ?_, ?_⟩
    · cases t <;> decide +kernel
    · simp only [dIs] at e; cases e; rfl
  | _ => simp only [dIs] at e; cases e
theorem ev_is {x : Str} {p p2 : Pos} (t : Ty) (hx : x = Str.ofString t.name) (hm : X.mg "isinstance" = none) (hg : Gl X "isinstance") (hm2 : X.mg x = none) (hg2 : Gl X x) (ha : EvE .b X U a m)
    (hn : x ≠ "__name__" := by decide +kernel) (hdb : (x == ("__debug__" : Str)) = false := by decide +kernel) (hv : bootBuiltins x = some (.type t.name) := by decide +kernel)
    (he : starEach [a, .Name x p2] X.env = (false, eval a X.env) :: starEach [.Name x p2] X.env := by rfl) (he2 : starEach [.Name x p2] X.env = (false, eval (.Name x p2) X.env) :: starEach [] X.env := by rfl) (hpl : (backTo pos (starEach [.Name x p2] X.env)).any (·.1) = false := by rfl) :
    EvE .e X U (.Call (.Name "isinstance" p) [a, .Name x p2] [] pos) (eUn (dIs t) m) := by
  refine PE.imp (pe_callB call_isi hg hm (by decide +kernel) (pa_cons ha (pa_cons (pe_bltn (v := .ty t.name) hg2 hm2 hv rfl hn hdb) pa_nil he2) he) (by decide) (by decide) he hpl) fun σ H Q ⟨s, W, sr, h⟩ => ⟨s, W, sr, (PostE.bind h).mono fun x1 H1 ⟨d1, s1, W1, e1, st1, sr1, rp1, h1⟩ => ?_⟩
  cases eo : dIs t (deref s1.cs d1) with
  | none => rw [eo] at h1; exact h1.elim
  | some d =>
    rw [eo] at h1
    obtain ⟨T, k, h2, h3, h4⟩ := is_go (RpN.deref sr1.cells rp1) eo
    subst h4
    exact ⟨x1, .ty t.name, .type T, .type t.name, k, rfl, .ty _, h2, kit_ty h3, h1 _ W1 H1 Step.refl sr1 rfl⟩

/-! ### statements -/
inductive RS where
  | nx (s : S)
  | rt (d : D) (s : S)
  | bk (s : S)
  | ct (s : S)
  | ex (e : Exn) (s : S)
  | stuck
abbrev SM := S → RS
def PostS (g : Kg) (U : WX) (W : Wd) (H : Hp) (r : RS) (E : Ends) : Prop := match r with
  | .nx s => ∀ W' σ' H', StepS W H W' H' → SRep g s W' σ' H' → E.nx σ' H'
  | .rt d s => ∀ v W' σ' H', StepS W H W' H' → SRep g s W' σ' H' → Rp g W' H' d v → E.rt v H'
  | .bk s => ∀ W' σ' H', StepS W H W' H' → SRep g s W' σ' H' → E.bk σ' H'
  | .ct s => ∀ W' σ' H', StepS W H W' H' → SRep g s W' σ' H' → E.ct σ' H'
  | .ex e s => ∀ cls dd W' σ' H', StepS W H W' H' → SRep g s W' σ' H' → ExnR g W' H' e cls dd → U cls dd σ' H'
  | .stuck => False
def tS (g : Kg) (U : WX) (m : SM) : TS := fun E σ H => ∃ s W, SRep g s W σ H ∧ PostS g U W H (m s) E
def EvS (X : Cx) (U : WX) (st : Stmt) (m : SM) : Prop := PS X st (tS (kg X) U m)
def EvSs (X : Cx) (U : WX) (sts : List Stmt) (m : SM) : Prop := PSs X sts (tS (kg X) U m)
theorem PostS.step {g : Kg} {W W1 : Wd} {H H1 : Hp} {r : RS} {E : Ends} (st : StepS W H W1 H1) (h : PostS g U W H r E) : PostS g U W1 H1 r E := by
  cases r with
  | nx s => exact fun W' σ' H' st' => h W' σ' H' (st.trans st')
  | rt d s => exact fun v W' σ' H' st' => h v W' σ' H' (st.trans st')
  | bk s => exact fun W' σ' H' st' => h W' σ' H' (st.trans st')
  | ct s => exact fun W' σ' H' st' => h W' σ' H' (st.trans st')
  | ex e s => exact fun cls dd W' σ' H' st' => h cls dd W' σ' H' (st.trans st')
  | stuck => exact h
def sSeq (m1 m2 : SM) : SM := fun s => match m1 s with
  | .nx s1 => m2 s1
  | .rt d s1 => .rt d s1
  | .bk s1 => .bk s1
  | .ct s1 => .ct s1
  | .ex e s1 => .ex e s1
  | .stuck => .stuck
def sNil : SM := fun s => .nx s
section
variable {st : Stmt} {rest : List Stmt} {m1 m2 : SM}
theorem es_nil : EvSs X U [] sNil := PSs.imp pss_nil fun E σ H ⟨s, W, sr, h⟩ => h W σ H StepS.refl sr
theorem es_one (h : EvS X U st m1) : EvSs X U [st] m1 := pss_one h
theorem es_cons (h1 : EvS X U st m1) (h2 : EvSs X U rest m2) : EvSs X U (st :: rest) (sSeq m1 m2) := by
  refine PSs.imp (pss_cons h1 h2) fun E σ H ⟨s, W, sr, h⟩ => ⟨s, W, sr, ?_⟩
  unfold sSeq at h
  cases e1 : m1 s with
  | nx s1 => rw [e1] at h; exact fun W' σ' H' st' sr' => ⟨s1, W', sr', PostS.step st' h⟩
  | rt d s1 => rw [e1] at h; exact h
  | bk s1 => rw [e1] at h; exact h
  | ct s1 => rw [e1] at h; exact h
  | ex e s1 => rw [e1] at h; exact h
  | stuck => rw [e1] at h; exact h
end
theorem es_pass : EvS X U (.Pass pos) sNil := PS.imp ps_pass fun E σ H ⟨s, W, sr, h⟩ => h W σ H StepS.refl sr
def sBreak : SM := fun s => .bk s
def sCont : SM := fun s => .ct s
theorem es_break : EvS X U (.Break pos) sBreak := PS.imp ps_break fun E σ H ⟨s, W, sr, h⟩ => h W σ H StepS.refl sr
theorem es_cont : EvS X U (.Continue pos) sCont := PS.imp ps_continue fun E σ H ⟨s, W, sr, h⟩ => h W σ H StepS.refl sr

/-- an expression that may change what is a slot's own -/
def PostX (g : Kg) (U : WX) (W : Wd) (H : Hp) (σ : L2.St) (r : RE) (Q : VK) : Prop := match r with
  | .ok d s => ∀ v W' H', StepS W H W' H' → SRep g s W' σ H' → Rp g W' H' d v → Q v H'
  | .exc e s => ∀ cls dd W' H', StepS W H W' H' → SRep g s W' σ H' → ExnR g W' H' e cls dd → U cls dd σ H'
  | .stuck => False
def tX (g : Kg) (U : WX) (m : EM) : TE := fun σ H Q => ∃ s W, SRep g s W σ H ∧ PostX g U W H σ (m s) Q
def EvX (X : Cx) (U : WX) (e : Expr) (m : EM) : Prop := PE X e (tX (kg X) U m)
theorem ex_of (h : EvE .e X U e m) : EvX X U e m := PE.imp h fun σ H Q ⟨s, W, sr, h⟩ => ⟨s, W, sr, by
  cases e1 : m s with
  | ok d s1 => rw [e1] at h; exact fun v W' H' st => h v W' H' st.stmt
  | exc e s1 => rw [e1] at h; exact fun cls dd W' H' st => h cls dd W' H' st.stmt
  | stuck => rw [e1] at h; exact h⟩
def RE.bindS (r : RE) (f : D → S → RS) : RS := match r with
  | .ok d s => f d s
  | .exc e s => .ex e s
  | .stuck => .stuck
theorem PostS.bindX {g : Kg} {W : Wd} {H : Hp} {σ : L2.St} {r : RE} {f : D → S → RS} {E : Ends} (h : PostS g U W H (r.bindS f) E) :
    PostX g U W H σ r (fun v H1 => ∃ d s1 W1, r = .ok d s1 ∧ StepS W H W1 H1 ∧ SRep g s1 W1 σ H1 ∧ Rp g W1 H1 d v ∧ PostS g U W1 H1 (f d s1) E) := by
  cases r with
  | ok d s => exact fun v W' H' st sr rp => ⟨d, s, W', rfl, st, sr, rp, PostS.step st h⟩
  | exc e s => exact fun cls dd W' H' => h cls dd W' σ H'
  | stuck => exact h
theorem PostS.bindE {N : Md} {g : Kg} {W : Wd} {H : Hp} {σ : L2.St} {r : RE} {f : D → S → RS} {E : Ends} (h : PostS g U W H (r.bindS f) E) :
    PostE N g U W H σ r (fun v H1 => ∃ d s1 W1, r = .ok d s1 ∧ Step W H W1 H1 ∧ SRep g s1 W1 σ H1 ∧ Rm N g H W1 H1 d v ∧ PostS g U W1 H1 (f d s1) E) := by
  cases r with
  | ok d s => exact fun v W' H' st sr rp => ⟨d, s, W', rfl, st, sr, rp, PostS.step st.stmt h⟩
  | exc e s => exact fun cls dd W' H' st => h cls dd W' σ H' st.stmt
  | stuck => exact h
theorem PostX.mono {g : Kg} {W : Wd} {H : Hp} {σ : L2.St} {r : RE} {Q Q' : VK} (h : PostX g U W H σ r Q) (f : ∀ v H1, Q v H1 → Q' v H1) : PostX g U W H σ r Q' := by
  cases r with
  | ok d s => exact fun v W' H' st sr rp => f _ _ (h v W' H' st sr rp)
  | exc e s => exact h
  | stuck => exact h
def sRet (m : EM) : SM := fun s => (m s).bindS fun d s1 => .rt d s1
theorem es_ret (h : EvX X U e m) : EvS X U (.Return (some e) pos) (sRet m) := PS.imp (ps_ret h) fun E σ H ⟨s, W, sr, h⟩ =>
  ⟨s, W, sr, (PostS.bindX h).mono fun v H1 ⟨d, s1, W1, e1, st1, sr1, rp1, h1⟩ => h1 v W1 σ H1 StepS.refl sr1 rp1⟩
theorem es_retN : EvS X U (.Return none pos) (sRet (eC .non)) := PS.imp ps_retN fun E σ H ⟨s, W, sr, h⟩ => h .non W σ H StepS.refl sr rfl
def sExpr (m : EM) : SM := fun s => (m s).bindS fun _ s1 => .nx s1
theorem es_expr (h : EvX X U e m) (hs : swapsWith e none pos.line X.env = pure false := by rfl) : EvS X U (.Expr e pos) (sExpr m) := PS.imp (ps_expr h hs) fun E σ H ⟨s, W, sr, h⟩ =>
  ⟨s, W, sr, (PostS.bindX h).mono fun v H1 ⟨d, s1, W1, e1, st1, sr1, rp1, h1⟩ => h1 W1 σ H1 StepS.refl sr1⟩
def sIf (mc : EM) (m1 m2 : SM) : SM := fun s => (mc s).bindS fun d s1 => match d with
  | .bl true => m1 s1
  | .bl false => m2 s1
  | _ => .stuck
theorem es_if {s1 s2 : List Stmt} {m1 m2 : SM} (hc : EvT X U c mc) (h1 : EvSs X U s1 m1) (h2 : EvSs X U s2 m2) : EvS X U (.If c s1 s2 pos) (sIf mc m1 m2) := by
  refine PS.imp (ps_if hc h1 h2) fun E σ H ⟨s, W, sr, h⟩ => ⟨s, W, sr, ?_⟩
  unfold sIf at h
  cases e1 : mc s with
  | ok d s1 =>
    rw [e1] at h
    cases d with
    | bl b =>
      cases b with
      | true =>
        intro W' H' st sr
        rw [if_pos rfl]
        exact ⟨s1, W', sr, PostS.step st.stmt h⟩
      | false =>
        intro W' H' st sr
        rw [if_neg Bool.false_ne_true]
        exact ⟨s1, W', sr, PostS.step st.stmt h⟩
    | _ => exact h.elim
  | exc e s1 => rw [e1] at h; exact fun cls dd W' H' st => h cls dd W' σ H' st.stmt
  | stuck => rw [e1] at h; exact h

/-! ### targets -/
abbrev TgM := D → S → Option S
/-- but for the slots js the state's values are as they were -/
def SameBut (js : List Nat) (σ σ' : L2.St) : Prop := σ'.length = σ.length ∧ ∀ j, j ∉ js → σ'[j]? = σ[j]?
theorem SameBut.refl {js : List Nat} {σ : L2.St} : SameBut js σ σ := ⟨rfl, fun _ _ => rfl⟩
theorem SameBut.trans {js ks : List Nat} {σ σ1 σ2 : L2.St} (a : SameBut js σ σ1) (b : SameBut ks σ1 σ2) : SameBut (js ++ ks) σ σ2 :=
  ⟨b.1.trans a.1, fun j h => by
    rw [List.mem_append, not_or] at h
    exact (b.2 j h.2).trans (a.2 j h.1)⟩
def tG (g : Kg) (js : List Nat) (t : TgM) : TG := fun v σ H Q => ∃ s W d s', SRep g s W σ H ∧ Rp g W H d v ∧ t d s = some s' ∧ ∀ σ', SRep g s' W σ' H → SameBut js σ σ' → Q σ' H
def EvG (X : Cx) (e : Expr) (js : List Nat) (t : TgM) : Prop := PG X e (tG (kg X) js t)
theorem PG.imp {X : Cx} {e : Expr} {t t' : TG} (h : PG X e t) (f : ∀ v σ H Q, t' v σ H Q → t v σ H Q) : PG X e t' := ⟨fun pins s σ H v u Q I r q => h.run pins s σ H v u Q I r (f v σ H Q q)⟩
theorem PGs.imp {X : Cx} {e : List Expr} {t t' : TGs} (h : PGs X e t) (f : ∀ v σ H Q, t' v σ H Q → t v σ H Q) : PGs X e t' := ⟨fun pins s σ H v u Q I r q => h.run pins s σ H v u Q I r (f v σ H Q q)⟩
def setS (s : S) (i : Nat) (x : SV) : S := { s with sl := s.sl.set i (some x) }
theorem SRep.set {g : Kg} {s : S} {W : Wd} {σ : L2.St} {H : Hp} {i : Nat} {d : D} {v : V} (sr : SRep g s W σ H) (rp : Rp g W H d v) : SRep g (setS s i (.val false d)) W (σ.set i (some v)) H := by
  refine ⟨fun j => ?_, sr.cells, by simp [setS, sr.len]⟩
  by_cases e : j = i
  · subst e
    by_cases hl : j < s.sl.length
    · show SlotR _ _ _ _ _ ((s.sl.set j (some (SV.val false d)))[j]?)
      rw [List.getElem?_set_self hl, List.getElem?_set_self (by rw [← sr.len]; exact hl)]
      exact ⟨v, rfl, rp⟩
    · show SlotR _ _ _ _ _ ((s.sl.set j (some (SV.val false d)))[j]?)
      have ez : (s.sl.set j (some (SV.val false d)))[j]? = none := List.getElem?_eq_none (by simp; omega)
      rw [ez]
      trivial
  · show SlotR _ _ _ _ _ ((s.sl.set i (some (SV.val false d)))[j]?)
    rw [set_slots e, List.getElem?_set_ne (Ne.symm e)]
    exact sr.slot j
def gNm (i : Nat) : TgM := fun d s => some (setS s i (.val false d))
theorem eg_name {i : Nat} {x : Str} (hN : X.N.Nodup) (hi : X.N[i]? = some x) (hx : Loc X.env.scope x) (hf : X.fn x = true ∨ X.env.scope.names.lookup x = some .local := by first | exact .inl rfl | exact .inr rfl | assumption) : EvG X (.Name x pos) [i] (gNm i) :=
  PG.imp (pg_name hN hi hx hf) fun v σ H Q ⟨s, W, d, s', sr, rp, e, h⟩ => by
    cases e
    refine h _ (sr.set rp) ⟨by simp, fun j hj => ?_⟩
    rw [List.getElem?_set_ne (by intro z; exact hj (by simp [z]))]
/-- several targets, of the items of a tuple -/
abbrev TgMs := List D → S → Option S
def tGs (g : Kg) (js : List Nat) (t : TgMs) : TGs := fun vs σ H Q => ∃ s W ds s', SRep g s W σ H ∧ RpL g W H ds vs ∧ t ds s = some s' ∧ ∀ σ', SRep g s' W σ' H → SameBut js σ σ' → Q σ' H
def EvGs (X : Cx) (e : List Expr) (js : List Nat) (t : TgMs) : Prop := PGs X e (tGs (kg X) js t)
def gsNil : TgMs := fun ds s => match ds with
  | [] => some s
  | _ :: _ => none
def gsCons (t : TgM) (r : TgMs) : TgMs := fun ds s => match ds with
  | [] => none
  | d :: ds => (t d s).bind fun s1 => r ds s1
theorem egs_nil : EvGs X [] [] gsNil := PGs.imp pgs_nil fun vs σ H Q ⟨s, W, ds, s', sr, rp, e, h⟩ => by
  cases ds with
  | nil =>
    cases rp
    simp only [gsNil] at e
    cases e
    exact ⟨rfl, h σ sr SameBut.refl⟩
  | cons d r => simp only [gsNil] at e; cases e
theorem egs_cons {es : List Expr} {t : TgM} {r : TgMs} {js ks : List Nat} (h1 : EvG X e js t) (h2 : EvGs X es ks r) (hs : (assignEach (e :: es) X.env).map (·.2) = assign e X.env :: (assignEach es X.env).map (·.2) := by rfl) : EvGs X (e :: es) (js ++ ks) (gsCons t r) :=
  PGs.imp (pgs_cons h1 h2 hs) fun vs σ H Q ⟨s, W, ds, s', sr, rp, ee, h⟩ => by
    cases ds with
    | nil => simp only [gsCons] at ee; cases ee
    | cons d ds =>
      obtain ⟨v, q, rfl, r1, r2⟩ := rp
      simp only [gsCons] at ee
      obtain ⟨s1, e1, e2⟩ := Option.bind_eq_some_iff.mp ee
      exact ⟨v, q, rfl, s, W, d, s1, sr, r1, e1, fun σ' sr' sb => ⟨s1, W, ds, s', sr', r2, e2, fun σ2 sr2 sb2 => h σ2 sr2 (sb.trans sb2)⟩⟩
def gTp (n : Nat) (t : TgMs) : TgM := fun d s => match d with
  | .tup ds => if ds.length = n then t ds s else none
  | _ => none
theorem eg_tup {es : List Expr} {k : Nat} {t : TgMs} {n : Nat} {js : List Nat} (hc : X.calm = true) (h : EvGs X es js t) (hn : (assignEach es X.env).length = n := by rfl) (hst : (assignEach es X.env).findIdx? (·.1) = none := by rfl) : EvG X (.Tuple es k pos) js (gTp n t) :=
  PG.imp (pg_tup hc h hn hst) fun v σ H Q ⟨s, W, d, s', sr, rp, e, h⟩ => by
    cases d with
    | tup ds =>
      obtain ⟨p, vs, rfl, _, h1, h2⟩ := rp
      simp only [gTp] at e
      split at e
      · rename_i hl
        exact ⟨p, vs, rfl, SqT.of h1, by rw [← h2.length]; exact hl, s, W, ds, s', sr, h2, e, h⟩
      · cases e
    | _ => simp only [gTp] at e; cases e
/-- target = e -/
def sAsg (m : EM) (t : TgM) : SM := fun s => (m s).bindS fun d s1 => match t d s1 with
  | some s2 => .nx s2
  | none => .stuck
theorem es_asg {tg : Expr} {t : TgM} {js : List Nat} (he : EvX X U e m) (hg : EvG X tg js t) (hs : swapsWithSole [tg] e pos.line X.env = pure false := by rfl) (hw : swappedStores [tg] e X.env = pure none := by rfl)
    (h1 : (assignEach [tg] X.env).map (·.2) = [assign tg X.env] := by rfl) : EvS X U (.Assign [tg] e pos) (sAsg m t) :=
  PS.imp (ps_asg he hg hs hw h1) fun E σ H ⟨s, W, sr, h⟩ => ⟨s, W, sr, (PostS.bindX h).mono fun v H1 ⟨d, s1, W1, e1, st1, sr1, rp1, h1⟩ => by
    cases et : t d s1 with
    | none => rw [et] at h1; exact h1.elim
    | some s2 =>
      rw [et] at h1
      exact ⟨s1, W1, d, s2, sr1, rp1, et, fun σ' sr' _ => h1 W1 σ' H1 StepS.refl sr'⟩⟩
/-- name = e -/
def sSet (i : Nat) (m : EM) : SM := fun s => (m s).bindS fun d s1 => .nx (setS s1 i (.val false d))
theorem es_set {i : Nat} {x : Str} {pos' : Pos} (hN : X.N.Nodup) (hi : X.N[i]? = some x) (hx : Loc X.env.scope x) (he : EvX X U e m) (hs : swapsWith e (some (.Name x pos')) pos.line X.env = pure false := by rfl) (hf : X.fn x = true ∨ X.env.scope.names.lookup x = some .local := by first | exact .inl rfl | exact .inr rfl | assumption) :
    EvS X U (.Assign [.Name x pos'] e pos) (sSet i m) :=
  PS.imp (ps_set hN hi hx he hs hf) fun E σ H ⟨s, W, sr, h⟩ => ⟨s, W, sr, (PostS.bindX h).mono fun v H1 ⟨d, s1, W1, e1, st1, sr1, rp1, h1⟩ => h1 W1 _ H1 StepS.refl (sr1.set rp1)⟩
/-- name = something new: the slot's own -/
def sSetO (i : Nat) (m : EM) : SM := fun s => (m s).bindS fun d s1 => .nx (setS s1 i (.val true d))
theorem fresh_own {g : Kg} {H0 H : Hp} {W : Wd} {d : D} {v : V} (i : Nat) (h : FreshR g H0 W H d v) : ∃ a, v = .ref a ∧ W a = .prv ∧ H0 a = none ∧ (∃ o, H a = some o) ∧ OwnR g (W.set a (.own i)) H i d v := by
  cases d with
  | lst ds =>
    obtain ⟨a, vs, rfl, h0, h1, h2, h3⟩ := h
    have k : Kp W H (W.set a (.own i)) H := kp_retag (by rw [h1]; exact fun z => nomatch z) (by rw [h1]; exact fun k z => nomatch z)
    exact ⟨a, rfl, h1, h0, ⟨_, h2⟩, a, vs, rfl, Wd.set_same, h2, RpL.mono k ds vs h3⟩
  | dct t ks ds =>
    obtain ⟨a, vs, rfl, h0, h1, h2, h3⟩ := h
    have k : Kp W H (W.set a (.own i)) H := kp_retag (by rw [h1]; exact fun z => nomatch z) (by rw [h1]; exact fun k z => nomatch z)
    have ex : ∃ o, H a = some o := by
      rcases h2 with ⟨_, kvs, q, _⟩ | ⟨_, kvs, q, _⟩
      · exact ⟨_, q⟩
      · exact ⟨_, q⟩
    exact ⟨a, rfl, h1, h0, ex, a, vs, rfl, Wd.set_same, h2, RpL.mono k ds vs h3⟩
  | _ => exact h.elim
theorem SRep.setOwn {g : Kg} {s : S} {W : Wd} {σ : L2.St} {H : Hp} {i : Nat} {d : D} {a : Addr} (sr : SRep g s W σ H) (hw : W a = .prv) (ow : OwnR g (W.set a (.own i)) H i d (.ref a)) : SRep g (setS s i (.val true d)) (W.set a (.own i)) (σ.set i (some (.ref a))) H := by
  have n1 : W a ≠ .fz := by rw [hw]; exact fun z => nomatch z
  have n2 : ∀ k, W a ≠ .cell k := by rw [hw]; exact fun k z => nomatch z
  refine ⟨fun j => ?_, sr.cells.retag n1 n2 (fun k z => nomatch z), by simp [setS, sr.len]⟩
  by_cases e : j = i
  · subst e
    by_cases hl : j < s.sl.length
    · show SlotR _ _ _ _ _ ((s.sl.set j (some (SV.val true d)))[j]?)
      rw [List.getElem?_set_self hl, List.getElem?_set_self (by rw [← sr.len]; exact hl)]
      exact ⟨_, rfl, ow⟩
    · show SlotR _ _ _ _ _ ((s.sl.set j (some (SV.val true d)))[j]?)
      have ez : (s.sl.set j (some (SV.val true d)))[j]? = none := List.getElem?_eq_none (by simp; omega)
      rw [ez]
      trivial
  · show SlotR _ _ _ _ _ ((s.sl.set i (some (SV.val true d)))[j]?)
    rw [set_slots e, List.getElem?_set_ne (Ne.symm e)]
    exact SlotR.retag n1 n2 (by rw [hw]; exact fun z => nomatch z) (sr.slot j)
/-- what came new is given a tag -/
theorem StepS.give {W W1 : Wd} {H H1 : Hp} {a : Addr} {t : Tag} (st : StepS W H W1 H1) (h0 : H a = none) : StepS W H (W1.set a t) H1 := by
  have ne : ∀ b o, H b = some o → b ≠ a := fun b o e z => by rw [z, h0] at e; cases e
  refine ⟨fun b o e => ?_, fun b o e q => ?_⟩
  · rw [Wd.set_ne (ne b o e)]; exact st.kp b o e
  · rw [Wd.set_ne (ne b o e)]; exact st.pv b o e q
theorem es_setO {i : Nat} {x : Str} {pos' : Pos} (hN : X.N.Nodup) (hi : X.N[i]? = some x) (hx : Loc X.env.scope x) (he : EvE .o X U e m) (hs : swapsWith e (some (.Name x pos')) pos.line X.env = pure false := by rfl) (hf : X.fn x = true ∨ X.env.scope.names.lookup x = some .local := by first | exact .inl rfl | exact .inr rfl | assumption) :
    EvS X U (.Assign [.Name x pos'] e pos) (sSetO i m) := by
  refine PS.imp (ps_set hN hi hx he hs hf) fun E σ H ⟨s, W, sr, h⟩ => ⟨s, W, sr, ?_⟩
  unfold sSetO at h
  cases e1 : m s with
  | ok d s1 =>
    rw [e1] at h
    intro v W1 H1 st1 sr1 rp1
    obtain ⟨a, rfl, h1, h0, ⟨o, ho⟩, ow⟩ := fresh_own i rp1
    exact h _ _ H1 (st1.stmt.give h0) (sr1.setOwn h1 ow)
  | exc e s1 => rw [e1] at h; exact fun cls dd W' H' st => h cls dd W' σ H' st.stmt
  | stuck => rw [e1] at h; exact h
end
end Mv
set_option Elab.async false
set_option linter.all false
set_option maxRecDepth 100000
set_option maxHeartbeats 2000000
/-! Mv6: what is changed in place: a slot's own, cells. -/
namespace Mv
open PySem PySem.Spec PyProof.Rows L2

/-- an address that is no value to be read only is written -/
theorem kp_write {W : Wd} {H : Hp} {a : Addr} {o : HO} (h1 : W a ≠ .fz) : Kp W H W (upd H a o) := fun b u e => by
  refine ⟨fun q => ⟨q, ?_⟩, fun k q => ⟨q, ?_⟩⟩
  · exact (upd_ne (fun z : b = a => h1 (by rw [← z]; exact q))).trans e
  · by_cases z : b = a
    · subst z; exact ⟨o, upd_same⟩
    · exact ⟨u, (upd_ne z).trans e⟩
theorem steps_write {W : Wd} {H : Hp} {a : Addr} {o : HO} (h1 : W a ≠ .fz) (h2 : W a ≠ .prv) : StepS W H W (upd H a o) :=
  ⟨kp_write h1, fun b u e q => ⟨q, (upd_ne (fun z : b = a => h2 (by rw [← z]; exact q))).trans e⟩⟩
theorem CRep.writeOwn {g : Kg} {cs : List Cell} {W : Wd} {H : Hp} {a : Addr} {o : HO} (h1 : W a ≠ .fz) (h2 : ∀ k, W a ≠ .cell k) (h : CRep g cs W H) : CRep g cs W (upd H a o) := by
  have ne : ∀ b k, W b = .cell k → b ≠ a := fun b k q z => h2 k (by rw [← z]; exact q)
  refine ⟨fun k c e => ?_, fun b c k p u hb hc wb wc => ?_, fun b k p hb wb => ?_⟩
  · obtain ⟨b, p1, p2⟩ := h.at_ k c e
    exact ⟨b, p1, p2.mono (kp_write h1) fun p q => (upd_ne (ne b k p1)).trans q⟩
  · rw [upd_ne (ne b k wb)] at hb
    rw [upd_ne (ne c k wc)] at hc
    exact h.uniq b c k p u hb hc wb wc
  · rw [upd_ne (ne b k wb)] at hb
    exact h.bnd b k p hb wb
theorem OwnR.other {g : Kg} {W : Wd} {H : Hp} {a : Addr} {o : HO} {i : Nat} (h1 : W a ≠ .fz) (h2 : W a ≠ .own i) {d : D} {v : V} (h : OwnR g W H i d v) : OwnR g W (upd H a o) i d v := by
  cases d with
  | lst ds =>
    obtain ⟨b, vs, e, p1, p2, p3⟩ := h
    exact ⟨b, vs, e, p1, (upd_ne (fun z : b = a => h2 (by rw [← z]; exact p1))).trans p2, RpL.mono (kp_write h1) ds vs p3⟩
  | dct t ks ds =>
    obtain ⟨b, vs, e, p1, p2, p3⟩ := h
    have ne : b ≠ a := fun z => h2 (by rw [← z]; exact p1)
    refine ⟨b, vs, e, p1, ?_, RpL.mono (kp_write h1) ds vs p3⟩
    rcases p2 with ⟨et, kvs, q, e1, e2⟩ | ⟨et, kvs, q, e1, e2⟩
    · exact .inl ⟨et, kvs, (upd_ne ne).trans q, e1, e2⟩
    · exact .inr ⟨et, kvs, (upd_ne ne).trans q, e1, e2⟩
  | _ => exact h.elim
theorem SlotR.other {g : Kg} {W : Wd} {H : Hp} {a : Addr} {o : HO} {j : Nat} {v : Option (Option V)} {x : Option (Option SV)} (h1 : W a ≠ .fz) (h2 : W a ≠ .own j) (h : SlotR g W H j v x) : SlotR g W (upd H a o) j v x := by
  cases x with
  | none => trivial
  | some x =>
    cases x with
    | none => trivial
    | some x =>
      cases x with
      | exn e => trivial
      | val b d =>
        cases b with
        | false =>
          obtain ⟨x, e, h⟩ := h
          exact ⟨x, e, Rp.mono (kp_write h1) d x h⟩
        | true =>
          obtain ⟨x, e, h⟩ := h
          exact ⟨x, e, OwnR.other h1 h2 h⟩
/-- slot i's own list or dict is written -/
theorem SRep.write {g : Kg} {s : S} {W : Wd} {σ : L2.St} {H : Hp} {i : Nat} {a : Addr} {o : HO} {d : D} (sr : SRep g s W σ H) (hw : W a = .own i) (hs : σ[i]? = some (some (.ref a))) (ow : OwnR g W (upd H a o) i d (.ref a)) : SRep g (setS s i (.val true d)) W σ (upd H a o) := by
  have n1 : W a ≠ .fz := by rw [hw]; exact fun z => nomatch z
  have n2 : ∀ k, W a ≠ .cell k := by rw [hw]; exact fun k z => nomatch z
  refine ⟨fun j => ?_, sr.cells.writeOwn n1 n2, by simp [setS, sr.len]⟩
  by_cases e : j = i
  · subst e
    have hl : j < s.sl.length := by
      rw [sr.len]
      exact (List.getElem?_eq_some_iff.mp hs).1
    show SlotR _ _ _ _ _ ((s.sl.set j (some (SV.val true d)))[j]?)
    rw [List.getElem?_set_self hl]
    exact ⟨_, hs, ow⟩
  · show SlotR _ _ _ _ _ ((s.sl.set i (some (SV.val true d)))[j]?)
    rw [set_slots e]
    exact SlotR.other n1 (by rw [hw]; intro z; injection z with z; exact e z.symm) (sr.slot j)
/-- a cell is written -/
theorem CRep.write {g : Kg} {cs : List Cell} {W : Wd} {H : Hp} {a : Addr} {o : HO} {k : Nat} {c : Cell} (h : CRep g cs W H) (hw : W a = .cell k) (ha : ∃ u, H a = some u) (hc : CellR g W (upd H a o) a c) : CRep g (cs.set k c) W (upd H a o) := by
  obtain ⟨u0, hu0⟩ := ha
  have n1 : W a ≠ .fz := by rw [hw]; exact fun z => nomatch z
  have there : ∀ b p, upd H a o b = some p → ∃ u, H b = some u := fun b p e => by
    by_cases z : b = a
    · subst z; exact ⟨u0, hu0⟩
    · rw [upd_ne z] at e; exact ⟨p, e⟩
  refine ⟨fun k' c' e => ?_, fun b d k' p u hb hd wb wd => ?_, fun b k' p hb wb => ?_⟩
  · by_cases ek : k' = k
    · subst ek
      have hl : k' < cs.length := h.bnd a k' u0 hu0 hw
      rw [List.getElem?_set_self hl] at e
      cases e
      exact ⟨a, hw, hc⟩
    · rw [List.getElem?_set_ne (Ne.symm ek)] at e
      obtain ⟨b, p1, p2⟩ := h.at_ k' c' e
      have ne : b ≠ a := fun z => by rw [z, hw] at p1; injection p1 with p1; exact ek p1.symm
      exact ⟨b, p1, p2.mono (kp_write n1) fun p q => (upd_ne ne).trans q⟩
  · obtain ⟨p', hb'⟩ := there b p hb
    obtain ⟨u', hd'⟩ := there d u hd
    exact h.uniq b d k' p' u' hb' hd' wb wd
  · obtain ⟨p', hb'⟩ := there b p hb
    rw [List.length_set]
    exact h.bnd b k' p' hb' wb
def setC (s : S) (k : Nat) (c : Cell) : S := { s with cs := s.cs.set k c }
theorem SRep.writeC {g : Kg} {s : S} {W : Wd} {σ : L2.St} {H : Hp} {k : Nat} {a : Addr} {o : HO} {c : Cell} (sr : SRep g s W σ H) (hw : W a = .cell k) (ha : ∃ u, H a = some u) (hc : CellR g W (upd H a o) a c) : SRep g (setC s k c) W σ (upd H a o) :=
  ⟨fun j => SlotR.other (by rw [hw]; exact fun z => nomatch z) (by rw [hw]; exact fun z => nomatch z) (sr.slot j), sr.cells.write hw ha hc, sr.len⟩
theorem step_writeC {W : Wd} {H : Hp} {a : Addr} {o : HO} {k : Nat} (hw : W a = .cell k) : Step W H W (upd H a o) := fun b u e => by
  refine ⟨fun nc => ?_, ?_, .inl rfl⟩
  · exact (upd_ne (fun z : b = a => nc k (by rw [z]; exact hw))).trans e
  · by_cases z : b = a
    · subst z; exact ⟨o, upd_same⟩
    · exact ⟨u, (upd_ne z).trans e⟩

section
variable {X : Cx} {U : WX} {a b c e : Expr} {ma mb mc m : EM} {pos : Pos}
/-! ### arguments that may change what is a slot's own -/
def PostAX (g : Kg) (U : WX) (W : Wd) (H : Hp) (σ : L2.St) (r : RL) (Q : List V → Hp → Prop) : Prop := match r with
  | .ok ds s => ∀ vs W' H', StepS W H W' H' → SRep g s W' σ H' → RpL g W' H' ds vs → Q vs H'
  | .exc e s => ∀ cls dd W' H', StepS W H W' H' → SRep g s W' σ H' → ExnR g W' H' e cls dd → U cls dd σ H'
  | .stuck => False
def tAX (g : Kg) (U : WX) (m : AM) : TA := fun σ H Q => ∃ s W, SRep g s W σ H ∧ PostAX g U W H σ (m s) Q
def EvAX (X : Cx) (U : WX) (es : List Expr) (m : AM) : Prop := PA X es (tAX (kg X) U m)
theorem eax_nil : EvAX X U [] aNil := PA.imp pa_nil fun σ H Q ⟨s, W, sr, h⟩ => h [] W H StepS.refl sr rfl
theorem eax_cons {es : List Expr} {r : AM} (ha : EvX X U a m) (hr : EvAX X U es r) (hs : starEach (a :: es) X.env = (false, eval a X.env) :: starEach es X.env := by rfl) : EvAX X U (a :: es) (aCons m r) := by
  refine PA.imp (pa_cons ha hr hs) fun σ H Q ⟨s, W, sr, h⟩ => ⟨s, W, sr, ?_⟩
  unfold aCons at h
  cases e1 : m s with
  | stuck => rw [e1] at h; exact h
  | exc e s1 => rw [e1] at h; exact h
  | ok d s1 =>
    rw [e1] at h
    dsimp only at h
    intro v W1 H1 st1 sr1 rp1
    refine ⟨s1, W1, sr1, ?_⟩
    cases e2 : r s1 with
    | stuck => rw [e2] at h; exact h
    | exc e s2 => rw [e2] at h; exact fun cls dd W2 H2 st2 => h cls dd W2 H2 (st1.trans st2)
    | ok ds s2 =>
      rw [e2] at h
      intro vs W2 H2 st2 sr2 rp2
      exact h (v :: vs) W2 H2 (st1.trans st2) sr2 ⟨v, vs, rfl, Rp.mono st2.kp d v rp1, rp2⟩

/-! ### a method of a slot's own list -/
def MutD (r : V → List V → Hp → VK → Prop) (o : List D → List D → Option (D × List D)) : Prop :=
  ∀ (g : Kg) (W : Wd) (H : Hp) (ds args ds' : List D) (d : D) (vs avs : List V) (a : Addr) (Q : VK), H a = some (.lst vs) → W a ≠ .fz → RpL g W H ds vs → RpL g W H args avs → o ds args = some (d, ds') →
    (∀ v vs', Rp g W H d v → RpL g W H ds' vs' → Q v (upd H a (.lst vs'))) → r (.ref a) avs H Q
def eMut (i : Nat) (o : List D → List D → Option (D × List D)) (am : AM) : EM := fun s => match s.sl[i]? with
  | some (some (.val true (.lst _))) => (am s).bind fun args s1 => match s1.sl[i]? with
    | some (some (.val true (.lst ds))) => match o ds args with
      | some (d, ds') => .ok d (setS s1 i (.val true (.lst ds')))
      | none => .stuck
    | _ => .stuck
  | _ => .stuck
theorem own_at {g : Kg} {s : S} {W : Wd} {σ : L2.St} {H : Hp} {i : Nat} {ds : List D} (sr : SRep g s W σ H) (e : s.sl[i]? = some (some (.val true (.lst ds)))) : ∃ a vs, σ[i]? = some (some (.ref a)) ∧ W a = .own i ∧ H a = some (.lst vs) ∧ RpL g W H ds vs := by
  have h := sr.slot i
  rw [e] at h
  obtain ⟨x, e1, a, vs, rfl, h1, h2, h3⟩ := h
  exact ⟨a, vs, e1, h1, h2, h3⟩
theorem mut_fin {g : Kg} {W : Wd} {H : Hp} {a : Addr} {i : Nat} {s1 : S} {σ : L2.St} {o : List D → List D → Option (D × List D)} {ds args ds' : List D} {d : D} {vs avs : List V} {r : V → List V → Hp → VK → Prop} {Q : VK} (hd : MutD r o)
    (sr1 : SRep g s1 W σ H) (es : σ[i]? = some (some (.ref a))) (hw : W a = .own i) (ha : H a = some (.lst vs)) (r1 : RpL g W H ds vs) (r2 : RpL g W H args avs) (eo : o ds args = some (d, ds'))
    (h : ∀ v W' H', StepS W H W' H' → SRep g (setS s1 i (.val true (.lst ds'))) W' σ H' → Rp g W' H' d v → Q v H') : r (.ref a) avs H Q := by
  have n1 : W a ≠ .fz := by rw [hw]; exact fun z => nomatch z
  have n2 : W a ≠ .prv := by rw [hw]; exact fun z => nomatch z
  refine hd g W H ds args ds' d vs avs a Q ha n1 r1 r2 eo fun v vs' rv rl => ?_
  have k := kp_write (H := H) (o := .lst vs') n1
  exact h v W _ (steps_write n1 n2) (sr1.write hw es ⟨a, vs', rfl, hw, upd_same, RpL.mono k ds' vs' rl⟩) (Rp.mono k d v rv)
theorem ex_mut {i : Nat} {x name : Str} {id : String} {p apos : Pos} {es : List Expr} {am : AM} {r : V → List V → Hp → VK → Prop} {o : List D → List D → Option (D × List D)} (hd : MutD r o) (pa : PlainAttrs "list") (slot : Slot "list" name id) (hty : typeOf (.builtin id) = pure (.type "method_descriptor")) (hm : MtR X id r)
    (hN : X.N[i]? = some x) (hv : Vis X.env.scope x) (ha : EvAX X U (e :: es) am) (hd1 : (x == ("__debug__" : Str)) = false := by decide) (hcd : (x == ("__classdict__" : Str)) = false := by decide)
    (hbase : attributeBase (.Name x p) name X.env (eval (.Name x p) X.env) = eval (.Name x p) X.env := by rfl)
    (hfew : ((backTo pos (starEach (e :: es) X.env)).all (fun x => !x.1) && (backToKw pos (keywordEach [] X.env)).all (fun x => x.1.isSome)
      && decide ((e :: es).length + ([] : List Keyword).length + (if ([] : List Keyword).isEmpty then 0 else 1) < 30)) = true := by rfl)
    (hline : (apos.endLine == pos.line) = true := by rfl) (hs : starEach (e :: es) X.env = (false, eval e X.env) :: starEach es X.env := by rfl) (hplain : (backTo pos (starEach es X.env)).any (·.1) = false := by rfl) :
    EvX X U (.Call (.Attribute (.Name x p) name apos) (e :: es) [] pos) (eMut i o am) := by
  refine PE.imp (pe_bm pa slot hty hm (pe_var hN hv hd1 hcd) ha hbase hfew hline hs hplain) fun σ H Q ⟨s, W, sr, h⟩ => ?_
  unfold eMut at h
  split at h
  · rename_i ds0 e0
    obtain ⟨l, vs, es, hw, hl, rl⟩ := own_at sr e0
    refine ⟨.ref l, es, .inl ⟨rfl, vs, SqL.of hl⟩, s, W, sr, ?_⟩
    cases e1 : am s with
    | stuck => rw [e1] at h; exact h
    | exc e s1 => rw [e1] at h; exact h
    | ok args s1 =>
      rw [e1] at h
      intro avs W1 H1 st1 sr1 rp1
      have h : PostX (kg X) U W H σ (match s1.sl[i]? with | some (some (.val true (.lst ds))) => (match o ds args with | some (d, ds') => .ok d (setS s1 i (.val true (.lst ds'))) | none => .stuck) | _ => .stuck) Q := h
      split at h
      · rename_i ds e2
        obtain ⟨l', vs', es', hw', hl', rl'⟩ := own_at sr1 e2
        rw [es] at es'
        cases es'
        cases eo : o ds args with
        | none => rw [eo] at h; exact h.elim
        | some q =>
          obtain ⟨d, ds'⟩ := q
          rw [eo] at h
          exact mut_fin hd sr1 es hw' hl' rl' rp1 eo fun v W2 H2 st2 => h v W2 H2 (st1.trans st2)
      · exact h.elim
  · exact h.elim
theorem ex_mut0 {i : Nat} {x name : Str} {id : String} {p apos : Pos} {r : V → List V → Hp → VK → Prop} {o : List D → List D → Option (D × List D)} (hd : MutD r o) (pa : PlainAttrs "list") (slot : Slot "list" name id) (hty : typeOf (.builtin id) = pure (.type "method_descriptor")) (hm : MtR X id r)
    (hN : X.N[i]? = some x) (hv : Vis X.env.scope x) (hd1 : (x == ("__debug__" : Str)) = false := by decide) (hcd : (x == ("__classdict__" : Str)) = false := by decide)
    (hbase : attributeBase (.Name x p) name X.env (eval (.Name x p) X.env) = eval (.Name x p) X.env := by rfl) (hline : (apos.endLine == pos.line) = true := by rfl) :
    EvX X U (.Call (.Attribute (.Name x p) name apos) [] [] pos) (eMut i o aNil) := by
  refine PE.imp (pe_bm0 pa slot hty hm (pe_var hN hv hd1 hcd) hbase hline) fun σ H Q ⟨s, W, sr, h⟩ => ?_
  unfold eMut at h
  split at h
  · rename_i ds0 e0
    obtain ⟨l, vs, es, hw, hl, rl⟩ := own_at sr e0
    refine ⟨.ref l, es, .inl ⟨rfl, vs, SqL.of hl⟩, ?_⟩
    have h : PostX (kg X) U W H σ (match s.sl[i]? with | some (some (.val true (.lst ds))) => (match o ds [] with | some (d, ds') => .ok d (setS s i (.val true (.lst ds'))) | none => .stuck) | _ => .stuck) Q := h
    rw [e0] at h
    dsimp only at h
    cases eo : o ds0 [] with
    | none => rw [eo] at h; exact h.elim
    | some q =>
      obtain ⟨d, ds'⟩ := q
      rw [eo] at h
      exact mut_fin (args := []) hd sr es hw hl rl rfl eo h
  · exact h.elim
/-! .. of a list that is a cell -/
def eMutC (mo : EM) (o : List D → List D → Option (D × List D)) (am : AM) : EM := fun s => (mo s).bind fun d0 s0 => match d0 with
  | .cell k => match s0.cs[k]? with
    | some (.lst _) => (am s0).bind fun args s1 => match s1.cs[k]? with
      | some (.lst ds) => match o ds args with
        | some (d, ds') => .ok d (setC s1 k (.lst ds'))
        | none => .stuck
      | _ => .stuck
    | _ => .stuck
  | _ => .stuck
theorem cell_at {g : Kg} {cs : List Cell} {W : Wd} {H : Hp} {k : Nat} {v : V} {ds : List D} (c : CRep g cs W H) (r : Rp g W H (.cell k) v) (e : cs[k]? = some (.lst ds)) : ∃ a vs, v = .ref a ∧ W a = .cell k ∧ H a = some (.lst vs) ∧ RpL g W H ds vs := by
  obtain ⟨a, rfl, h1, o, ho⟩ := r
  obtain ⟨b, w2, vs, hb, rl⟩ := c.at_ _ _ e
  have := c.uniq a b k o _ ho hb h1 w2
  subst this
  exact ⟨a, vs, rfl, h1, hb, rl⟩
theorem mut_finC {g : Kg} {W : Wd} {H : Hp} {a : Addr} {k : Nat} {s1 : S} {σ : L2.St} {o : List D → List D → Option (D × List D)} {ds args ds' : List D} {d : D} {vs avs : List V} {r : V → List V → Hp → VK → Prop} {Q : VK} (hd : MutD r o)
    (sr1 : SRep g s1 W σ H) (hw : W a = .cell k) (ha : H a = some (.lst vs)) (r1 : RpL g W H ds vs) (r2 : RpL g W H args avs) (eo : o ds args = some (d, ds'))
    (h : ∀ v W' H', Step W H W' H' → SRep g (setC s1 k (.lst ds')) W' σ H' → Rp g W' H' d v → Q v H') : r (.ref a) avs H Q := by
  have n1 : W a ≠ .fz := by rw [hw]; exact fun z => nomatch z
  refine hd g W H ds args ds' d vs avs a Q ha n1 r1 r2 eo fun v vs' rv rl => ?_
  have kk := kp_write (H := H) (o := .lst vs') n1
  exact h v W _ (step_writeC hw) (sr1.writeC hw ⟨_, ha⟩ ⟨vs', upd_same, RpL.mono kk ds' vs' rl⟩) (Rp.mono kk d v rv)
theorem RmL.ofRp {g : Kg} {W : Wd} {H : Hp} : ∀ {ds : List D} {vs : List V}, RmL .e g W H ds vs → RpL g W H ds vs := RmL.toRp
theorem ev_mutC {name : Str} {id : String} {apos : Pos} {es : List Expr} {mo : EM} {am : AM} {r : V → List V → Hp → VK → Prop} {o : List D → List D → Option (D × List D)} (hd : MutD r o) (pa : PlainAttrs "list") (slot : Slot "list" name id) (hty : typeOf (.builtin id) = pure (.type "method_descriptor")) (hm : MtR X id r)
    (ho : EvE .e X U a mo) (ha : EvA .e X U (e :: es) am)
    (hbase : attributeBase a name X.env (eval a X.env) = eval a X.env := by rfl)
    (hfew : ((backTo pos (starEach (e :: es) X.env)).all (fun x => !x.1) && (backToKw pos (keywordEach [] X.env)).all (fun x => x.1.isSome)
      && decide ((e :: es).length + ([] : List Keyword).length + (if ([] : List Keyword).isEmpty then 0 else 1) < 30)) = true := by rfl)
    (hline : (apos.endLine == pos.line) = true := by rfl) (hs : starEach (e :: es) X.env = (false, eval e X.env) :: starEach es X.env := by rfl) (hplain : (backTo pos (starEach es X.env)).any (·.1) = false := by rfl) :
    EvE .e X U (.Call (.Attribute a name apos) (e :: es) [] pos) (eMutC mo o am) := by
  refine PE.imp (pe_bm pa slot hty hm ho ha hbase hfew hline hs hplain) fun σ H Q ⟨s, W, sr, h⟩ => ⟨s, W, sr, (PostE.bind h).mono fun x H0 ⟨d0, s0, W0, e0, st0, sr0, rp0, h0⟩ => ?_⟩
  cases d0 with
  | cell k =>
    dsimp only at h0
    split at h0
    · rename_i ds0 ec
      obtain ⟨l, vs, rfl, hw, hl, rl⟩ := cell_at sr0.cells rp0 ec
      refine ⟨.inl ⟨rfl, vs, SqL.of hl⟩, s0, W0, sr0, (PostA.bind h0).mono fun avs H1 ⟨args, s1, W1, e1, st1, sr1, rp1, h1⟩ => ?_⟩
      split at h1
      · rename_i ds e2
        obtain ⟨l', vs', el, hw', hl', rl'⟩ := cell_at sr1.cells (Rp.mono st1.kp (.cell k) _ rp0) e2
        cases el
        cases eo : o ds args with
        | none => rw [eo] at h1; exact h1.elim
        | some q =>
          obtain ⟨d, ds'⟩ := q
          rw [eo] at h1
          exact mut_finC hd sr1 hw' hl' rl' (RmL.toRp rp1) eo fun v W2 H2 st2 => h1 v W2 H2 st2
      · exact h1.elim
    · exact h0.elim
  | _ => exact h0.elim
theorem ev_mutC0 {name : Str} {id : String} {apos : Pos} {mo : EM} {r : V → List V → Hp → VK → Prop} {o : List D → List D → Option (D × List D)} (hd : MutD r o) (pa : PlainAttrs "list") (slot : Slot "list" name id) (hty : typeOf (.builtin id) = pure (.type "method_descriptor")) (hm : MtR X id r)
    (ho : EvE .e X U a mo) (hbase : attributeBase a name X.env (eval a X.env) = eval a X.env := by rfl) (hline : (apos.endLine == pos.line) = true := by rfl) :
    EvE .e X U (.Call (.Attribute a name apos) [] [] pos) (eMutC mo o aNil) := by
  refine PE.imp (pe_bm0 pa slot hty hm ho hbase hline) fun σ H Q ⟨s, W, sr, h⟩ => ⟨s, W, sr, (PostE.bind h).mono fun x H0 ⟨d0, s0, W0, e0, st0, sr0, rp0, h0⟩ => ?_⟩
  cases d0 with
  | cell k =>
    dsimp only at h0
    split at h0
    · rename_i ds0 ec
      obtain ⟨l, vs, rfl, hw, hl, rl⟩ := cell_at sr0.cells rp0 ec
      refine ⟨.inl ⟨rfl, vs, SqL.of hl⟩, ?_⟩
      have h1 : PostE .e (kg X) U W0 H0 σ (match s0.cs[k]? with | some (.lst ds) => (match o ds [] with | some (d, ds') => .ok d (setC s0 k (.lst ds')) | none => .stuck) | _ => .stuck) Q := h0
      rw [ec] at h1
      dsimp only at h1
      cases eo : o ds0 [] with
      | none => rw [eo] at h1; exact h1.elim
      | some q =>
        obtain ⟨d, ds'⟩ := q
        rw [eo] at h1
        exact mut_finC (args := []) hd sr0 hw hl rl rfl eo h1
    · exact h0.elim
  | _ => exact h0.elim

/-! ### the methods -/
def lAppend : List D → List D → Option (D × List D)
  | ds, [d] => if ds.length < sizeLine then some (.non, ds ++ [d]) else none
  | _, _ => none
theorem md_append : MutD rAppend lAppend := by
  intro g W H ds args ds' d vs avs a Q ha n1 r1 r2 e q
  unfold lAppend at e
  split at e
  · split at e
    · rename_i hl
      cases e
      obtain ⟨y, t, rfl, ry, rt⟩ := r2
      cases rt
      refine ⟨a, vs, y, rfl, rfl, ha, by rw [← r1.length]; exact hl, q .non _ rfl (r1.append ⟨y, [], rfl, ry, rfl⟩)⟩
    · cases e
  · cases e
def lExtend : List D → List D → Option (D × List D)
  | ds, [.lst es] => if ds.length + es.length ≤ sizeLine then some (.non, ds ++ es) else none
  | _, _ => none
theorem md_extend : MutD rExtend lExtend := by
  intro g W H ds args ds' d vs avs a Q ha n1 r1 r2 e q
  unfold lExtend at e
  split at e
  · split at e
    · rename_i hl
      cases e
      obtain ⟨y, t, rfl, ry, rt⟩ := r2
      cases rt
      obtain ⟨b, zs, rfl, _, hb, rb⟩ := ry
      refine ⟨a, b, vs, zs, rfl, rfl, ha, hb, by rw [← r1.length, ← rb.length]; exact hl, q .non _ rfl (r1.append rb)⟩
    · cases e
  · cases e
theorem RpL.dropLast {g : Kg} {W : Wd} {H : Hp} {ds : List D} {vs : List V} (h : RpL g W H ds vs) : RpL g W H ds.dropLast vs.dropLast := by
  rw [List.dropLast_eq_take, List.dropLast_eq_take, ← h.length]
  exact h.take _
theorem RpL.eraseIdx {g : Kg} {W : Wd} {H : Hp} : ∀ {ds : List D} {vs : List V} (j : Nat), RpL g W H ds vs → RpL g W H (ds.eraseIdx j) (vs.eraseIdx j)
  | [], _, j, h => by cases h; exact rfl
  | _ :: _, _, 0, h => by
    obtain ⟨v, r, rfl, h1, h2⟩ := h
    exact h2
  | _ :: _, _, j + 1, h => by
    obtain ⟨v, r, rfl, h1, h2⟩ := h
    exact ⟨v, _, rfl, h1, RpL.eraseIdx j h2⟩
theorem RpL.set {g : Kg} {W : Wd} {H : Hp} {d : D} {x : V} (rx : Rp g W H d x) : ∀ {ds : List D} {vs : List V} (j : Nat), RpL g W H ds vs → RpL g W H (ds.set j d) (vs.set j x)
  | [], _, j, h => by cases h; exact rfl
  | _ :: _, _, 0, h => by
    obtain ⟨v, r, rfl, h1, h2⟩ := h
    exact ⟨x, r, rfl, rx, h2⟩
  | _ :: _, _, j + 1, h => by
    obtain ⟨v, r, rfl, h1, h2⟩ := h
    exact ⟨v, _, rfl, h1, RpL.set rx j h2⟩
def lPop : List D → List D → Option (D × List D)
  | ds, [] => ds[ds.length - 1]?.map fun d => (d, ds.dropLast)
  | ds, [.int i] => if 0 ≤ i ∧ i < 2 ^ 62 then ds[i.toNat]?.map fun d => (d, ds.eraseIdx i.toNat) else none
  | _, _ => none
theorem md_pop : MutD (fun x vs H Q => rPop x vs H Q ∨ rPopAt x vs H Q) lPop := by
  intro g W H ds args ds' d vs avs a Q ha n1 r1 r2 e q
  unfold lPop at e
  split at e
  · obtain ⟨z, e1, e2⟩ := Option.map_eq_some_iff.mp e
    cases e2
    cases r2
    obtain ⟨v, e3, rv⟩ := r1.get e1
    rw [r1.length] at e3
    exact .inl ⟨a, vs, v, rfl, rfl, ha, e3, q v _ rv r1.dropLast⟩
  · rename_i i
    split at e
    · rename_i hi
      obtain ⟨z, e1, e2⟩ := Option.map_eq_some_iff.mp e
      cases e2
      obtain ⟨y, t, rfl, ry, rt⟩ := r2
      cases rt
      cases ry
      obtain ⟨v, e3, rv⟩ := r1.get e1
      have hlt : i.toNat < vs.length := (List.getElem?_eq_some_iff.mp e3).1
      exact .inr ⟨a, vs, i, i.toNat, v, rfl, rfl, ha, by omega, by omega, seqIndex_of hi.1 (by omega), e3, q v _ rv (r1.eraseIdx _)⟩
    · cases e
  · cases e
def lRemove : List D → List D → Option (D × List D)
  | ds, [.int k] => (intsD ds).bind fun ns => if k ∈ ns then some (.non, (ns.erase k).map .int) else none
  | _, _ => none
theorem md_remove : MutD rRemI lRemove := by
  intro g W H ds args ds' d vs avs a Q ha n1 r1 r2 e q
  unfold lRemove at e
  split at e
  · obtain ⟨ns, e1, e⟩ := Option.bind_eq_some_iff.mp e
    split at e
    · rename_i hk
      cases e
      obtain ⟨y, t, rfl, ry, rt⟩ := r2
      cases rt
      cases ry
      have := intsD_v e1 r1
      subst this
      obtain ⟨j, h1, h2, h3, h4⟩ := first_at hk
      exact ⟨a, ns, _, j, rfl, rfl, ha, h2, h3, by rw [h4]; exact q .non _ rfl (RpL.ints _)⟩
    · cases e
  · cases e
def lInsert : List D → List D → Option (D × List D)
  | ds, [.int i, d] => if ds.length < sizeLine ∧ 0 ≤ i ∧ i < 2 ^ 63 then some (.non, ds.take i.toNat ++ [d] ++ ds.drop i.toNat) else none
  | _, _ => none
theorem md_insert : MutD (fun x vs H Q => ∃ (l : Addr) (xs : List V) (i : Int) (y : V), x = .ref l ∧ vs = [.int i, y] ∧ H l = some (.lst xs) ∧ xs.length < sizeLine ∧ 0 ≤ i ∧ i < 2 ^ 63 ∧
    Q .non (upd H l (.lst (xs.take i.toNat ++ [y] ++ xs.drop i.toNat)))) lInsert := by
  intro g W H ds args ds' d vs avs a Q ha n1 r1 r2 e q
  unfold lInsert at e
  split at e
  · split at e
    · rename_i i d0 h
      cases e
      obtain ⟨y, t, rfl, ry, rt⟩ := r2
      obtain ⟨z, t', rfl, rz, rt'⟩ := rt
      cases rt'
      cases ry
      exact ⟨a, vs, i, z, rfl, rfl, ha, by rw [← r1.length]; exact h.1, h.2.1, h.2.2, q .non _ rfl (((r1.take _).append (show RpL g W H [d0] [z] from ⟨z, [], rfl, rz, rfl⟩)).append (r1.drop _))⟩
    · cases e
  · cases e
variable {x : Str} {p apos : Pos} {i : Nat}
theorem ex_append {am : AM} (hN : X.N[i]? = some x) (hv : Vis X.env.scope x) (ha : EvAX X U [e] am) (hd1 : (x == ("__debug__" : Str)) = false := by decide) (hcd : (x == ("__classdict__" : Str)) = false := by decide)
    (hbase : attributeBase (.Name x p) "append" X.env (eval (.Name x p) X.env) = eval (.Name x p) X.env := by rfl)
    (hfew : ((backTo pos (starEach [e] X.env)).all (fun x => !x.1) && (backToKw pos (keywordEach [] X.env)).all (fun x => x.1.isSome)
      && decide ([e].length + ([] : List Keyword).length + (if ([] : List Keyword).isEmpty then 0 else 1) < 30)) = true := by rfl)
    (hline : (apos.endLine == pos.line) = true := by rfl) (hs : starEach [e] X.env = (false, eval e X.env) :: starEach [] X.env := by rfl) (hplain : (backTo pos (starEach [] X.env)).any (·.1) = false := by rfl) :
    EvX X U (.Call (.Attribute (.Name x p) "append" apos) [e] [] pos) (eMut i lAppend am) :=
  ex_mut md_append PySem.F.plainAttrs_list PySem.F.slot_list_append PySem.F.type_list_append mt_append hN hv ha hd1 hcd hbase hfew hline hs hplain
theorem ex_extend {am : AM} (hN : X.N[i]? = some x) (hv : Vis X.env.scope x) (ha : EvAX X U [e] am) (hd1 : (x == ("__debug__" : Str)) = false := by decide) (hcd : (x == ("__classdict__" : Str)) = false := by decide)
    (hbase : attributeBase (.Name x p) "extend" X.env (eval (.Name x p) X.env) = eval (.Name x p) X.env := by rfl)
    (hfew : ((backTo pos (starEach [e] X.env)).all (fun x => !x.1) && (backToKw pos (keywordEach [] X.env)).all (fun x => x.1.isSome)
      && decide ([e].length + ([] : List Keyword).length + (if ([] : List Keyword).isEmpty then 0 else 1) < 30)) = true := by rfl)
    (hline : (apos.endLine == pos.line) = true := by rfl) (hs : starEach [e] X.env = (false, eval e X.env) :: starEach [] X.env := by rfl) (hplain : (backTo pos (starEach [] X.env)).any (·.1) = false := by rfl) :
    EvX X U (.Call (.Attribute (.Name x p) "extend" apos) [e] [] pos) (eMut i lExtend am) :=
  ex_mut md_extend PySem.F.plainAttrs_list PySem.F.slot_list_extend PySem.F.type_list_extend mt_extend hN hv ha hd1 hcd hbase hfew hline hs hplain
theorem ex_popAt {am : AM} (hN : X.N[i]? = some x) (hv : Vis X.env.scope x) (ha : EvAX X U [e] am) (hd1 : (x == ("__debug__" : Str)) = false := by decide) (hcd : (x == ("__classdict__" : Str)) = false := by decide)
    (hbase : attributeBase (.Name x p) "pop" X.env (eval (.Name x p) X.env) = eval (.Name x p) X.env := by rfl)
    (hfew : ((backTo pos (starEach [e] X.env)).all (fun x => !x.1) && (backToKw pos (keywordEach [] X.env)).all (fun x => x.1.isSome)
      && decide ([e].length + ([] : List Keyword).length + (if ([] : List Keyword).isEmpty then 0 else 1) < 30)) = true := by rfl)
    (hline : (apos.endLine == pos.line) = true := by rfl) (hs : starEach [e] X.env = (false, eval e X.env) :: starEach [] X.env := by rfl) (hplain : (backTo pos (starEach [] X.env)).any (·.1) = false := by rfl) :
    EvX X U (.Call (.Attribute (.Name x p) "pop" apos) [e] [] pos) (eMut i lPop am) :=
  ex_mut md_pop PySem.F.plainAttrs_list PySem.F.slot_list_pop PySem.F.type_list_pop (MtR.or mt_pop mt_popAt) hN hv ha hd1 hcd hbase hfew hline hs hplain
theorem ex_pop (hN : X.N[i]? = some x) (hv : Vis X.env.scope x) (hd1 : (x == ("__debug__" : Str)) = false := by decide) (hcd : (x == ("__classdict__" : Str)) = false := by decide)
    (hbase : attributeBase (.Name x p) "pop" X.env (eval (.Name x p) X.env) = eval (.Name x p) X.env := by rfl) (hline : (apos.endLine == pos.line) = true := by rfl) :
    EvX X U (.Call (.Attribute (.Name x p) "pop" apos) [] [] pos) (eMut i lPop aNil) :=
  ex_mut0 md_pop PySem.F.plainAttrs_list PySem.F.slot_list_pop PySem.F.type_list_pop (MtR.or mt_pop mt_popAt) hN hv hd1 hcd hbase hline
theorem ex_remove {am : AM} (hN : X.N[i]? = some x) (hv : Vis X.env.scope x) (ha : EvAX X U [e] am) (hd1 : (x == ("__debug__" : Str)) = false := by decide) (hcd : (x == ("__classdict__" : Str)) = false := by decide)
    (hbase : attributeBase (.Name x p) "remove" X.env (eval (.Name x p) X.env) = eval (.Name x p) X.env := by rfl)
    (hfew : ((backTo pos (starEach [e] X.env)).all (fun x => !x.1) && (backToKw pos (keywordEach [] X.env)).all (fun x => x.1.isSome)
      && decide ([e].length + ([] : List Keyword).length + (if ([] : List Keyword).isEmpty then 0 else 1) < 30)) = true := by rfl)
    (hline : (apos.endLine == pos.line) = true := by rfl) (hs : starEach [e] X.env = (false, eval e X.env) :: starEach [] X.env := by rfl) (hplain : (backTo pos (starEach [] X.env)).any (·.1) = false := by rfl) :
    EvX X U (.Call (.Attribute (.Name x p) "remove" apos) [e] [] pos) (eMut i lRemove am) :=
  ex_mut md_remove PySem.F.plainAttrs_list PySem.F.slot_list_remove PySem.F.type_list_remove mt_remove hN hv ha hd1 hcd hbase hfew hline hs hplain
theorem ex_insert {am : AM} (hN : X.N[i]? = some x) (hv : Vis X.env.scope x) (ha : EvAX X U [e, b] am) (hd1 : (x == ("__debug__" : Str)) = false := by decide) (hcd : (x == ("__classdict__" : Str)) = false := by decide)
    (hbase : attributeBase (.Name x p) "insert" X.env (eval (.Name x p) X.env) = eval (.Name x p) X.env := by rfl)
    (hfew : ((backTo pos (starEach [e, b] X.env)).all (fun x => !x.1) && (backToKw pos (keywordEach [] X.env)).all (fun x => x.1.isSome)
      && decide ([e, b].length + ([] : List Keyword).length + (if ([] : List Keyword).isEmpty then 0 else 1) < 30)) = true := by rfl)
    (hline : (apos.endLine == pos.line) = true := by rfl) (hs : starEach [e, b] X.env = (false, eval e X.env) :: starEach [b] X.env := by rfl) (hplain : (backTo pos (starEach [b] X.env)).any (·.1) = false := by rfl) :
    EvX X U (.Call (.Attribute (.Name x p) "insert" apos) [e, b] [] pos) (eMut i lInsert am) :=
  ex_mut md_insert PySem.F.plainAttrs_list PySem.F.slot_list_insert PySem.F.type_list_insert mt_insert hN hv ha hd1 hcd hbase hfew hline hs hplain
theorem ev_appendC {mo : EM} {am : AM} (ho : EvE .e X U a mo) (ha : EvA .e X U [e] am)
    (hbase : attributeBase a "append" X.env (eval a X.env) = eval a X.env := by rfl)
    (hfew : ((backTo pos (starEach [e] X.env)).all (fun x => !x.1) && (backToKw pos (keywordEach [] X.env)).all (fun x => x.1.isSome)
      && decide ([e].length + ([] : List Keyword).length + (if ([] : List Keyword).isEmpty then 0 else 1) < 30)) = true := by rfl)
    (hline : (apos.endLine == pos.line) = true := by rfl) (hs : starEach [e] X.env = (false, eval e X.env) :: starEach [] X.env := by rfl) (hplain : (backTo pos (starEach [] X.env)).any (·.1) = false := by rfl) :
    EvE .e X U (.Call (.Attribute a "append" apos) [e] [] pos) (eMutC mo lAppend am) :=
  ev_mutC md_append PySem.F.plainAttrs_list PySem.F.slot_list_append PySem.F.type_list_append mt_append ho ha hbase hfew hline hs hplain
theorem ev_popC {mo : EM} (ho : EvE .e X U a mo) (hbase : attributeBase a "pop" X.env (eval a X.env) = eval a X.env := by rfl) (hline : (apos.endLine == pos.line) = true := by rfl) :
    EvE .e X U (.Call (.Attribute a "pop" apos) [] [] pos) (eMutC mo lPop aNil) :=
  ev_mutC0 md_pop PySem.F.plainAttrs_list PySem.F.slot_list_pop PySem.F.type_list_pop (MtR.or mt_pop mt_popAt) ho hbase hline

/-! ### o[i] = v -/
def dPut (ks : List Ky) (ds : List D) (k : Ky) (x : D) : List Ky × List D :=
  if (ks.any fun q => decide (q = k)) = true then (ks, List.zipWith (fun q d => if q = k then x else d) ks ds) else (ks ++ [k], ds ++ [x])
def setD : D → D → D → Option D
  | .lst ds, .int k, d => (ixN ds.length k).map fun j => .lst (ds.set j d)
  | .dct t ks ds, q, d => (kyOf q).bind fun k => if k.kind = t ∧ ks.length < sizeLine then let r := dPut ks ds k d; some (.dct t r.1 r.2) else none
  | _, _, _ => none
def sSetIx (i : Nat) (mi mv : EM) : SM := fun s => (mv s).bindS fun dv s1 => match s1.sl[i]? with
  | some (some (.val true _)) => (mi s1).bindS fun di s2 => match s2.sl[i]? with
    | some (some (.val true d)) => match setD d (deref s2.cs di) dv with
      | some d' => .nx (setS s2 i (.val true d'))
      | none => .stuck
    | _ => .stuck
  | _ => .stuck
theorem putK_eq {κ : Type} [DecidableEq κ] (f : κ → Ky) (hf : ∀ a b, f a = f b → a = b) (kvs : List (κ × V)) (ds : List D) (k : κ) (x : D) (v : V) (P : D → V → Prop) (hp : P x v) (h : Paired P ds (kvs.map (·.2))) :
    (dPut (kvs.map fun p => f p.1) ds (f k) x).1 = (putK kvs k v).map (fun p => f p.1) ∧ Paired P (dPut (kvs.map fun p => f p.1) ds (f k) x).2 ((putK kvs k v).map (·.2)) := by
  have ea : ((kvs.map fun p => f p.1).any fun q => decide (q = f k)) = kvs.any fun kv => decide (kv.1 = k) := by
    rw [List.any_map]
    congr 1
    funext p
    show decide (f p.1 = f k) = decide (p.1 = k)
    by_cases e : p.1 = k
    · rw [e]; simp
    · rw [decide_eq_false e, decide_eq_false (fun z => e (hf _ _ z))]
  unfold dPut putK
  rw [ea]
  split
  · refine ⟨?_, ?_⟩
    · rw [List.map_map]
      refine List.map_congr_left fun p _ => ?_
      show f p.1 = f (if p.1 = k then (p.1, v) else p).1
      split <;> rfl
    · rw [List.map_map]
      rename_i hany
      clear ea hany
      show Paired P (List.zipWith (fun q d => if q = f k then x else d) (kvs.map fun p => f p.1) ds) _
      induction kvs generalizing ds with
      | nil => cases h; exact .nil
      | cons p r ih =>
        cases h with
        | cons p1 t =>
          rw [List.map_cons, List.zipWith_cons_cons, List.map_cons]
          refine .cons ?_ (ih _ t)
          show P (if f p.1 = f k then x else _) (if p.1 = k then (p.1, v) else p).2
          by_cases e : p.1 = k
          · rw [if_pos (by rw [e]), if_pos e]; exact hp
          · rw [if_neg (fun z => e (hf _ _ z)), if_neg e]; exact p1
  · refine ⟨by rw [List.map_append]; rfl, ?_⟩
    show Paired P (ds ++ [x]) _
    rw [List.map_append]
    rename_i hany
    clear ea hany
    induction kvs generalizing ds with
    | nil => cases h; exact .cons hp .nil
    | cons p r ih =>
      cases h with
      | cons p1 t => exact .cons p1 (ih _ t)
theorem set_go {g : Kg} {W : Wd} {H : Hp} {i : Nat} {d di d' dv : D} {x y z : V} {a : Addr} (ex : x = .ref a) (hw : W a = .own i) (ow : OwnR g W H i d x) (ri : RpN g W H di y) (rv : Rp g W H dv z) (e : setD d di dv = some d') :
    ∃ o, OwnR g W (upd H a o) i d' x ∧ ∀ Q : Hp → Prop, Q (upd H a o) → (rSetL x y z H Q ∨ rSetD x y z H Q) := by
  have n1 : W a ≠ .fz := by rw [hw]; exact fun z => nomatch z
  unfold setD at e
  split at e
  · obtain ⟨j, e1, e2⟩ := Option.map_eq_some_iff.mp e
    subst e2
    obtain ⟨b, vs, e3, h1, h2, h3⟩ := ow
    have eb : a = b := by rw [ex] at e3; injection e3
    subst eb
    refine ⟨.lst (vs.set j z), ⟨a, _, ex, hw, upd_same, RpL.mono (kp_write n1) _ _ (RpL.set rv j h3)⟩, fun Q q => .inl ⟨a, vs, _, j, ex, ri, h2, by rw [← h3.length]; exact e1, q⟩⟩
  · obtain ⟨k, e1, e⟩ := Option.bind_eq_some_iff.mp e
    split at e
    · rename_i t ks ds _ _ hk
      have e := Option.some.inj e
      subst e
      obtain ⟨b, vs, e3, h1, h2, h3⟩ := ow
      have eb : a = b := by rw [ex] at e3; injection e3
      subst eb
      have ka := keyAt_of e1 ri
      rcases h2 with ⟨et, kvs, q, ek, ev⟩ | ⟨et, kvs, q, ek, ev⟩
      · subst ek ev
        cases ka with
        | t xs b hb => rw [et] at hk; cases hk.1
        | k kk =>
          obtain ⟨p1, p2⟩ := putK_eq Ky.k (fun a b z => by injection z) kvs _ kk dv z (Rp g W H) rv h3.paired
          refine ⟨.dK (putK kvs kk z), ⟨a, _, ex, hw, .inl ⟨et, _, upd_same, p1, rfl⟩, RpL.mono (kp_write n1) _ _ (RpL.of_paired p2)⟩, fun Q qq => .inr ⟨a, _, ex, .inl ⟨kvs, kk, q, rfl, by simpa using hk.2, rfl⟩, qq⟩⟩
      · subst ek ev
        cases ka with
        | k kk => rw [et] at hk; cases hk.1
        | t kk b hb =>
          obtain ⟨p1, p2⟩ := putK_eq Ky.t (fun a b z => by injection z) kvs _ kk dv z (Rp g W H) rv h3.paired
          refine ⟨.dT (putK kvs kk z), ⟨a, _, ex, hw, .inr ⟨et, _, upd_same, p1, rfl⟩, RpL.mono (kp_write n1) _ _ (RpL.of_paired p2)⟩, fun Q qq => .inr ⟨a, _, ex, .inr ⟨kvs, kk, b, q, rfl, hb, by simpa using hk.2, rfl⟩, qq⟩⟩
    · cases e
  · cases e
theorem PSet.or {X : Cx} {r r' : TSet} (h : PSet X r) (h' : PSet X r') : PSet X (fun o i v H Q => r o i v H Q ∨ r' o i v H Q) := by
  intro pins s σ H o i v ov iv u Q I r1 r2 r3 q
  rcases q with q | q
  · exact h pins s σ H o i v ov iv u Q I r1 r2 r3 q
  · exact h' pins s σ H o i v ov iv u Q I r1 r2 r3 q
theorem own_get {g : Kg} {s : S} {W : Wd} {σ : L2.St} {H : Hp} {i : Nat} {d : D} (sr : SRep g s W σ H) (e : s.sl[i]? = some (some (.val true d))) : ∃ a, σ[i]? = some (some (.ref a)) ∧ W a = .own i ∧ OwnR g W H i d (.ref a) := by
  have h := sr.slot i
  rw [e] at h
  obtain ⟨x, e1, ow⟩ := h
  obtain ⟨a, rfl, h1, _⟩ := own_ne ow
  exact ⟨a, e1, h1, ow⟩
theorem es_setIx {mi mv : EM} {tpos : Pos} (hu : X.A.units + 1 < cLine) (hN : X.N[i]? = some x) (hv : Vis X.env.scope x) (hi : EvE .b X U a mi) (he : EvX X U e mv) (hd1 : (x == ("__debug__" : Str)) = false := by decide) (hcd : (x == ("__classdict__" : Str)) = false := by decide)
    (ha : ∀ v, assign (.Subscript (.Name x p) a tpos) X.env v = (do
      let ov ← holding [v] (eval (.Name x p) X.env)
      let iv ← holding [v, ov] (eval a X.env)
      standAt tpos
      holding [v, ov, iv] (setItem ov iv v)
      release [v, ov, iv] []) := by intro _; rfl)
    (hs : swapsWithSole [.Subscript (.Name x p) a tpos] e pos.line X.env = pure false := by rfl) (hw : swappedStores [.Subscript (.Name x p) a tpos] e X.env = pure none := by rfl)
    (h1 : (assignEach [.Subscript (.Name x p) a tpos] X.env).map (·.2) = [assign (.Subscript (.Name x p) a tpos) X.env] := by rfl) :
    EvS X U (.Assign [.Subscript (.Name x p) a tpos] e pos) (sSetIx i mi mv) := by
  refine PS.imp (ps_asg he (pg_sub (pe_var hN hv hd1 hcd) hi (PSet.or set_list (set_dict hu)) ha) hs hw h1) fun E σ H ⟨s, W, sr, h⟩ => ⟨s, W, sr, (PostS.bindX h).mono fun v H1 ⟨dv, s1, W1, e1, st1, sr1, rp1, h1⟩ => ?_⟩
  split at h1
  · rename_i d0 e2
    obtain ⟨l, es, hw, ow⟩ := own_get sr1 e2
    refine ⟨.ref l, es, s1, W1, sr1, (PostS.bindE h1).mono fun y H2 ⟨di, s2, W2, e3, st2, sr2, rp2, h2⟩ => ?_⟩
    split at h2
    · rename_i d e4
      obtain ⟨l', es', hw', ow'⟩ := own_get sr2 e4
      rw [es] at es'
      cases es'
      cases eo : setD d (deref s2.cs di) dv with
      | none => rw [eo] at h2; exact h2.elim
      | some d' =>
        rw [eo] at h2
        obtain ⟨o, ow2, hq⟩ := set_go rfl hw' ow' (RpN.deref sr2.cells rp2) (Rp.mono st2.kp dv v rp1) eo
        have n1 : W2 l ≠ .fz := by rw [hw']; exact fun z => nomatch z
        have n2 : W2 l ≠ .prv := by rw [hw']; exact fun z => nomatch z
        exact hq _ (h2 W2 σ _ (steps_write n1 n2) (sr2.write hw' es ow2))
    · exact h2.elim
  · exact h1.elim
/-- .. of a list that is a cell -/
def sSetC (mo mi mv : EM) : SM := fun s => (mv s).bindS fun dv s1 => (mo s1).bindS fun d0 s2 => (mi s2).bindS fun di s3 => match d0 with
  | .cell k => match s3.cs[k]? with
    | some (.lst ds) => match di with
      | .int j => match ixN ds.length j with
        | some j => .nx (setC s3 k (.lst (ds.set j dv)))
        | none => .stuck
      | _ => .stuck
    | _ => .stuck
  | _ => .stuck
theorem es_setC {mo mi mv : EM} {tpos : Pos} (ho : EvE .e X U a mo) (hi : EvE .b X U b mi) (he : EvX X U e mv)
    (ha : ∀ v, assign (.Subscript a b tpos) X.env v = (do
      let ov ← holding [v] (eval a X.env)
      let iv ← holding [v, ov] (eval b X.env)
      standAt tpos
      holding [v, ov, iv] (setItem ov iv v)
      release [v, ov, iv] []) := by intro _; rfl)
    (hs : swapsWithSole [.Subscript a b tpos] e pos.line X.env = pure false := by rfl) (hw : swappedStores [.Subscript a b tpos] e X.env = pure none := by rfl)
    (h1 : (assignEach [.Subscript a b tpos] X.env).map (·.2) = [assign (.Subscript a b tpos) X.env] := by rfl) :
    EvS X U (.Assign [.Subscript a b tpos] e pos) (sSetC mo mi mv) := by
  refine PS.imp (ps_asg he (pg_sub ho hi set_list ha) hs hw h1) fun E σ H ⟨s, W, sr, h⟩ => ⟨s, W, sr, (PostS.bindX h).mono fun v H1 ⟨dv, s1, W1, e1, st1, sr1, rp1, h1⟩ => ⟨s1, W1, sr1, (PostS.bindE h1).mono fun x H2 ⟨d0, s2, W2, e2, st2, sr2, rp2, h2⟩ => ⟨s2, W2, sr2, (PostS.bindE h2).mono fun y H3 ⟨di, s3, W3, e3, st3, sr3, rp3, h3⟩ => ?_⟩⟩⟩
  cases d0 with
  | cell k =>
    dsimp only at h3
    split at h3
    · rename_i ds ec
      obtain ⟨l, vs, rfl, hw, hl, rl⟩ := cell_at sr3.cells (Rp.mono st3.kp (.cell k) _ rp2) ec
      cases di with
      | int j =>
        dsimp only at h3
        cases ej : ixN ds.length j with
        | none => rw [ej] at h3; exact h3.elim
        | some j' =>
          rw [ej] at h3
          cases rp3
          have n1 : W3 l ≠ .fz := by rw [hw]; exact fun z => nomatch z
          have n2 : W3 l ≠ .prv := by rw [hw]; exact fun z => nomatch z
          have rv : Rp (kg X) W3 H3 dv v := Rp.mono (st2.kp.trans st3.kp) dv v rp1
          exact ⟨l, vs, j, j', rfl, rfl, hl, by rw [← rl.length]; exact ej, h3 W3 σ _ (steps_write n1 n2) (sr3.writeC hw ⟨_, hl⟩ ⟨_, upd_same, RpL.mono (kp_write n1) _ _ (RpL.set rv j' rl)⟩)⟩
      | _ => exact h3.elim
    · exact h3.elim
  | _ => exact h3.elim

/-! ### dicts that are written -/
def eDict0 (t : Bool) : EM := fun s => .ok (.dct t [] []) s
theorem ev_dict0K : EvE .o X U (.Dict [] [] pos) (eDict0 false) := PE.imp pe_dnewK fun σ H Q ⟨s, W, sr, h⟩ => fun p hp => by
  have gr : GrowC W H (W.set p .prv) (upd H p (.dK [])) := grow_new hp (fun k z => nomatch z)
  exact h _ _ _ gr.gr.step (sr.grow gr) ⟨p, [], rfl, hp, Wd.set_same, .inl ⟨rfl, [], upd_same, rfl, rfl⟩, rfl⟩
theorem ev_dict0T : EvE .o X U (.Dict [] [] pos) (eDict0 true) := PE.imp pe_dnewT fun σ H Q ⟨s, W, sr, h⟩ => fun p hp => by
  have gr : GrowC W H (W.set p .prv) (upd H p (.dT [])) := grow_new hp (fun k z => nomatch z)
  exact h _ _ _ gr.gr.step (sr.grow gr) ⟨p, [], rfl, hp, Wd.set_same, .inr ⟨rfl, [], upd_same, rfl, rfl⟩, rfl⟩
end
end Mv
set_option Elab.async false
set_option linter.all false
set_option maxRecDepth 100000
set_option maxHeartbeats 2000000
/-! Mv7: loops, list comprehensions. -/
namespace Mv
open PySem PySem.Spec PyProof.Rows L2

/-- J gives the items ds, while what Rel keeps stands -/
def ItOf (g : Kg) (Rel : Wd → Hp → Wd → Hp → Prop) (W0 : Wd) (H0 : Hp) (ds : List D) (J : It) : Prop :=
  ∃ (G : Hp → Prop) (Y : Nat → Hp → V → Hp → Prop), Walk J ds.length G Y ∧ (∀ W H, Rel W0 H0 W H → G H) ∧
    ∀ i H W x H', i < ds.length → Rel W0 H0 W H → Y i H x H' → ∃ W' d, GrowC W H W' H' ∧ ds[i]? = some d ∧ Rp g W' H' d x
def relOf : Md → Wd → Hp → Wd → Hp → Prop
  | .e => Kp
  | _ => Step
inductive RI where
  | ok (ds : List D) (s : S)
  | exc (e : Exn) (s : S)
  | stuck
abbrev IM := S → RI
def PostI (M : Md) (g : Kg) (U : WX) (W : Wd) (H : Hp) (σ : L2.St) (r : RI) (R : It → Hp → Prop) : Prop := match r with
  | .ok ds s' => ∀ W' H' J, Step W H W' H' → SRep g s' W' σ H' → ItOf g (relOf M) W' H' ds J → R J H'
  | .exc e s' => ∀ cls dd W' H', Step W H W' H' → SRep g s' W' σ H' → ExnR g W' H' e cls dd → U cls dd σ H'
  | .stuck => False
def tI (M : Md) (g : Kg) (U : WX) (m : IM) : TI := fun σ H R => ∃ s W, SRep g s W σ H ∧ PostI M g U W H σ (m s) R
def EvI (M : Md) (X : Cx) (U : WX) (tg e : Expr) (m : IM) : Prop := PI X tg e (tI M (kg X) U m)
theorem PI.imp {X : Cx} {tg e : Expr} {t t' : TI} (h : PI X tg e t) (f : ∀ σ H R, t' σ H R → t σ H R) : PI X tg e t' := ⟨fun pins s σ H R I q => h.run pins s σ H R I (f σ H R q)⟩
theorem PI.or {X : Cx} {tg e : Expr} {t t' : TI} (h : PI X tg e t) (h' : PI X tg e t') : PI X tg e (fun σ H R => t σ H R ∨ t' σ H R) := ⟨fun pins s σ H R I q => q.elim (h.run pins s σ H R I) (h'.run pins s σ H R I)⟩
/-- one reading, two ways on -/
theorem pi_seq {X : Cx} {tg l : Expr} {tl : TE} (hl : PE X l tl) : PI X tg l (fun σ H R => tl σ H fun x H1 => ∃ a, x = .ref a ∧ (((∃ xs, SqL X.K H1 a xs) ∧ R (Itl X.K a) H1) ∨ ((∃ xs, SqT X.K H1 a xs) ∧ R (Itt X.K a) H1))) := by
  refine ⟨fun pins s σ H R I h => ?_⟩
  have hL : ∀ (a : Addr) (s1 : Shared) (H1 : Hp), Inv X pins σ H1 s1 → (∃ xs, SqL X.K H1 a xs) → R (Itl X.K a) H1 → wpAny (model X.prog X.w) X.A (pyIter (.ref a)) (PIE X pins σ tg R) X.xe s1 := fun a s1 H1 I1 hq q => by
    obtain ⟨xs, hq⟩ := hq
    obtain ⟨its, rv, p, hz⟩ := I1.list hq
    refine wpAny_pyIter_list p.isList ?_
    exact ⟨s1.heap.objs.size, [s1.heap.objs.size], _, _, H1, rfl, I1.kept (t' := s1.toks) fun b o e => Heap.get?_push_of_some _ e, turn_list a _, ⟨_, Heap.get?_push_size _ rfl, rfl, rfl⟩, fun b hb => by
      have e : b = s1.heap.objs.size := by simpa using hb
      subst e
      exact I1.fpOk (Nat.le_refl _) (I1.hok.fresh (Nat.le_refl _)), q⟩
  have hT : ∀ (a : Addr) (s1 : Shared) (H1 : Hp), Inv X pins σ H1 s1 → (∃ xs, SqT X.K H1 a xs) → R (Itt X.K a) H1 → wpAny (model X.prog X.w) X.A (pyIter (.ref a)) (PIE X pins σ tg R) X.xe s1 := fun a s1 H1 I1 hq q => by
    obtain ⟨xs, hq⟩ := hq
    obtain ⟨its, rv, p, hz⟩ := I1.tuple hq
    refine wpAny_pyIter_tuple (show s1.heap.IsTuple a its.toArray from p) ?_
    exact ⟨s1.heap.objs.size, [s1.heap.objs.size], _, _, H1, rfl, I1.kept (t' := s1.toks) fun b o e => Heap.get?_push_of_some _ e, turn_tuple a _, ⟨_, Heap.get?_push_size _ rfl, rfl, rfl⟩, fun b hb => by
      have e : b = s1.heap.objs.size := by simpa using hb
      subst e
      exact I1.fpOk (Nat.le_refl _) (I1.hok.fresh (Nat.le_refl _)), q⟩
  refine thn (hl.run pins s σ H _ I h) fun v s1 ⟨x, H1, I1, r1, a, e, q⟩ => ?_
  subst e
  cases r1
  rcases q with ⟨hq, q⟩ | ⟨hq, q⟩
  · exact hL a s1 H1 I1 hq q
  · exact hT a s1 H1 I1 hq q
section
variable {X : Cx} {U : WX} {a b c e tg : Expr} {ma mb mc m : EM} {pos : Pos}
theorem Kp.refl {W : Wd} {H : Hp} : Kp W H W H := StepS.refl.kp
theorem relOf.step {M : Md} {W W' : Wd} {H H' : Hp} (s : Step W H W' H') : relOf M W H W' H' := by
  cases M with
  | e => exact s.kp
  | b => exact s
  | o => exact s
/-- a list, a tuple -/
def seqD : D → Option (List D)
  | .lst ds => some ds
  | .tup ds => some ds
  | .ktp ds => some ds
  | _ => none
def iSeq (m : EM) : IM := fun s => match m s with
  | .ok d s1 => match seqD d with
    | some ds => .ok ds s1
    | none => .stuck
  | .exc e s1 => .exc e s1
  | .stuck => .stuck
theorem it_list {g : Kg} {Rel : Wd → Hp → Wd → Hp → Prop} {W : Wd} {H : Hp} {ds : List D} {vs : List V} {a : Addr} (keep : ∀ W' H', Rel W H W' H' → H' a = some (.lst vs)) (rl : ∀ W' H', Rel W H W' H' → RpL g W' H' ds vs) : ItOf g Rel W H ds (Itl g.K a) ∨ ds.length ≠ vs.length := by
  by_cases hl : ds.length = vs.length
  · refine .inl ⟨fun H => SqL g.K H a vs, YAt vs, by rw [hl]; exact walk_list, fun W' H' r => SqL.of (keep W' H' r), fun i H1 W1 x H2 hi r y => ?_⟩
    obtain ⟨e1, e2⟩ := y
    subst e1
    obtain ⟨d, ed⟩ : ∃ d, ds[i]? = some d := ⟨_, List.getElem?_eq_getElem hi⟩
    obtain ⟨v, ev, rv⟩ := (rl W1 _ r).get ed
    rw [e2] at ev
    cases ev
    exact ⟨W1, d, GrowC.refl, ed, rv⟩
  · exact .inr hl
theorem it_tup {g : Kg} {Rel : Wd → Hp → Wd → Hp → Prop} {W : Wd} {H : Hp} {ds : List D} {vs : List V} {a : Addr} (keep : ∀ W' H', Rel W H W' H' → SqT g.K H' a vs) (rl : ∀ W' H', Rel W H W' H' → RpL g W' H' ds vs) : ItOf g Rel W H ds (Itt g.K a) ∨ ds.length ≠ vs.length := by
  by_cases hl : ds.length = vs.length
  · refine .inl ⟨fun H => SqT g.K H a vs, YAt vs, by rw [hl]; exact walk_tup, fun W' H' r => keep W' H' r, fun i H1 W1 x H2 hi r y => ?_⟩
    obtain ⟨e1, e2⟩ := y
    subst e1
    obtain ⟨d, ed⟩ : ∃ d, ds[i]? = some d := ⟨_, List.getElem?_eq_getElem hi⟩
    obtain ⟨v, ev, rv⟩ := (rl W1 _ r).get ed
    rw [e2] at ev
    cases ev
    exact ⟨W1, d, GrowC.refl, ed, rv⟩
  · exact .inr hl
theorem seq_go {M : Md} {g : Kg} {W : Wd} {H : Hp} {d : D} {x : V} {ds : List D} {R : It → Hp → Prop} (hM : M = .e ∨ M = .b) (e : seqD d = some ds) (rp : Rm M g H W H d x) (h : ∀ J, ItOf g (relOf M) W H ds J → R J H) :
    ∃ a, x = .ref a ∧ (((∃ xs, SqL g.K H a xs) ∧ R (Itl g.K a) H) ∨ ((∃ xs, SqT g.K H a xs) ∧ R (Itt g.K a) H)) := by
  have kpOf : ∀ {W' H'}, relOf M W H W' H' → Kp W H W' H' := fun {W' H'} r => by
    cases M with
    | e => exact r
    | b => exact Step.kp r
    | o => rcases hM with z | z <;> cases z
  have tupRp : ∀ {ds}, Rm M g H W H (.tup ds) x → Rp g W H (.tup ds) x := fun r => by
    cases M with
    | e => exact r
    | b => exact r
    | o => rcases hM with z | z <;> cases z
  have ktpRp : ∀ {ds}, Rm M g H W H (.ktp ds) x → Rp g W H (.ktp ds) x := fun r => by
    cases M with
    | e => exact r
    | b => exact r
    | o => rcases hM with z | z <;> cases z
  cases d with
  | lst es =>
    simp only [seqD] at e
    have ee : es = ds := Option.some.inj e
    subst ee
    have : ∃ a vs, x = .ref a ∧ H a = some (.lst vs) ∧ (∀ W' H', relOf M W H W' H' → H' a = some (.lst vs)) ∧ RpL g W H es vs := by
      cases M with
      | e =>
        obtain ⟨a, vs, ex, h1, h2, h3⟩ := rp
        exact ⟨a, vs, ex, h2, fun W' H' r => ((r a _ h2).1 h1).2, h3⟩
      | b =>
        obtain ⟨a, vs, ex, nc, h2, h3⟩ := rp
        exact ⟨a, vs, ex, h2, fun W' H' r => (r a _ h2).1 nc, h3⟩
      | o => rcases hM with z | z <;> cases z
    obtain ⟨a, vs, ex, h2, hk, h3⟩ := this
    refine ⟨a, ex, .inl ⟨⟨vs, SqL.of h2⟩, h _ ?_⟩⟩
    exact (it_list hk fun W' H' r => RpL.mono (kpOf r) _ _ h3).resolve_right fun z => z h3.length
  | tup es =>
    simp only [seqD] at e
    cases e
    obtain ⟨a, vs, ex, h1, h2, h3⟩ := tupRp rp
    refine ⟨a, ex, .inr ⟨⟨vs, SqT.of h2⟩, h _ ?_⟩⟩
    exact (it_tup (fun W' H' r => SqT.of ((kpOf r a _ h2).1 h1).2) fun W' H' r => RpL.mono (kpOf r) _ _ h3).resolve_right fun z => z h3.length
  | ktp es =>
    simp only [seqD] at e
    cases e
    obtain ⟨a, vs, ex, h2, h3⟩ := ktpRp rp
    refine ⟨a, ex, .inr ⟨⟨vs, h2 H⟩, h _ ?_⟩⟩
    exact (it_tup (fun W' H' r => h2 H') fun W' H' r => RpL.mono (kpOf r) _ _ h3).resolve_right fun z => z h3.length
  | _ => simp only [seqD] at e; cases e
theorem ei_seq {M : Md} (hM : M = .e ∨ M = .b) (h : EvE M X U e m) : EvI M X U tg e (iSeq m) := by
  refine PI.imp (pi_seq h) fun σ H R ⟨s, W, sr, h⟩ => ⟨s, W, sr, ?_⟩
  unfold iSeq at h
  cases e1 : m s with
  | stuck => rw [e1] at h; exact h
  | exc e s1 => rw [e1] at h; exact h
  | ok d s1 =>
    rw [e1] at h
    dsimp only at h
    cases es : seqD d with
    | none => rw [es] at h; exact h.elim
    | some ds =>
      rw [es] at h
      intro v W1 H1 st1 sr1 rp1
      refine seq_go (W := W1) hM es ?_ fun J hJ => h W1 H1 J st1 sr1 hJ
      cases M with
      | e => exact rp1
      | b => exact rp1
      | o => rcases hM with z | z <;> cases z
/-- range -/
def rgF (lo : Int) (n : Nat) : List D := (List.range n).map fun (i : Nat) => D.int (lo + i)
theorem it_range {M : Md} {g : Kg} {W : Wd} {H : Hp} (lo : Int) (n : Nat) : ItOf g (relOf M) W H (rgF lo n) (Itr lo n) := by
  have hl : (rgF lo n).length = n := by simp [rgF]
  refine ⟨fun _ => True, YFn fun i => .int (lo + i), by rw [hl]; exact walk_range, fun _ _ _ => trivial, fun i H1 W1 x H2 hi r y => ?_⟩
  obtain ⟨e1, e2⟩ := y
  subst e1 e2
  rw [hl] at hi
  exact ⟨W1, .int (lo + i), GrowC.refl, by simp [rgF, hi], rfl⟩
def iRng1 (m : EM) : IM := fun s => match m s with
  | .ok (.int j) s1 => if -(2 ^ 62) ≤ j ∧ j < 2 ^ 62 then .ok (rgF 0 j.toNat) s1 else .stuck
  | .ok _ _ => .stuck
  | .exc e s1 => .exc e s1
  | .stuck => .stuck
theorem ei_rng1 {M : Md} {p : Pos} (hg : Gl X "range") (hm : X.mg "range" = none) (ha : EvE .b X U a m) (hs : starEach [a] X.env = [(false, eval a X.env)] := by rfl) : EvI M X U tg (.Call (.Name "range" p) [a] [] pos) (iRng1 m) := by
  refine PI.imp (pi_range1 hg hm (pa_cons ha pa_nil hs) hs) fun σ H R ⟨s, W, sr, h⟩ => ⟨s, W, sr, ?_⟩
  unfold iRng1 at h
  cases e1 : m s with
  | stuck => rw [e1] at h; exact h
  | exc e s1 => rw [e1] at h; exact h
  | ok d s1 =>
    rw [e1] at h
    cases d with
    | int j =>
      dsimp only at h
      split at h
      · rename_i hj
        intro v W1 H1 st1 sr1 rp1
        cases rp1
        exact ⟨j, rfl, hj.1, hj.2, h W1 H1 _ st1 sr1 (it_range 0 _)⟩
      · exact h.elim
    | _ => exact h.elim
def iRng2 (m1 m2 : EM) : IM := fun s => match m1 s with
  | .ok (.int i) s1 => match m2 s1 with
    | .ok (.int j) s2 => if -(2 ^ 62) ≤ i ∧ i < 2 ^ 62 ∧ -(2 ^ 62) ≤ j ∧ j < 2 ^ 62 then .ok (rgF i (j - i).toNat) s2 else .stuck
    | .ok _ _ => .stuck
    | .exc e s1 => .exc e s1
    | .stuck => .stuck
  | .ok _ _ => .stuck
  | .exc e s1 => .exc e s1
  | .stuck => .stuck
theorem ei_rng2 {M : Md} {p : Pos} {m1 m2 : EM} (hg : Gl X "range") (hm : X.mg "range" = none) (ha : EvE .b X U a m1) (hb : EvE .b X U b m2) (hs : starEach [a, b] X.env = [(false, eval a X.env), (false, eval b X.env)] := by rfl) (hs2 : starEach [b] X.env = [(false, eval b X.env)] := by rfl) : EvI M X U tg (.Call (.Name "range" p) [a, b] [] pos) (iRng2 m1 m2) := by
  refine PI.imp (pi_range2 hg hm (pa_cons ha (pa_cons hb pa_nil hs2) (by rw [hs, hs2])) hs hs2) fun σ H R ⟨s, W, sr, h⟩ => ⟨s, W, sr, ?_⟩
  unfold iRng2 at h
  cases e1 : m1 s with
  | stuck => rw [e1] at h; exact h
  | exc e s1 => rw [e1] at h; exact h
  | ok d s1 =>
    rw [e1] at h
    cases d with
    | int i =>
      dsimp only at h
      intro v W1 H1 st1 sr1 rp1
      cases rp1
      refine ⟨s1, W1, sr1, ?_⟩
      cases e2 : m2 s1 with
      | stuck => rw [e2] at h; exact h
      | exc e s2 => rw [e2] at h; exact fun cls dd W2 H2 st2 => h cls dd W2 H2 (st1.trans st2)
      | ok d2 s2 =>
        rw [e2] at h
        cases d2 with
        | int j =>
          dsimp only at h
          split at h
          · rename_i hj
            intro v W2 H2 st2 sr2 rp2
            cases rp2
            exact ⟨i, j, rfl, hj, h W2 H2 _ (st1.trans st2) sr2 (it_range i _)⟩
          · exact h.elim
        | _ => exact h.elim
    | _ => exact h.elim

/-! ### for -/
def wipeL (l : List (Option SV)) : List Nat → List (Option SV)
  | [] => l
  | i :: r => (wipeL l r).set i none
def wipeS (wp : List Nat) (s : S) : S := { s with sl := wipeL s.sl wp }
theorem wipeL_length (l : List (Option SV)) : ∀ wp, (wipeL l wp).length = l.length
  | [] => rfl
  | i :: r => by unfold wipeL; rw [List.length_set, wipeL_length l r]
theorem wipeL_get (l : List (Option SV)) (j : Nat) : ∀ wp, (wipeL l wp)[j]? = l[j]? ∨ (wipeL l wp)[j]? = some none
  | [] => .inl rfl
  | i :: r => by
    unfold wipeL
    by_cases e : i = j
    · subst e
      by_cases hl : i < (wipeL l r).length
      · exact .inr (by rw [List.getElem?_set_self hl])
      · left
        rw [List.getElem?_eq_none (by simp; omega), List.getElem?_eq_none (by rw [wipeL_length] at hl; omega)]
    · rw [List.getElem?_set_ne e]
      exact wipeL_get l j r
theorem SRep.wipe {g : Kg} {s : S} {W : Wd} {σ : L2.St} {H : Hp} (wp : List Nat) (sr : SRep g s W σ H) : SRep g (wipeS wp s) W σ H := by
  refine ⟨fun j => ?_, sr.cells, by show (wipeL s.sl wp).length = _; rw [wipeL_length]; exact sr.len⟩
  show SlotR _ _ _ _ _ ((wipeL s.sl wp)[j]?)
  rcases wipeL_get s.sl j wp with h | h
  · rw [h]; exact sr.slot j
  · rw [h]; trivial
def forL (t : TgM) (body : SM) (wp : List Nat) : List D → S → RS
  | [], s => .nx (wipeS wp s)
  | d :: ds, s => match t d (wipeS wp s) with
    | none => .stuck
    | some s1 => match body s1 with
      | .nx s2 => forL t body wp ds s2
      | .ct s2 => forL t body wp ds s2
      | .bk s2 => .nx (wipeS wp s2)
      | .rt d s2 => .rt d s2
      | .ex e s2 => .ex e s2
      | .stuck => .stuck
def sFor (mi : IM) (t : TgM) (body : SM) (wp : List Nat) : SM := fun s => match mi s with
  | .ok ds s1 => forL t body wp ds s1
  | .exc e s1 => .ex e s1
  | .stuck => .stuck
theorem drop_get {α : Type} {l : List α} {i : Nat} {d : α} (h : l[i]? = some d) : l.drop i = d :: l.drop (i + 1) := by
  obtain ⟨h1, h2⟩ := List.getElem?_eq_some_iff.mp h
  rw [List.drop_eq_getElem_cons h1, h2]
theorem for_go {g : Kg} {W1 : Wd} {H1 : Hp} {σ : L2.St} {ds : List D} {J : It} {s : S} {t : TgM} {js : List Nat} {body : SM} {wp : List Nat} {E : Ends} (hJ : ItOf g Kp W1 H1 ds J) (sr : SRep g s W1 σ H1) (h : PostS g U W1 H1 (forL t body wp ds s) E) :
    ∃ W : Nat → Nat → L2.St → Hp → Prop, (∃ m, W 0 m σ H1) ∧ ∀ i m σ H, W i m σ H →
      (J.stop i H ∧ E.nx σ H) ∨ (J.go i H ∧ ∃ N : L2.St → Hp → Prop, (∀ σ' H', N σ' H' → ∃ m', m' < m ∧ W (i + 1) m' σ' H') ∧ ∀ x H', J.yld i H x H' → tG g js t x σ H' fun σ2 H2 => tS g U body { E with nx := N, ct := N, bk := E.nx } σ2 H2) := by
  obtain ⟨G, Y, wk, hG, hY⟩ := hJ
  refine for_it wk (fun i σ H => ∃ s Wd, SRep g s Wd σ H ∧ StepS W1 H1 Wd H ∧ PostS g U Wd H (forL t body wp (ds.drop i) s) E) ⟨s, W1, sr, StepS.refl, by simpa using h⟩ (fun i σ H _ ⟨s, Wd, _, st, _⟩ => hG Wd H st.kp) (fun i x σ H H' hi ⟨s, Wd, sr, st, h⟩ y => ?_) (fun σ H ⟨s, Wd, sr, st, h⟩ => ?_)
  · obtain ⟨W', d, gr, ed, rp⟩ := hY i H Wd x H' hi st.kp y
    rw [drop_get ed] at h
    unfold forL at h
    have sr' := (sr.grow gr).wipe wp
    cases et : t d (wipeS wp s) with
    | none => rw [et] at h; exact h.elim
    | some s1 =>
      rw [et] at h
      dsimp only at h
      refine ⟨wipeS wp s, W', d, s1, sr', rp, et, fun σ2 sr2 _ => ⟨s1, W', sr2, ?_⟩⟩
      have st' : StepS Wd H W' H' := gr.gr.step.stmt
      cases eb : body s1 with
      | nx s2 => rw [eb] at h; exact fun W3 σ3 H3 st3 sr3 => ⟨s2, W3, sr3, st.trans (st'.trans st3), PostS.step (st'.trans st3) h⟩
      | ct s2 => rw [eb] at h; exact fun W3 σ3 H3 st3 sr3 => ⟨s2, W3, sr3, st.trans (st'.trans st3), PostS.step (st'.trans st3) h⟩
      | bk s2 => rw [eb] at h; exact fun W3 σ3 H3 st3 sr3 => h W3 σ3 H3 (st'.trans st3) (sr3.wipe wp)
      | rt d s2 => rw [eb] at h; exact fun v W3 σ3 H3 st3 => h v W3 σ3 H3 (st'.trans st3)
      | ex e s2 => rw [eb] at h; exact fun cls dd W3 σ3 H3 st3 => h cls dd W3 σ3 H3 (st'.trans st3)
      | stuck => rw [eb] at h; exact h.elim
  · rw [List.drop_length] at h
    exact h Wd σ H StepS.refl (sr.wipe wp)
theorem es_for {sts : List Stmt} {mi : IM} {t : TgM} {js : List Nat} {body : SM} (wp : List Nat) (hp : PassesOwn (model X.prog X.w) X.A X.env X.xe) (hc : X.calm = true) (hi : EvI .e X U tg e mi) (hg : EvG X tg js t) (hb : EvSs X U sts body) (hs : ∀ x, foldedSetIterable e X.env x = pure x := by intro _; rfl) :
    EvS X U (.For tg e sts [] pos) (sFor mi t body wp) := by
  refine PS.imp (ps_for hp hc hi hg hb hs) fun E σ H ⟨s, W, sr, h⟩ => ⟨s, W, sr, ?_⟩
  unfold sFor at h
  cases e1 : mi s with
  | stuck => rw [e1] at h; exact h
  | exc e s1 => rw [e1] at h; exact fun cls dd W' H' st => h cls dd W' σ H' st.stmt
  | ok ds s1 =>
    rw [e1] at h
    exact fun W1 H1 J st1 sr1 hJ => for_go hJ sr1 (PostS.step st1.stmt h)

/-! ### while -/
def whileL (mc : EM) (body : SM) (wp : List Nat) : Nat → S → RS
  | 0, _ => .stuck
  | n + 1, s => (mc (wipeS wp s)).bindS fun d s1 => match d with
    | .bl true => (match body s1 with
      | .nx s2 => whileL mc body wp n s2
      | .ct s2 => whileL mc body wp n s2
      | .bk s2 => .nx (wipeS wp s2)
      | .rt d s2 => .rt d s2
      | .ex e s2 => .ex e s2
      | .stuck => .stuck)
    | .bl false => .nx s1
    | _ => .stuck
theorem es_while {sts : List Stmt} {body : SM} (wp : List Nat) (n : Nat) (hp : PassesOwn (model X.prog X.w) X.A X.env X.xe) (hc : EvT X U c mc) (hb : EvSs X U sts body) : EvS X U (.While c sts [] pos) (whileL mc body wp n) := by
  refine PS.imp (ps_while hp hc hb) fun E σ H ⟨s, W, sr, h⟩ => ?_
  refine ⟨fun m σ H => ∃ s W, SRep (kg X) s W σ H ∧ PostS (kg X) U W H (whileL mc body wp m s) E, ⟨n, s, W, sr, h⟩, ?_⟩
  rintro m σ H ⟨s, W, sr, h⟩
  cases m with
  | zero => exact h.elim
  | succ m =>
    refine ⟨wipeS wp s, W, sr.wipe wp, ?_⟩
    unfold whileL at h
    cases e1 : mc (wipeS wp s) with
    | stuck => rw [e1] at h; exact h
    | exc e s1 => rw [e1] at h; exact fun cls dd W' H' st => h cls dd W' σ H' st.stmt
    | ok d s1 =>
      rw [e1] at h
      dsimp only [RE.bindS] at h
      cases d with
      | bl b =>
        cases b with
        | false =>
          intro W1 H1 st1 sr1
          rw [if_neg Bool.false_ne_true]
          exact h W1 σ H1 st1.stmt sr1
        | true =>
          intro W1 H1 st1 sr1
          rw [if_pos rfl]
          refine ⟨fun σ H => ∃ s W, SRep (kg X) s W σ H ∧ PostS (kg X) U W H (whileL mc body wp m s) E, fun σ' H' q => ⟨m, Nat.lt_succ_self m, q⟩, s1, W1, sr1, ?_⟩
          dsimp only at h
          cases eb : body s1 with
          | nx s2 => rw [eb] at h; exact fun W3 σ3 H3 st3 sr3 => ⟨s2, W3, sr3, PostS.step (st1.stmt.trans st3) h⟩
          | ct s2 => rw [eb] at h; exact fun W3 σ3 H3 st3 sr3 => ⟨s2, W3, sr3, PostS.step (st1.stmt.trans st3) h⟩
          | bk s2 => rw [eb] at h; exact fun W3 σ3 H3 st3 sr3 => h W3 σ3 H3 (st1.stmt.trans st3) (sr3.wipe wp)
          | rt d s2 => rw [eb] at h; exact fun v W3 σ3 H3 st3 => h v W3 σ3 H3 (st1.stmt.trans st3)
          | ex e s2 => rw [eb] at h; exact fun cls dd W3 σ3 H3 st3 => h cls dd W3 σ3 H3 (st1.stmt.trans st3)
          | stuck => rw [eb] at h; exact h.elim
      | _ => exact h.elim
end
end Mv
set_option Elab.async false
set_option linter.all false
set_option maxRecDepth 100000
set_option maxHeartbeats 2000000
/-! Mv8: comprehensions. -/
namespace Mv
open PySem PySem.Spec PyProof.Rows L2

theorem wipe_get (σ : L2.St) (j : Nat) : ∀ vs : List Nat, (wipe σ vs)[j]? = if j ∈ vs then σ[j]?.map (fun _ => none) else σ[j]?
  | [] => by simp [wipe]
  | v :: vs => by
    unfold wipe
    by_cases e : v = j
    · subst e
      rw [if_pos (by simp)]
      by_cases hl : v < σ.length
      · rw [List.getElem?_set_self (by rw [wipe_length]; exact hl), List.getElem?_eq_getElem hl]; rfl
      · rw [List.getElem?_eq_none (by rw [List.length_set, wipe_length]; omega), List.getElem?_eq_none (by omega)]; rfl
    · rw [List.getElem?_set_ne e, wipe_get σ j vs]
      have : (j ∈ v :: vs) ↔ j ∈ vs := by simp [Ne.symm e]
      simp only [this]
theorem wipe_same {σ σ2 : L2.St} {js vs : List Nat} (sb : SameBut js (wipe σ vs) σ2) (hj : ∀ j ∈ js, j ∈ vs) : wipe σ2 vs = wipe σ vs := by
  have hlen : σ2.length = σ.length := sb.1.trans (wipe_length σ vs)
  refine List.ext_getElem? fun j => ?_
  rw [wipe_get, wipe_get]
  by_cases hm : j ∈ vs
  · rw [if_pos hm, if_pos hm]
    by_cases hl : j < σ.length
    · rw [List.getElem?_eq_getElem hl, List.getElem?_eq_getElem (by omega)]; rfl
    · rw [List.getElem?_eq_none (by omega), List.getElem?_eq_none (by omega)]
  · rw [if_neg hm, if_neg hm, sb.2 j (fun z => hm (hj j z)), wipe_get, if_neg hm]
theorem wipeL_at {l : List (Option SV)} {wp : List Nat} {j : Nat} (h : j ∈ wp) : (wipeL l wp)[j]? = none ∨ (wipeL l wp)[j]? = some none := by
  induction wp with
  | nil => simp at h
  | cons i r ih =>
    unfold wipeL
    by_cases e : i = j
    · subst e
      by_cases hl : i < (wipeL l r).length
      · exact .inr (by rw [List.getElem?_set_self hl])
      · exact .inl (by rw [List.getElem?_eq_none (by simp; omega)])
    · rw [List.getElem?_set_ne e]
      rcases List.mem_cons.mp h with z | z
      · exact (e z.symm).elim
      · exact ih z
theorem SlotR.congr {g : Kg} {W : Wd} {H : Hp} {i : Nat} {v v' : Option (Option V)} {o : Option (Option SV)} (hv : ∀ x, v = some (some x) → v' = some (some x)) (h : SlotR g W H i v o) : SlotR g W H i v' o := by
  cases o with
  | none => trivial
  | some o =>
    cases o with
    | none => trivial
    | some o =>
      cases o with
      | exn e => trivial
      | val b d =>
        cases b with
        | false =>
          obtain ⟨x, e, h⟩ := h
          exact ⟨x, hv x e, h⟩
        | true =>
          obtain ⟨x, e, h⟩ := h
          exact ⟨x, hv x e, h⟩
/-- both wiped -/
theorem SRep.wipe2 {g : Kg} {s : S} {W : Wd} {σ : L2.St} {H : Hp} (wp : List Nat) (sr : SRep g s W σ H) : SRep g (wipeS wp s) W (L2.wipe σ wp) H := by
  refine ⟨fun j => ?_, sr.cells, by show (wipeL s.sl wp).length = _; rw [wipeL_length, L2.wipe_length]; exact sr.len⟩
  show SlotR _ _ _ _ _ ((wipeL s.sl wp)[j]?)
  by_cases hm : j ∈ wp
  · rcases wipeL_at (l := s.sl) hm with h | h
    · rw [h]; trivial
    · rw [h]; trivial
  · refine SlotR.congr (v := σ[j]?) (fun x e => by rw [wipe_get, if_neg hm]; exact e) ?_
    rcases wipeL_get s.sl j wp with h | h
    · rw [h]; exact sr.slot j
    · rw [h]; trivial
theorem SRep.unwipe {g : Kg} {s : S} {W : Wd} {σ : L2.St} {H : Hp} {wp : List Nat} (sr : SRep g s W (L2.wipe σ wp) H) : SRep g s W σ H :=
  ⟨fun j => SlotR.congr (fun x e => (wipe_some e).1) (sr.slot j), sr.cells, sr.len.trans (L2.wipe_length σ wp)⟩
/-- what is nobody's is written -/
theorem SRep.writePrv {g : Kg} {s : S} {W : Wd} {σ : L2.St} {H : Hp} {a : Addr} {o : HO} (hw : W a = .prv) (sr : SRep g s W σ H) : SRep g s W σ (upd H a o) :=
  ⟨fun j => SlotR.other (by rw [hw]; exact fun z => nomatch z) (by rw [hw]; exact fun z => nomatch z) (sr.slot j), sr.cells.writeOwn (by rw [hw]; exact fun z => nomatch z) (by rw [hw]; exact fun k z => nomatch z), sr.len⟩
theorem Step.updNew {W W' : Wd} {H H' : Hp} {a : Addr} {o : HO} (st : Step W H W' H') (h0 : H a = Option.none) : Step W H W' (upd H' a o) := fun b u e => by
  have ne : b ≠ a := fun z => by rw [z, h0] at e; cases e
  obtain ⟨h1, ⟨o', h2⟩, h3⟩ := st b u e
  exact ⟨fun nc => (upd_ne ne).trans (h1 nc), ⟨o', (upd_ne ne).trans h2⟩, h3⟩

section
variable {X : Cx} {U : WX} {a b c e tg : Expr} {ma mb mc m : EM} {pos : Pos}
abbrev UF : WX := fun _ _ _ _ => False
def lcL (t : TgM) (mt me : EM) (wp : List Nat) : List D → List D → S → RE
  | [], acc, s => .ok (.lst acc) (wipeS wp s)
  | d :: ds, acc, s => match t d (wipeS wp s) with
    | none => .stuck
    | some s1 => match mt s1 with
      | .ok (.bl true) s2 => (match me s2 with
        | .ok x s3 => if acc.length < sizeLine then lcL t mt me wp ds (acc ++ [x]) s3 else .stuck
        | _ => .stuck)
      | .ok (.bl false) s2 => lcL t mt me wp ds acc s2
      | _ => .stuck
def eLc (mi : IM) (t : TgM) (mt me : EM) (wp : List Nat) : EM := fun s => match mi s with
  | .ok ds s1 => lcL t mt me wp ds [] s1
  | .exc e s1 => .exc e s1
  | .stuck => .stuck
theorem lc_turn {g : Kg} {U : WX} {W1 : Wd} {H1 : Hp} {σ : L2.St} {ds : List D} {J : It} {s1 : S} {t : TgM} {js wp : List Nat} {mt me : EM} {Q : VK} {D : Addr} (hD : H1 D = none) (hj : ∀ j ∈ js, j ∈ wp) (hJ : ItOf g Step W1 H1 ds J) (sr : SRep g s1 W1 σ H1) (h : PostE .o g U W1 H1 σ (lcL t mt me wp ds [] s1) Q) :
    ∃ W : Nat → Nat → Hp → Prop, (∃ m, W 0 m (upd H1 D (.lst []))) ∧ ∀ i m H, W i m H →
      (J.stop i H ∧ Q (.ref D) H) ∨ (J.go i H ∧ ∃ Nx : Hp → Prop, (∀ H', Nx H' → ∃ m', m' < m ∧ W (i + 1) m' H') ∧ ∀ x H', J.yld i H x H' → tG g js t x (L2.wipe σ wp) H' fun σ2 H2 => L2.wipe σ2 wp = L2.wipe σ wp ∧ tT g UF mt σ2 H2 fun b H3 =>
        if b = true then tE .e g UF me σ2 H3 fun y H4 => ∃ acc, H4 D = some (.lst acc) ∧ acc.length < sizeLine ∧ Nx (upd H4 D (.lst (acc ++ [y]))) else Nx H3) := by
  obtain ⟨G, Y, wk, hG, hY⟩ := hJ
  have gr0 : GrowC W1 H1 (W1.set D .prv) (upd H1 D (.lst [])) := grow_new hD (fun k z => nomatch z)
  refine lc_it wk (Qd := Q (.ref D)) (fun i H => ∃ s Wd acc vs, SRep g (wipeS wp s) Wd (L2.wipe σ wp) H ∧ Step W1 H1 Wd H ∧ H D = some (.lst vs) ∧ Wd D = .prv ∧ RpL g Wd H acc vs ∧ PostE .o g U W1 H1 σ (lcL t mt me wp (ds.drop i) acc s) Q)
    ⟨s1, _, [], [], (sr.grow gr0).wipe2 wp, gr0.gr.step, upd_same, Wd.set_same, rfl, by simpa using h⟩ (fun i H _ ⟨s, Wd, acc, vs, _, st, _⟩ => hG Wd H st) (fun i x H H' hi ⟨s, Wd, acc, vs, sr, st, hv, hw, rl, h⟩ y => ?_) (fun H ⟨s, Wd, acc, vs, sr, st, hv, hw, rl, h⟩ => ?_)
  · obtain ⟨W', d, gr, ed, rp⟩ := hY i H Wd x H' hi st y
    rw [drop_get ed] at h
    unfold lcL at h
    cases et : t d (wipeS wp s) with
    | none => rw [et] at h; exact h.elim
    | some s2 =>
      rw [et] at h
      dsimp only at h
      refine ⟨wipeS wp s, W', d, s2, sr.grow gr, rp, et, fun σ2 sr2 sb => ?_⟩
      have ew := wipe_same sb hj
      refine ⟨ew, s2, W', sr2, ?_⟩
      have stA : Step W1 H1 W' H' := st.trans gr.gr.step
      have hvA := (gr.gr D _ hv).2
      have hwA := (gr.gr D _ hv).1.trans hw
      have rlA : RpL g W' H' acc vs := RpL.mono gr.gr.kp _ _ rl
      cases em : mt s2 with
      | stuck => rw [em] at h; exact h.elim
      | exc e s3 => rw [em] at h; exact h.elim
      | ok q s3 =>
        rw [em] at h
        cases q with
        | bl b =>
          cases b with
          | false =>
            intro W2 H2 st2 sr3
            rw [if_neg Bool.false_ne_true]
            obtain ⟨p1, p2⟩ := st2.stmt.pv D _ hvA hwA
            have := sr3.wipe2 wp
            rw [ew] at this
            exact ⟨s3, W2, acc, vs, this, stA.trans st2, p2, p1, RpL.mono st2.kp _ _ rlA, h⟩
          | true =>
            intro W2 H2 st2 sr3
            rw [if_pos rfl]
            refine ⟨s3, W2, sr3, ?_⟩
            dsimp only at h
            cases ex : me s3 with
            | stuck => rw [ex] at h; exact h.elim
            | exc e s4 => rw [ex] at h; exact h.elim
            | ok z s4 =>
              rw [ex] at h
              dsimp only at h
              intro v W3 H3 st3 sr4 rz
              have stC := st2.trans st3
              obtain ⟨p1, p2⟩ := stC.stmt.pv D _ hvA hwA
              have rlC : RpL g W3 H3 acc vs := RpL.mono stC.kp _ _ rlA
              split at h
              · rename_i hl
                refine ⟨vs, p2, by rw [← rlC.length]; exact hl, ?_⟩
                have kp := kp_write (H := H3) (o := .lst (vs ++ [v])) (show W3 D ≠ .fz by rw [p1]; exact fun z => nomatch z)
                have sr5 := (sr4.writePrv (o := .lst (vs ++ [v])) p1).wipe2 wp
                rw [ew] at sr5
                exact ⟨s4, W3, acc ++ [z], vs ++ [v], sr5, (stA.trans stC).updNew hD, upd_same, p1, RpL.mono kp _ _ (rlC.append ⟨v, [], rfl, rz, rfl⟩), h⟩
              · exact h.elim
        | _ => exact h.elim
  · rw [List.drop_length] at h
    exact h (.ref D) Wd H st sr.unwipe ⟨D, vs, rfl, hD, hw, hv, rl⟩
theorem lc_go {g : Kg} {U : WX} {σ : L2.St} {H : Hp} {Q : VK} {mi : IM} {t : TgM} {js wp : List Nat} {mt me : EM} (hj : ∀ j ∈ js, j ∈ wp) (h : tE .o g U (eLc mi t mt me wp) σ H Q) :
    tLc (tI .b g U mi) (tG g js t) (tT g UF mt) (tE .e g UF me) wp σ H Q := by
  obtain ⟨s, W, sr, h⟩ := h
  refine ⟨s, W, sr, ?_⟩
  unfold eLc at h
  cases e1 : mi s with
  | stuck => rw [e1] at h; exact h
  | exc e s1 => rw [e1] at h; exact h
  | ok ds s1 =>
    rw [e1] at h
    exact fun W1 H1 J st1 sr1 hJ D hD => lc_turn hD hj hJ sr1 (PostE.step st1 h)
/-- the context of a comprehension's block -/
def BlkAll (X : Cx) (scope : Scope) (P : Cx → Prop) : Prop := ∀ (s : Shared) (H : Hp) (C : Addr) (cl : List (Str × Addr)) (fp : List Addr), P (X.blk s H scope (compEnvC scope cl C X.env) fp)
def EvTs (X : Cx) (U : WX) (es : List Expr) (m : EM) : Prop := PTs X es (tT (kg X) U m)
def eYes : EM := fun s => .ok (.bl true) s
theorem ets_nil : EvTs X U [] eYes := ⟨fun pins s σ H Q I ⟨s', W, sr, h⟩ => pts_nil.run pins s σ H Q I (h W H Step.refl sr)⟩
theorem ets_one (h : EvT X U c mc) : EvTs X U [c] mc := pts_one h
section
variable {elt iter : Expr} {ifs : List Expr} {scope : Scope} {own : List (Str × Nat)} {mi : IM} {t : TgM} {js : List Nat} {mt me : EM}
theorem ev_lc (hc : X.calm = true) (hN : X.N.Nodup) (hi : EvI .b X U tg iter mi) (ok : BlkOk X.N X.env.scope scope own) (hg : BlkAll X scope fun Y => EvG Y tg js t) (ht : BlkAll X scope fun Y => EvTs Y UF ifs mt) (he : BlkAll X scope fun Y => EvE .e Y UF elt me)
    (hj : ∀ j ∈ js, j ∈ own.map (·.2) := by decide) (hs : ∀ x, foldedSetIterable iter X.env x = pure x := by intro _; rfl) :
    EvE .o X U (.ListComp elt [⟨tg, iter, ifs, 0⟩] scope pos) (eLc mi t mt me (own.map (·.2))) :=
  PE.imp (pe_lc (g := tG (kg X) js t) (tt := tT (kg X) UF mt) (te := tE .e (kg X) UF me) hc hN hi ok (fun s H C cl fp => hg s H C cl fp) (fun s H C cl fp => ht s H C cl fp) (fun s H C cl fp => he s H C cl fp) hs) fun _ _ _ h => lc_go hj h
/-- name = [..], stored within -/
theorem setO_to {g : Kg} {i : Nat} {m : EM} {E : Ends} {σ : L2.St} {H : Hp} (h : tS g U (sSetO i m) E σ H) : tE .o g U m σ H (fun x H1 => gName i x σ H1 E.nx) := by
  obtain ⟨s, W, sr, h⟩ := h
  refine ⟨s, W, sr, ?_⟩
  unfold sSetO at h
  cases e1 : m s with
  | ok d s1 =>
    rw [e1] at h
    intro v W1 H1 st1 sr1 rp1
    obtain ⟨a, rfl, h1, h0, ⟨o, ho⟩, ow⟩ := fresh_own i rp1
    exact h _ _ H1 (st1.stmt.give h0) (sr1.setOwn h1 ow)
  | exc e s1 => rw [e1] at h; exact fun cls dd W' H' st => h cls dd W' σ H' st.stmt
  | stuck => rw [e1] at h; exact h
theorem set_to {g : Kg} {i : Nat} {m : EM} {E : Ends} {σ : L2.St} {H : Hp} (h : tS g U (sSet i m) E σ H) : tE .e g U m σ H (fun x H1 => gName i x σ H1 E.nx) := by
  obtain ⟨s, W, sr, h⟩ := h
  refine ⟨s, W, sr, (PostS.bindE (N := .e) h).mono fun v H1 ⟨d, s1, W1, e1, st1, sr1, rp1, h1⟩ => ?_⟩
  exact h1 W1 _ H1 StepS.refl (sr1.set rp1)
theorem es_setLc {i : Nat} {y : Str} {py spos : Pos} (hc : X.calm = true) (hN : X.N.Nodup) (hy : X.N[i]? = some y) (hyl : X.env.scope.names.lookup y = some .local)
    (hsw : swapsWith (.ListComp elt [⟨tg, iter, ifs, 0⟩] scope pos) (some (.Name y py)) spos.line X.env = pure true) (hi : EvI .b X U tg iter mi) (ok : BlkOk X.N X.env.scope scope own) (hg : BlkAll X scope fun Y => EvG Y tg js t) (ht : BlkAll X scope fun Y => EvTs Y UF ifs mt) (he : BlkAll X scope fun Y => EvE .e Y UF elt me)
    (hj : ∀ j ∈ js, j ∈ own.map (·.2) := by decide) (hs : ∀ x, foldedSetIterable iter X.env x = pure x := by intro _; rfl) :
    EvS X U (.Assign [.Name y py] (.ListComp elt [⟨tg, iter, ifs, 0⟩] scope pos) spos) (sSet i (eLc mi t mt me (own.map (·.2)))) :=
  PS.imp (ps_setLc (g := tG (kg X) js t) (tt := tT (kg X) UF mt) (te := tE .e (kg X) UF me) hc hN hy hyl hsw hi ok (fun s H C cl fp => hg s H C cl fp) (fun s H C cl fp => ht s H C cl fp) (fun s H C cl fp => he s H C cl fp) hs) fun E σ H h => by
    obtain ⟨s, W, sr, h⟩ := set_to h
    exact lc_go hj ⟨s, W, sr, h.e_of_o⟩
theorem es_setLcO {i : Nat} {y : Str} {py spos : Pos} (hc : X.calm = true) (hN : X.N.Nodup) (hy : X.N[i]? = some y) (hyl : X.env.scope.names.lookup y = some .local)
    (hsw : swapsWith (.ListComp elt [⟨tg, iter, ifs, 0⟩] scope pos) (some (.Name y py)) spos.line X.env = pure true) (hi : EvI .b X U tg iter mi) (ok : BlkOk X.N X.env.scope scope own) (hg : BlkAll X scope fun Y => EvG Y tg js t) (ht : BlkAll X scope fun Y => EvTs Y UF ifs mt) (he : BlkAll X scope fun Y => EvE .e Y UF elt me)
    (hj : ∀ j ∈ js, j ∈ own.map (·.2) := by decide) (hs : ∀ x, foldedSetIterable iter X.env x = pure x := by intro _; rfl) :
    EvS X U (.Assign [.Name y py] (.ListComp elt [⟨tg, iter, ifs, 0⟩] scope pos) spos) (sSetO i (eLc mi t mt me (own.map (·.2)))) :=
  PS.imp (ps_setLc (g := tG (kg X) js t) (tt := tT (kg X) UF mt) (te := tE .e (kg X) UF me) hc hN hy hyl hsw hi ok (fun s H C cl fp => hg s H C cl fp) (fun s H C cl fp => ht s H C cl fp) (fun s H C cl fp => he s H C cl fp) hs) fun E σ H h => lc_go hj (setO_to h)
end
end
end Mv
set_option Elab.async false
set_option linter.all false
set_option maxRecDepth 100000
set_option maxHeartbeats 2000000
/-! Mv9: defs by what they compute, calls. -/
namespace Mv
open PySem PySem.Spec PyProof.Rows L2

inductive RF where
  | ret (d : D) (cs : List Cell)
  | exc (e : Exn) (cs : List Cell)
  | stuck
abbrev FF := List D → List Cell → RF
def PostF (g : Kg) (E : XK) (W : Wd) (H : Hp) (r : RF) (Q : VK) : Prop := match r with
  | .ret d cs => ∀ v W' H', StepS W H W' H' → CRep g cs W' H' → Rp g W' H' d v → Q v H'
  | .exc e cs => ∀ cls dd W' H', StepS W H W' H' → CRep g cs W' H' → ExnR g W' H' e cls dd → E cls dd H'
  | .stuck => False
/-- a def by its value -/
def spF (g : Kg) (n : Nat) (f : FF) : Sp := fun vs H Q E => ∃ ds cs W, vs.length = n ∧ RpL g W H ds vs ∧ CRep g cs W H ∧ (∀ a i, W a ≠ .own i) ∧ PostF g E W H (f ds cs) Q
def startS (N : Nat) (ds : List D) (cs : List Cell) : S := ⟨ds.map (fun d => some (.val false d)) ++ List.replicate (N - ds.length) none, cs⟩
def fnF (N : Nat) (m : SM) : FF := fun ds cs => match m (startS N ds cs) with
  | .nx s => .ret .non s.cs
  | .rt d s => .ret d s.cs
  | .ex e s => .exc e s.cs
  | _ => .stuck
theorem RpL.both {g : Kg} {W : Wd} {H : Hp} : ∀ {ds : List D} {vs : List V} (j : Nat), RpL g W H ds vs → (∃ d v, ds[j]? = some d ∧ vs[j]? = some v ∧ Rp g W H d v) ∨ (ds[j]? = none ∧ vs[j]? = none)
  | [], _, j, h => by cases h; exact .inr ⟨by simp, by simp⟩
  | d :: ds, _, 0, h => by
    obtain ⟨v, r, rfl, h1, h2⟩ := h
    exact .inl ⟨d, v, by simp, by simp, h1⟩
  | d :: ds, _, j + 1, h => by
    obtain ⟨v, r, rfl, h1, h2⟩ := h
    rcases RpL.both j h2 with ⟨d', v', e1, e2, e3⟩ | ⟨e1, e2⟩
    · exact .inl ⟨d', v', by simpa using e1, by simpa using e2, e3⟩
    · exact .inr ⟨by simpa using e1, by simpa using e2⟩
theorem SRep.start {g : Kg} {W : Wd} {H : Hp} {ds : List D} {cs : List Cell} {vs : List V} {N : List Str} (r : RpL g W H ds vs) (c : CRep g cs W H) (hn : vs.length ≤ N.length) : SRep g (startS N.length ds cs) W (L2.start N vs) H := by
  have hl := r.length
  refine ⟨fun j => ?_, c, ?_⟩
  · show SlotR g W H j _ ((ds.map (fun d => some (SV.val false d)) ++ List.replicate (N.length - ds.length) none)[j]?)
    unfold L2.start
    by_cases hj : j < ds.length
    · rw [List.getElem?_append_left (show j < (ds.map (fun d => some (SV.val false d))).length by rw [List.length_map]; omega), List.getElem?_append_left (show j < (vs.map some).length by rw [List.length_map]; omega), List.getElem?_map, List.getElem?_map]
      rcases r.both j with ⟨d, v, e1, e2, e3⟩ | ⟨e1, e2⟩
      · rw [e1, e2]
        exact ⟨v, rfl, e3⟩
      · rw [e1]
        trivial
    · have ez : (ds.map (fun d => some (SV.val false d)) ++ List.replicate (N.length - ds.length) none)[j]? = none ∨ (ds.map (fun d => some (SV.val false d)) ++ List.replicate (N.length - ds.length) none)[j]? = some none := by
        rw [List.getElem?_append_right (by simpa using hj), List.getElem?_replicate]
        split <;> simp
      rcases ez with ez | ez <;> rw [ez] <;> trivial
  · simp only [startS, L2.start, List.length_append, List.length_map, List.length_replicate]
    omega
theorem RpL.len {g : Kg} {W : Wd} {H : Hp} {ds : List D} {vs : List V} (h : RpL g W H ds vs) : ds.length = vs.length := h.length

section
variable {P : Program} {w : World} {K : PySem.W.Frag} {mg : Str → Option Value} {base : Heap} {x qual : Str} {params : Arguments} {body : List Stmt} {scope : Scope} {f : Addr} {fd : FuncData} {N ps : List Str} {k : Nat}
/-- the exceptions' wish of a def's body -/
abbrev UE (E : XK) : WX := fun cls d _ H => E cls d H
/-- a def's body in its context -/
def BodyOk (P : Program) (w : World) (K : PySem.W.Frag) (mg : Str → Option Value) (base : Heap) (k : Nat) (N : List Str) (scope : Scope) (body : List Stmt) (m : SM) : Prop :=
  ∀ (X : Cx) (U : WX), X.prog = P → X.w = w → X.K = K → X.mg = mg → X.base = base → X.N = N → X.env.scope = scope → X.env.globals = mainGlobals → X.calm = true → Room k X.A → Takes X U → PassesOwn (model X.prog X.w) X.A X.env X.xe → X.stack = X.env :: X.outer → X.env.frame = some X.env.locals → (∀ x, X.fn x = true) → EvSs X U body m
theorem fn_ok (F : FunD K x qual params body scope [] [] f fd) (S : FnScope N ps scope) {m : SM}
    (hb : ∀ (cdv : Value) (A : Around) (outer : List Env) (s : Shared) (H : Hp) (E : XK), Room k (A.deeper (envOfC qual scope s.heap.objs.size f cdv)) → EvSs (cxOf (L2.CX P w) P w K mg base N qual scope f cdv A outer s H E) (UE E) body m) :
    FnOk P w K mg base (L2.CX P w) (k + 1) f fd ps (spF ⟨K, mg⟩ ps.length (fnF N.length m)) := by
  refine F.ok S (fun vs H Q E ⟨ds, cs, W, h, _⟩ => h) fun cdv A outer s H vs Q E hr ⟨ds, cs, W, hl, rl, cr, no, hp⟩ => ⟨_, hb cdv A outer s H E hr, ?_⟩
  have hle : vs.length ≤ N.length := by
    have := congrArg List.length S.pre
    rw [List.length_take] at this
    omega
  refine ⟨startS N.length ds cs, W, SRep.start rl cr hle, ?_⟩
  unfold fnF at hp
  cases e : m (startS N.length ds cs) with
  | nx s => rw [e] at hp; exact fun W' σ' H' st sr => hp .non W' H' st sr.cells rfl
  | rt d s => rw [e] at hp; exact fun v W' σ' H' st sr rp => hp v W' H' st sr.cells rp
  | ex e s => rw [e] at hp; exact fun cls dd W' σ' H' st sr ex => hp cls dd W' H' st sr.cells ex
  | bk s => rw [e] at hp; exact hp.elim
  | ct s => rw [e] at hp; exact hp.elim
  | stuck => rw [e] at hp; exact hp.elim
end

/-! ### calls -/
def mask (t : Tag) : Tag := match t with
  | .own _ => .prv
  | t => t
/-- the callee's tags -/
def maskW (W : Wd) : Wd := fun a => mask (W a)
/-- behind the call -/
def backW (W : Wd) (H : Hp) (W' : Wd) : Wd := fun a => match H a with
  | none => mask (W' a)
  | some _ => W a
theorem mask_fz {t : Tag} (h : t = .fz) : mask t = .fz := by subst h; rfl
theorem mask_cell {t : Tag} {k : Nat} (h : t = .cell k) : mask t = .cell k := by subst h; rfl
theorem mask_inv {t : Tag} {k : Nat} (h : mask t = .cell k) : t = .cell k := by
  cases t <;> first | exact h | (cases h)
theorem mask_invf {t : Tag} (h : mask t = .fz) : t = .fz := by
  cases t <;> first | exact h | (cases h)
theorem mask_no {t : Tag} {i : Nat} : mask t ≠ .own i := by
  cases t <;> exact fun z => nomatch z
theorem kp_mask {W : Wd} {H : Hp} : Kp W H (maskW W) H := fun a o e => ⟨fun q => ⟨mask_fz q, e⟩, fun k q => ⟨mask_cell q, o, e⟩⟩
theorem CRep.mask {g : Kg} {cs : List Cell} {W : Wd} {H : Hp} (h : CRep g cs W H) : CRep g cs (maskW W) H :=
  ⟨fun k c e => let ⟨a, p1, p2⟩ := h.at_ k c e; ⟨a, mask_cell p1, p2.mono kp_mask fun _ q => q⟩, fun a b k o u ha hb wa wb => h.uniq a b k o u ha hb (mask_inv wa) (mask_inv wb), fun a k o ha wa => h.bnd a k o ha (mask_inv wa)⟩
section
variable {g : Kg} {W W' : Wd} {H H' : Hp} {cs cs' : List Cell}
theorem back_at {a : Addr} (st : StepS (maskW W) H W' H') (h : ∃ o, H a = some o) : backW W H W' a = W a := by
  obtain ⟨o, h⟩ := h
  unfold backW
  rw [h]
theorem back_new {a : Addr} (h : H a = none) : backW W H W' a = mask (W' a) := by
  unfold backW
  rw [h]
/-- every old thing's tag behind the callee -/
theorem mask_same (st : StepS (maskW W) H W' H') {a : Addr} {o : HO} (h : H a = some o) : W' a = maskW W a := by
  have h1 := st.kp a o h
  have h2 := st.pv a o h
  cases e : W a with
  | fz => exact ((h1.1 (mask_fz e)).1).trans (mask_fz e).symm
  | prv => exact ((h2 (by show mask (W a) = _; rw [e]; rfl)).1).trans (by show _ = mask (W a); rw [e]; rfl)
  | own i => exact ((h2 (by show mask (W a) = _; rw [e]; rfl)).1).trans (by show _ = mask (W a); rw [e]; rfl)
  | cell k => exact ((h1.2 k (mask_cell e)).1).trans (mask_cell e).symm
theorem kp_back (st : StepS (maskW W) H W' H') : Kp W' H' (backW W H W') H' := fun a o e => by
  cases h : H a with
  | none =>
    refine ⟨fun q => ⟨?_, e⟩, fun k q => ⟨?_, o, e⟩⟩
    · rw [back_new h]; exact mask_fz q
    · rw [back_new h]; exact mask_cell q
  | some u =>
    have q0 := mask_same st h
    have q1 : backW W H W' a = W a := back_at st ⟨u, h⟩
    refine ⟨fun q => ⟨?_, e⟩, fun k q => ⟨?_, o, e⟩⟩
    · rw [q1]; exact mask_invf (q0.symm.trans q)
    · rw [q1]; exact mask_inv (q0.symm.trans q)
theorem back_cell (st : StepS (maskW W) H W' H') {a : Addr} {k : Nat} (h : backW W H W' a = .cell k) : W' a = .cell k := by
  cases e : H a with
  | none =>
    rw [back_new e] at h
    exact mask_inv h
  | some u =>
    rw [back_at st ⟨u, e⟩] at h
    exact (mask_same st e).trans (mask_cell h)
theorem CRep.back (st : StepS (maskW W) H W' H') (h : CRep g cs W' H') : CRep g cs (backW W H W') H' := by
  refine ⟨fun k c e => ?_, fun a b k o u ha hb wa wb => h.uniq a b k o u ha hb (back_cell st wa) (back_cell st wb), fun a k o ha wa => h.bnd a k o ha (back_cell st wa)⟩
  obtain ⟨a, p1, p2⟩ := h.at_ k c e
  obtain ⟨o, ho⟩ := p2.there
  exact ⟨a, ((kp_back st a o ho).2 k p1).1, p2.mono (kp_back st) fun _ q => q⟩
theorem step_back (st : StepS (maskW W) H W' H') : Step W H (backW W H W') H' := fun a o e => by
  have h1 := st.kp a o e
  have h2 := st.pv a o e
  refine ⟨fun nc => ?_, ?_, .inl (back_at st ⟨o, e⟩)⟩
  · cases q : W a with
    | fz => exact (h1.1 (mask_fz q)).2
    | prv => exact (h2 (by show mask (W a) = _; rw [q]; rfl)).2
    | own i => exact (h2 (by show mask (W a) = _; rw [q]; rfl)).2
    | cell k => exact absurd q (nc k)
  · cases q : W a with
    | fz => exact ⟨o, (h1.1 (mask_fz q)).2⟩
    | prv => exact ⟨o, (h2 (by show mask (W a) = _; rw [q]; rfl)).2⟩
    | own i => exact ⟨o, (h2 (by show mask (W a) = _; rw [q]; rfl)).2⟩
    | cell k => exact (h1.2 k (mask_cell q)).2
theorem SlotR.step {i : Nat} {v : Option (Option V)} {x : Option (Option SV)} (st : ∀ a o, H a = some o → (∀ k, W a ≠ .cell k) → W' a = W a ∧ H' a = some o) (kp : Kp W H W' H') (h : SlotR g W H i v x) : SlotR g W' H' i v x := by
  cases x with
  | none => trivial
  | some x =>
    cases x with
    | none => trivial
    | some x =>
      cases x with
      | exn e => trivial
      | val b d =>
        cases b with
        | false =>
          obtain ⟨y, e, h⟩ := h
          exact ⟨y, e, Rp.mono kp d y h⟩
        | true =>
          obtain ⟨y, e, h⟩ := h
          refine ⟨y, e, ?_⟩
          cases d with
          | lst ds =>
            obtain ⟨a, vs, rfl, h1, h2, h3⟩ := h
            obtain ⟨q1, q2⟩ := st a _ h2 (fun k z => by rw [h1] at z; cases z)
            exact ⟨a, vs, rfl, q1.trans h1, q2, RpL.mono kp ds vs h3⟩
          | dct t ks ds =>
            obtain ⟨a, vs, rfl, h1, h2, h3⟩ := h
            refine ⟨a, vs, rfl, ?_, ?_, RpL.mono kp ds vs h3⟩
            · rcases h2 with ⟨_, kvs, h2, _⟩ | ⟨_, kvs, h2, _⟩
              · exact (st a _ h2 (fun k z => by rw [h1] at z; cases z)).1.trans h1
              · exact (st a _ h2 (fun k z => by rw [h1] at z; cases z)).1.trans h1
            · rcases h2 with ⟨et, kvs, h2, e1, e2⟩ | ⟨et, kvs, h2, e1, e2⟩
              · exact .inl ⟨et, kvs, (st a _ h2 (fun k z => by rw [h1] at z; cases z)).2, e1, e2⟩
              · exact .inr ⟨et, kvs, (st a _ h2 (fun k z => by rw [h1] at z; cases z)).2, e1, e2⟩
          | _ => exact h.elim
theorem SRep.back {s : S} {σ : L2.St} (st : StepS (maskW W) H W' H') (sr : SRep g s W σ H) (c : CRep g cs' W' H') : SRep g { s with cs := cs' } (backW W H W') σ H' :=
  ⟨fun i => SlotR.step (fun a o e nc => ⟨back_at st ⟨o, e⟩, (step_back st a o e).1 nc⟩) (step_back st).kp (sr.slot i), CRep.back st c, sr.len⟩
theorem ExnR.mono {e : Exn} {cls : Value} {dd : Option Addr} (kp : Kp W H W' H') (h : ExnR g W H e cls dd) : ExnR g W' H' e cls dd := by
  obtain ⟨C, d, ws, h1, h2, h3, h4, h5, h6⟩ := h
  obtain ⟨q1, q2⟩ := (kp d _ h5).1 h4
  exact ⟨C, d, ws, h1, h2, h3, q1, q2, FsR.mono kp e.fs ws h6⟩
end
/-- a call by its value -/
def eCallF (f : FF) (am : AM) : EM := fun s => match am s with
  | .ok ds s1 => (match f ds s1.cs with
    | .ret d cs => .ok d { s1 with cs := cs }
    | .exc e cs => .exc e { s1 with cs := cs }
    | .stuck => .stuck)
  | .exc e s1 => .exc e s1
  | .stuck => .stuck
theorem callF_go {g : Kg} {U : WX} {n : Nat} {f : FF} {s : S} {W : Wd} {H : Hp} {σ : L2.St} {ds : List D} {vs : List V} {Q : VK} (sr : SRep g s W σ H) (rl : RpL g W H ds vs) (hn : ds.length = n)
    (hp : PostE .e g U W H σ (match f ds s.cs with
      | .ret d cs => .ok d { s with cs := cs }
      | .exc e cs => .exc e { s with cs := cs }
      | .stuck => .stuck) Q) : spF g n f vs H Q (WE U σ) := by
  refine ⟨ds, s.cs, maskW W, by rw [← rl.length]; exact hn, RpL.mono kp_mask ds vs rl, sr.cells.mask, fun a i => mask_no, ?_⟩
  cases e : f ds s.cs with
  | ret d cs =>
    rw [e] at hp
    intro v W' H' st cr rp
    exact hp v (backW W H W') H' (step_back st) (sr.back st cr) (Rp.mono (kp_back st) d v rp)
  | exc ex cs =>
    rw [e] at hp
    intro cls dd W' H' st cr er
    exact hp cls dd (backW W H W') H' (step_back st) (sr.back st cr) (er.mono (kp_back st))
  | stuck => rw [e] at hp; exact hp.elim
section
variable {X : Cx} {U : WX} {k n : Nat} {a : Addr} {fd : FuncData} {ps : List Str} {f : FF} {x : Str} {p pos : Pos} {e : Expr} {es : List Expr} {am : AM}
/-- a def that may be called by its name -/
structure CalF (P : Program) (w : World) (K : PySem.W.Frag) (mg : Str → Option Value) (base : Heap) (k : Nat) (x : Str) (n : Nat) (f : FF) : Prop where
  ex : ∃ (a : Addr) (fd : FuncData) (ps : List Str), ps.length = n ∧ FnOk P w K mg base (L2.CX P w) k a fd ps (spF ⟨K, mg⟩ n f) ∧ mg x = some (.ref a) ∧ PySem.W.keepIn K (.ref a) = true ∧ Binds K fd ps []
theorem CalF.mono {P : Program} {w : World} {K : PySem.W.Frag} {mg : Str → Option Value} {base : Heap} {j k n : Nat} {x : Str} {f : FF} (h : CalF P w K mg base j x n f) (hk : j ≤ k) : CalF P w K mg base k x n f :=
  let ⟨a, fd, ps, hl, F, r⟩ := h.ex
  ⟨a, fd, ps, hl, F.mono hk, r⟩
/-- how many are given -/
def amLen : AM → Nat → Prop := fun am n => ∀ s ds s1, am s = .ok ds s1 → ds.length = n
theorem amLen_nil : amLen aNil 0 := fun s ds s1 h => by
  unfold aNil at h
  cases h
  rfl
theorem amLen_cons {m : EM} {r : AM} {n : Nat} (h : amLen r n) : amLen (aCons m r) (n + 1) := fun s ds s1 e => by
  unfold aCons at e
  cases e1 : m s with
  | ok d s2 =>
    rw [e1] at e
    dsimp only at e
    cases e2 : r s2 with
    | ok ds2 s3 =>
      rw [e2] at e
      cases e
      simp [h _ _ _ e2]
    | exc _ _ => rw [e2] at e; cases e
    | stuck => rw [e2] at e; cases e
  | exc _ _ => rw [e1] at e; cases e
  | stuck => rw [e1] at e; cases e
theorem call_args {M : Md} (hM : ∀ g W H ds vs, RmL M g W H ds vs → RpL g W H ds vs) (hl : amLen am n) {σ : L2.St} {H : Hp} {Q : VK} (h : tE .e (kg X) U (eCallF f am) σ H Q) : tA M (kg X) U am σ H (fun vs H1 => spF (kg X) n f vs H1 Q (WE U σ)) := by
  obtain ⟨s, W, sr, h⟩ := h
  refine ⟨s, W, sr, ?_⟩
  unfold eCallF at h
  cases e1 : am s with
  | stuck => rw [e1] at h; exact h
  | exc ex s1 => rw [e1] at h; exact h
  | ok ds s1 =>
    rw [e1] at h
    dsimp only at h
    intro vs W1 H1 st1 sr1 rl1
    exact callF_go sr1 (hM _ _ _ _ _ rl1) (hl _ _ _ e1) (PostE.step st1 h)
theorem ev_call (c : CalF X.prog X.w X.K X.mg X.base k x n f) (hr : Room k X.A) (hg : Gl X x) (tk : Takes X U) (hl : amLen am n) (ha : EvA .e X U (e :: es) am)
    (hdb : (x == ("__debug__" : Str)) = false := by decide) (he : starEach (e :: es) X.env = (false, eval e X.env) :: starEach es X.env := by rfl) (hpl : (backTo pos (starEach es X.env)).any (·.1) = false := by rfl) :
    EvE .e X U (.Call (.Name x p) (e :: es) [] pos) (eCallF f am) := by
  obtain ⟨a, fd, ps, hn, F, hm, hk, hb⟩ := c.ex
  exact PE.imp (pe_callS F hr hg hm hk hb (fun σ => passAt tk σ) ha hdb he hpl) fun σ H Q h => call_args (M := .e) (fun _ _ _ _ _ r => r.toRp) hl h
theorem takes_no {X : Cx} : Takes X UF := fun u s' ⟨_, _, _, _, _, _, _, _, _, _, _, _, _, _, _, _, h⟩ => h.elim
end
end Mv
set_option Elab.async false
set_option linter.all false
set_option maxRecDepth 100000
set_option maxHeartbeats 2000000
/-! Mv10: own exceptions: raise, try. -/
namespace Mv
open PySem PySem.Spec PyProof.Rows L2

/-! ### raise C(..) -/
/-- what an own __init__ does that stores its parameters -/
def spInit (K : PySem.W.Frag) (fs : List Str) : Sp := fun vs H Q E => ∃ (a C : Addr) (ys : List V), vs = .ref a :: ys ∧ ys.length = fs.length ∧ OexC K C ∧ (∀ f ∈ fs, PySem.W.findIn K (.ref C) f = some none) ∧ H a = some (exo a C none) ∧
  ∀ d H', H d = none → d ≠ a → H' a = some (exo a C (some d)) → H' d = some (exd d (fs.zip ys).reverse) → (∀ b, b ≠ a → b ≠ d → H' b = H b) → Q .non H'
/-- what is known of an exception class -/
structure ExMk (P : Program) (w : World) (K : PySem.W.Frag) (mg : Str → Option Value) (base : Heap) (k : Nat) (c : Str) (fs : List Str) : Prop where
  ex : ∃ (C fI : Addr) (fd : FuncData) (ps : List Str), mg c = some (.ref C) ∧ OexC K C ∧ PySem.W.findIn K (.ref C) "__init__" = some (some (.ref fI)) ∧ PySem.W.typeIn K (.ref fI) = some (.type "function") ∧
    FnOk P w K mg base (L2.CX P w) k fI fd ps (spInit K fs) ∧ Binds K fd ps [] ∧ ∀ f ∈ fs, PySem.W.findIn K (.ref C) f = some none
theorem exo_inj {a C : Addr} {d d' : Option Addr} {P : Program} {w : World} {H : Hp} {h : Heap} (hok : HOk P w H h) (e1 : H a = some (exo a C d)) (e2 : H a = some (exo a C d')) : d = d' := by
  obtain ⟨t1, g1⟩ := exo_at hok e1
  obtain ⟨t2, g2⟩ := exo_at hok e2
  rw [g1] at g2
  cases g2
  rfl
section
variable {P : Program} {w : World} {K : PySem.W.Frag} {mg : Str → Option Value} {base : Heap} {qual : Str} {params : Arguments} {scope : Scope} {f : Addr} {fd : FuncData} {k : Nat} {f1 f2 x1 x2 : Str} {p1 p2 p3 p4 p5 p6 p7 p8 : Pos}
theorem init1 (F : FunD K "__init__" qual params [.Assign [.Attribute (.Name "self" p1) f1 p2] (.Name x1 p3) p4] scope [] [] f fd) (S : FnScope ["self", x1] ["self", x1] scope)
    (v0 : Vis scope "self") (v1 : Vis scope x1) (h1 : (x1 == ("__debug__" : Str)) = false) (h2 : (x1 == ("__classdict__" : Str)) = false) : FnOk P w K mg base (L2.CX P w) (k + 1) f fd ["self", x1] (spInit K [f1]) := by
  refine F.ok S (fun vs H Q E ⟨a, C, ys, e, hl, _⟩ => by subst e; simpa using hl) fun cdv A outer s H vs Q E hr ⟨a, C, ys, e, hl, T, hno, ha, hq⟩ => ⟨_, pss_one (ps_ost (pe_var (i := 0) rfl v0) (pe_var (i := 1) rfl v1 h1 h2)), ?_⟩
  subst e
  obtain ⟨y, rfl⟩ : ∃ y, ys = [y] := by
    cases ys with
    | nil => simp at hl
    | cons y r => cases r with
      | nil => exact ⟨y, rfl⟩
      | cons _ _ => simp at hl
  refine ⟨y, rfl, .ref a, rfl, a, C, rfl, T, hno f1 (by simp), .inl ⟨ha, fun dx n ne => hq dx _ n ne upd_same ?_ fun b nb nd => ?_⟩⟩
  · rw [upd_ne ne]; exact upd_same
  · rw [upd_ne nb, upd_ne nd]
theorem init2 (F : FunD K "__init__" qual params [.Assign [.Attribute (.Name "self" p1) f1 p2] (.Name x1 p3) p4, .Assign [.Attribute (.Name "self" p5) f2 p6] (.Name x2 p7) p8] scope [] [] f fd) (S : FnScope ["self", x1, x2] ["self", x1, x2] scope)
    (v0 : Vis scope "self") (v1 : Vis scope x1) (v2 : Vis scope x2) (h1 : (x1 == ("__debug__" : Str)) = false) (h2 : (x1 == ("__classdict__" : Str)) = false) (h3 : (x2 == ("__debug__" : Str)) = false) (h4 : (x2 == ("__classdict__" : Str)) = false) : FnOk P w K mg base (L2.CX P w) (k + 1) f fd ["self", x1, x2] (spInit K [f1, f2]) := by
  refine F.ok S (fun vs H Q E ⟨a, C, ys, e, hl, _⟩ => by subst e; simpa using hl) fun cdv A outer s H vs Q E hr ⟨a, C, ys, e, hl, T, hno, ha, hq⟩ => ⟨_, pss_cons (ps_ost (pe_var (i := 0) rfl v0) (pe_var (i := 1) rfl v1 h1 h2)) (pss_one (ps_ost (pe_var (i := 0) rfl v0) (pe_var (i := 2) rfl v2 h3 h4))), ?_⟩
  subst e
  obtain ⟨y, z, rfl⟩ : ∃ y z, ys = [y, z] := by
    cases ys with
    | nil => simp at hl
    | cons y r => cases r with
      | nil => simp at hl
      | cons z r => cases r with
        | nil => exact ⟨y, z, rfl⟩
        | cons _ _ => simp at hl
  refine ⟨y, rfl, .ref a, rfl, a, C, rfl, T, hno f1 (by simp), .inl ⟨ha, fun dx n ne => ?_⟩⟩
  refine ⟨z, rfl, .ref a, rfl, a, C, rfl, T, hno f2 (by simp), .inr ⟨dx, [(f1, y)], upd_same, ?_, by simp, hq dx _ n ne ?_ upd_same fun b nb nd => ?_⟩⟩
  · rw [upd_ne ne]; exact upd_same
  · rw [upd_ne (Ne.symm ne)]; exact upd_same
  · rw [upd_ne nd, upd_ne nb, upd_ne nd]
end
theorem FsR.ofZip {g : Kg} {W : Wd} {H : Hp} : ∀ {fs : List Str} {ds : List D} {ys : List V}, RpL g W H ds ys → FsR g W H (fs.zip ds) (fs.zip ys)
  | [], _, _, _ => rfl
  | _ :: _, [], _, h => by cases h; rfl
  | f :: fs, d :: ds, _, h => by
    obtain ⟨v, r, rfl, h1, h2⟩ := h
    exact ⟨v, fs.zip r, rfl, h1, FsR.ofZip h2⟩
theorem FsR.append {g : Kg} {W : Wd} {H : Hp} : ∀ {a b : List (Str × D)} {x y : List (Str × V)}, FsR g W H a x → FsR g W H b y → FsR g W H (a ++ b) (x ++ y)
  | [], _, _, _, h1, h2 => by cases h1; exact h2
  | (f, d) :: r, _, _, _, h1, h2 => by
    obtain ⟨v, q, rfl, h, h3⟩ := h1
    exact ⟨v, _, rfl, h, FsR.append h3 h2⟩
theorem FsR.reverse {g : Kg} {W : Wd} {H : Hp} : ∀ {a : List (Str × D)} {x : List (Str × V)}, FsR g W H a x → FsR g W H a.reverse x.reverse
  | [], _, h => by cases h; rfl
  | (f, d) :: r, _, h => by
    obtain ⟨v, q, rfl, h1, h2⟩ := h
    simp only [List.reverse_cons]
    exact FsR.append (FsR.reverse h2) ⟨v, [], rfl, h1, rfl⟩
theorem FsR.lookup {g : Kg} {W : Wd} {H : Hp} {f : Str} {d : D} : ∀ {a : List (Str × D)} {x : List (Str × V)}, FsR g W H a x → a.lookup f = some d → ∃ v, x.lookup f = some v ∧ Rp g W H d v
  | [], _, _, e => nomatch e
  | (n, d') :: r, _, h, e => by
    obtain ⟨v, q, rfl, h1, h2⟩ := h
    rw [List.lookup_cons] at e ⊢
    split at e
    · rename_i hz
      cases e
      exact ⟨v, rfl, h1⟩
    · exact FsR.lookup h2 e
def sRaise (c : Str) (fs : List Str) (am : AM) : SM := fun s => match am s with
  | .ok ds s1 => if ds.length = fs.length ∧ ds.length ≤ 1000 then .ex ⟨c, (fs.zip ds).reverse⟩ s1 else .stuck
  | .exc e s1 => .ex e s1
  | .stuck => .stuck
section
variable {X : Cx} {U : WX} {k : Nat} {c : Str} {fs : List Str} {p pos pos' : Pos} {e : Expr} {es : List Expr} {am : AM}
theorem es_raise (m : ExMk X.prog X.w X.K X.mg X.base k c fs) (hc : X.calm = true) (hr : Room (k + 1) X.A) (hg : Gl X c) (tk : Takes X U) (ha : EvA .e X U (e :: es) am)
    (hdb : (c == ("__debug__" : Str)) = false := by decide) (he : starEach (e :: es) X.env = (false, eval e X.env) :: starEach es X.env := by rfl) (hpl : (backTo pos (starEach es X.env)).any (·.1) = false := by rfl) :
    EvS X U (.Raise (some (.Call (.Name c p) (e :: es) [] pos)) none pos') (sRaise c fs am) := by
  obtain ⟨C, fI, fd, ps, hm, T, iC, tI, F1, hb, hno⟩ := m.ex
  have hx : Passes (L2.CX X.prog X.w) X (fun _ _ _ => False) := fun pins σ H s u s' I cx => tk u s' (XE.of_call I (fun _ _ _ h => h.elim) cx)
  refine PS.imp (ps_raise hc tk (pmk_oex T iC tI F1 hr hb .nil hx hg hm ha hdb he hpl)) fun E σ H ⟨s, W, sr, h⟩ => ⟨s, W, sr, ?_⟩
  unfold sRaise at h
  cases e1 : am s with
  | stuck => rw [e1] at h; exact h
  | exc ex s1 => rw [e1] at h; exact fun cls dd W' H' st => h cls dd W' σ H' st.stmt
  | ok ds s1 =>
    rw [e1] at h
    dsimp only at h
    split at h
    · rename_i hl
      intro vs W1 H1 st1 sr1 rl1
      have rl := RmL.toRp rl1
      have hlen := rl.length
      refine ⟨by omega, fun a na => ⟨a, C, vs ++ [], rfl, by rw [List.append_nil]; omega, T, hno, upd_same, fun d H' nd ne ea ed rest => ⟨rfl, d, _, ea, ed, ?_, ?_⟩⟩⟩
      · rw [upd_ne ne] at nd; exact nd
      · have nd1 : H1 d = none := by rw [upd_ne ne] at nd; exact nd
        rw [List.append_nil] at *
        have eH : upd (del H' a) d (.xd (fs.zip vs).reverse) = upd H1 d (.xd (fs.zip vs).reverse) := by
          funext b
          by_cases hd : b = d
          · subst hd; rw [upd_same, upd_same]
          · rw [upd_ne hd, upd_ne hd]
            by_cases hb : b = a
            · subst hb; rw [del_same, na]
            · rw [del_ne hb, rest b hb hd, upd_ne hb]
        rw [eH]
        have gr : GrowC W1 H1 (W1.set d .fz) (upd H1 d (.xd (fs.zip vs).reverse)) := grow_new nd1 (fun k z => nomatch z)
        exact h (.ref C) (some d) (W1.set d .fz) σ _ (st1.stmt.trans gr.gr.step.stmt) (sr1.grow gr) ⟨C, d, (fs.zip vs).reverse, hm, rfl, rfl, Wd.set_same, upd_same, FsR.reverse (FsR.ofZip (RpL.mono gr.gr.kp ds vs rl))⟩
    · exact h.elim
end
end Mv
set_option Elab.async false
set_option linter.all false
set_option maxRecDepth 100000
set_option maxHeartbeats 2000000
/-! Mv11: try with several clauses, named or not; handlers that return. -/
namespace Mv
open PySem PySem.Spec PyProof.Rows L2

/-- the ends of a suite whose name goes -/
def goneD (i : Nat) (D : Ends) : Ends := { nx := fun σ' H' => D.nx (σ'.set i none) H', rt := D.rt, bk := fun σ' H' => D.bk (σ'.set i none) H', ct := fun σ' H' => D.ct (σ'.set i none) H' }
structure Hd where
  c : Value
  slot : Option Nat
  ts : Addr → Value → Option Addr → TS
def hdW (h : Hd) (a : Addr) (cls : Value) (d : Option Addr) (D : Ends) (σ : L2.St) (H : Hp) : Prop := match h.slot with
  | none => h.ts a cls d D σ H
  | some i => h.ts a cls d (goneD i D) (σ.set i (some (.ref a))) H
def wManyA (K : PySem.W.Frag) (Wout : WX) (D : Ends) : List Hd → WX
  | [] => Wout
  | h :: r => fun cls d σ H => ∃ b, PySem.W.exmOne K cls h.c = some b ∧ (b = true → ∀ a, H a = none → hdW h a cls d D σ H) ∧ (b = false → wManyA K Wout D r cls d σ H)
inductive HdsA (X : Cx) : List ExceptHandler → List Hd → Prop
  | nil : HdsA X [] []
  | cons0 {x : Str} {c : Value} {ts : Addr → Value → Option Addr → TS} {b₀ : Stmt} {suite : List Stmt} {np pos' : Pos} {hds : List ExceptHandler} {l : List Hd} (hc : Names X x c)
      (hsu : ∀ (a : Addr) (oe : Obj) (cls : Value) (d : Option Addr) (pn : List (Addr × Obj)), Zc cls d oe → (∃ vs, oe.data = .fields vs) → PSs (X.suite a ((a, oe) :: pn)) (b₀ :: suite) (ts a cls d)) (r : HdsA X hds l) :
      HdsA X (.ExceptHandler (some (.Name x np)) none (b₀ :: suite) pos' :: hds) (⟨c, none, ts⟩ :: l)
  | consN {x n : Str} {i : Nat} {c : Value} {ts : Addr → Value → Option Addr → TS} {b₀ : Stmt} {suite : List Stmt} {np pos' : Pos} {hds : List ExceptHandler} {l : List Hd} (hc : Names X x c) (hi : X.N[i]? = some n) (hln : X.env.kindOf n = some .local)
      (hsu : ∀ (a : Addr) (oe : Obj) (cls : Value) (d : Option Addr) (pn : List (Addr × Obj)), Zc cls d oe → (∃ vs, oe.data = .fields vs) → PSs (X.suite a ((a, oe) :: pn)) (b₀ :: suite) (ts a cls d)) (r : HdsA X hds l) :
      HdsA X (.ExceptHandler (some (.Name x np)) (some n) (b₀ :: suite) pos' :: hds) (⟨c, some i, ts⟩ :: l)
section
variable {X : Cx} {body : List Stmt} {h₀ : ExceptHandler} {hds : List ExceptHandler} {l : List Hd} {pos : Pos} {tb : WX → TS} {Wout : WX}
theorem ps_try_manyA (hN : X.N.Nodup) (hs : X.stack = X.env :: X.outer) (hf : X.env.frame = some X.env.locals) (tk : Takes X Wout)
    (hb : ∀ (W : WX) (pn : List (Addr × Obj)) (xe : Value → Shared → Prop), Takes (X.tr pn xe) W → PassesOwn (model X.prog X.w) X.A X.env xe → PSs (X.tr pn xe) body (tb W))
    (hh : HdsA X (h₀ :: hds) l) : PS X (.Try body (h₀ :: hds) [] [] pos) (fun D σ H => tb (wManyA X.K Wout D l) D σ H) := by
  refine ⟨fun pins s σ H D I h => ?_⟩
  have ok := I.ok
  have hfr : X.A.frames = some (X.env :: X.outer) := by rw [ok.frames, hs]
  refine wpAny_Try_except ?_
  refine wpAny_mono ((hb (wManyA X.K Wout D l) (X.pn ++ pins) (fun e s₁ => wpAny (model X.prog X.w) X.A (noteFrame e X.env) (fun _ s₂ => wpAny (model X.prog X.w) X.A (setFlight e none) (fun _ s₃ =>
    wpAny (model X.prog X.w) X.A (handleBy e X.env (h₀ :: hds)) (SP X pins D) X.xe s₃) X.xe s₂) X.xe s₁) (fun u s' xx => ?_) PassesOwn.looking).run [] s σ H D (I.toTry _) h) (fun f s1 hsp => ?_) (fun e s1 he => he)
  · obtain ⟨a, B, sI, pins', σ', H', cls, d, rfl, J', nb, up, sky, na, os, ag, w⟩ := xx
    have J : Inv X pins σ' H' sI := J'.ofTry ok
    have sky' : Sky B (X.env :: X.outer) a (Zc cls d) X.env.locals s'.heap := by rw [← hs]; exact sky
    show wpAny (model X.prog X.w) X.A (noteFrame (.ref a) X.env) _ _ _
    refine Sky.land Zc.steady hfr hf sky' fun h3 fl3 up3 => ?_
    have J3 : Inv X pins σ' H' { s' with heap := h3 } := J.landed nb fl3.1 (up.trans up3) os ag
    obtain ⟨oe3, vs3, he3, hz3, hd3⟩ := fl3.there
    have nfr : a ∉ frs (X.env :: X.outer) := fun hm => by
      obtain ⟨_, o', e', hnf⟩ := fl3.2.2.1.mem hm
      rw [he3] at e'; cases e'
      exact hnf _ hd3
    have nL : a ≠ X.env.locals := fun z => nfr (List.mem_filterMap.mpr ⟨X.env, List.mem_cons_self, by rw [hf, z]⟩)
    have nF : a ∉ X.fs := fun hm => by
      obtain ⟨e, he, q⟩ := List.mem_filterMap.mp hm
      exact nfr (List.mem_filterMap.mpr ⟨e, List.mem_cons_of_mem _ he, q⟩)
    have S3 := J3.suite he3 hd3 na nL nF
    have LT : PySem.W.Looks (model X.prog X.w) h3 (typeOf (.ref a)) cls := fun A Q E s k q => wpAny_typeOf_ref (k _ _ he3) (by rw [hz3.1]; exact q)
    have test : ∀ {x : Str} {c : Value} {np : Pos} {Q : Value → Shared → Prop} {E : Value → Shared → Prop}, Names X x c → Q c { s' with heap := h3 } → wpAny (model X.prog X.w) (X.A.mark (some (.ref a))) (eval (.Name x np) X.env) Q E { s' with heap := h3 } := fun {x c np Q E} hc q => by
      obtain ⟨hg, hdbg, hm | ⟨hm, hv, hnn⟩⟩ := hc
      · exact ld_glob (X := X.suite a ((a, oe3) :: (X.pn ++ pins))) S3 hg hm q hdbg
      · exact ld_blt (X := X.suite a ((a, oe3) :: (X.pn ++ pins))) S3 hg hm hv q hnn hdbg
    have go : ∀ {hds' : List ExceptHandler} {l' : List Hd}, HdsA X hds' l' → wManyA X.K Wout D l' cls d σ' H' →
        wpAny (model X.prog X.w) X.A (handleBy (.ref a) X.env hds') (SP X pins D) X.xe { s' with heap := h3 } := by
      intro hds' l' hk
      induction hk with
      | nil =>
        intro w
        refine wpAny_handleBy_nil ?_
        obtain ⟨k1, k2, k3, oe, vs, T, oT, ts', he, hz, hd, h1, hr⟩ := id fl3
        unfold PySem.passOn
        refine wpAny_bind (wpAny_field he hd h1 ?_)
        rw [if_neg (show ¬ ((Value.ref T == Value.none) = true) from by simp)]
        have fin : wpAny (model X.prog X.w) X.A (setFlight (.ref a) X.env.frame) (fun _ s4 => wpAny (model X.prog X.w) X.A (throw (.ref a) : Sem Flow) (SP X pins D) X.xe s4) X.xe { s' with heap := h3 } := by
          rw [hf]
          refine HandSPX.setFlight_upZ fl3 fun h4 hh4 up4 => wpAny_throw (tk _ _ ?_)
          exact ⟨a, B, sI, pins, σ', H', cls, d, rfl, J, nb, (up.trans up3).trans up4, .inr (.inr (by rw [hs]; exact hh4)), na, os, ag, w⟩
        first
          | exact wpAny_bind (wpAny_pure (wpAny_bind fin))
          | exact wpAny_bind fin
      | @cons0 x c ts b₀ suite np pos' hds2 l2 hc hsu r ih =>
        intro w
        obtain ⟨b, hb1, hyes, hno⟩ := w
        refine wpAny_handleBy_cons (codeAny_handlers_test ?_) (by intro q; cases q)
        have LM := PySem.W.exm_one (M := model X.prog X.w) (J3.kIn) LT hb1
        refine test hc (LM.here ?_)
        cases b with
        | true =>
          refine codeAny_handlers_suite ?_
          refine HandSPX.lands_againZ fl3 fun h4 fl4 up4 => ?_
          have J4 : Inv X pins σ' H' { s' with heap := h4 } := J.landed nb fl4.1 ((up.trans up3).trans up4) os ag
          obtain ⟨oe4, vs4, he4, hz4, hd4⟩ := fl4.there
          have S4 := J4.suite he4 hd4 na nL nF
          refine wpAny_mono ((hsu a oe4 cls d (X.pn ++ pins) hz4 ⟨_, hd4⟩).run [] _ _ H' _ S4 (hyes rfl a na)) (fun f s6 hsp => ?_) (fun _ _ z => False.elim z)
          cases f with
          | next =>
            obtain ⟨σ6, H6, S6, q6⟩ := hsp
            exact ⟨_, _, S6.unsuite ok, q6⟩
          | brk =>
            obtain ⟨σ6, H6, S6, q6⟩ := hsp
            exact ⟨_, _, S6.unsuite ok, q6⟩
          | cont =>
            obtain ⟨σ6, H6, S6, q6⟩ := hsp
            exact ⟨_, _, S6.unsuite ok, q6⟩
          | ret u =>
            obtain ⟨v6, σ6, H6, S6, r6, q6⟩ := hsp
            exact ⟨_, _, _, S6.unsuite ok, r6, q6⟩
        | false =>
          show wpAny _ X.A (handleBy (.ref a) X.env hds2) _ _ _
          exact ih (hno rfl)
      | @consN x n i c ts b₀ suite np pos' hds2 l2 hc hi hln hsu r ih =>
        intro w
        obtain ⟨b, hb1, hyes, hno⟩ := w
        refine wpAny_handleBy_cons (codeAny_handlers_test ?_) (by intro q; cases q)
        have LM := PySem.W.exm_one (M := model X.prog X.w) (J3.kIn) LT hb1
        refine test hc (LM.here ?_)
        cases b with
        | true =>
          refine codeAny_handlers_suite_as ?_
          refine HandSPX.lands_againZ fl3 fun h4 fl4 up4 => ?_
          have J4 : Inv X pins σ' H' { s' with heap := h4 } := J.landed nb fl4.1 ((up.trans up3).trans up4) os ag
          obtain ⟨oe4, vs4, he4, hz4, hd4⟩ := fl4.there
          have S4 := J4.suite he4 hd4 na nL nF
          refine store_ok (X := X.suite a ((a, oe4) :: (X.pn ++ pins))) (v := .ref a) S4 hN hi (.inl hln) rfl (fun s5 S5 => ?_) (.inr hln)
          refine wpAny_mono ((hsu a oe4 cls d (X.pn ++ pins) hz4 ⟨_, hd4⟩).run [] s5 _ H' _ S5 (hyes rfl a na)) (fun f s6 hsp => ?_) (fun _ _ z => False.elim z)
          have end_ : ∀ {σ6 : L2.St} {H6 : Hp} {Q : Shared → Prop}, Inv (X.suite a ((a, oe4) :: (X.pn ++ pins))) [] σ6 H6 s6 → (∀ s7, Inv X pins (σ6.set i none) H6 s7 → Q s7) →
              wpAny (model X.prog X.w) X.A (do bindName X.env n .none; unbindBehindTheSuite X.env n pos') (fun _ s7 => Q s7) X.xe s6 := fun {σ6 H6 Q} S6 hq => gone_ok (S6.unsuite ok) hN hi hln hq
          cases f with
          | next =>
            obtain ⟨σ6, H6, S6, q6⟩ := hsp
            exact end_ S6 fun s7 J7 => ⟨_, _, J7, q6⟩
          | brk =>
            obtain ⟨σ6, H6, S6, q6⟩ := hsp
            exact end_ S6 fun s7 J7 => ⟨_, _, J7, q6⟩
          | cont =>
            obtain ⟨σ6, H6, S6, q6⟩ := hsp
            exact end_ S6 fun s7 J7 => ⟨_, _, J7, q6⟩
          | ret u =>
            obtain ⟨v6, σ6, H6, S6, r6, q6⟩ := hsp
            exact end_ S6 fun s7 J7 => ⟨_, _, _, J7, r6, q6⟩
        | false =>
          show wpAny _ X.A (handleBy (.ref a) X.env hds2) _ _ _
          exact ih (hno rfl)
    exact go hh w
  · cases f with
    | next =>
      obtain ⟨σ', H', J', q⟩ := hsp
      exact wpAny_execs_nil ⟨σ', H', J'.ofTry ok, q⟩
    | brk =>
      obtain ⟨σ', H', J', q⟩ := hsp
      exact ⟨σ', H', J'.ofTry ok, q⟩
    | cont =>
      obtain ⟨σ', H', J', q⟩ := hsp
      exact ⟨σ', H', J'.ofTry ok, q⟩
    | ret u =>
      obtain ⟨v, σ', H', J', r, q⟩ := hsp
      exact ⟨v, σ', H', J'.ofTry ok, r, q⟩
end

/-! ### handlers that return what they read of the exception -/
def HExc (g : Kg) (i : Nat) (a : Addr) (cls : Value) (d : Option Addr) (e : Exn) (W : Wd) (σ : L2.St) (H : Hp) : Prop := σ[i]? = some (some (.ref a)) ∧ ExnR g W H e cls d
theorem HExc.grow {g : Kg} {i : Nat} {a : Addr} {cls : Value} {d : Option Addr} {e : Exn} {W W' : Wd} {σ : L2.St} {H H' : Hp} (gr : Grow W H W' H') (h : HExc g i a cls d e W σ H) : HExc g i a cls d e W' σ H' := ⟨h.1, h.2.mono gr.kp⟩
def tHE (g : Kg) (i : Nat) (a : Addr) (cls : Value) (d : Option Addr) (h : Exn → Option D) : TE := fun σ H Q => ∃ W e dv, HExc g i a cls d e W σ H ∧ h e = some dv ∧ ∀ v W' H', GrowC W H W' H' → Rp g W' H' dv v → Q v H'
def tHA (g : Kg) (i : Nat) (a : Addr) (cls : Value) (d : Option Addr) (h : Exn → Option (List D)) : TA := fun σ H Q => ∃ W e dv, HExc g i a cls d e W σ H ∧ h e = some dv ∧ ∀ v W' H', GrowC W H W' H' → RpL g W' H' dv v → Q v H'
def tHT (g : Kg) (i : Nat) (a : Addr) (cls : Value) (d : Option Addr) (h : Exn → Option Bool) : TT := fun σ H Q => ∃ W e b, HExc g i a cls d e W σ H ∧ h e = some b ∧ ∀ W' H', GrowC W H W' H' → Q b H'
def tHS (g : Kg) (i : Nat) (a : Addr) (cls : Value) (d : Option Addr) (h : Exn → Option D) : TS := fun D σ H => ∃ W e dv, HExc g i a cls d e W σ H ∧ h e = some dv ∧ ∀ v W' H', GrowC W H W' H' → Rp g W' H' dv v → D.rt v H'
def InSuite (X : Cx) (P : Cx → Addr → Value → Option Addr → Prop) : Prop := ∀ (a : Addr) (oe : Obj) (cls : Value) (d : Option Addr) (pn : List (Addr × Obj)), Zc cls d oe → (∃ vs, oe.data = .fields vs) → P (X.suite a ((a, oe) :: pn)) a cls d
def EvH (X : Cx) (i : Nat) (e : Expr) (h : Exn → Option D) : Prop := InSuite X fun Y a cls d => PE Y e (tHE (kg X) i a cls d h)
def EvHA (X : Cx) (i : Nat) (es : List Expr) (h : Exn → Option (List D)) : Prop := InSuite X fun Y a cls d => PA Y es (tHA (kg X) i a cls d h)
def EvHT (X : Cx) (i : Nat) (e : Expr) (h : Exn → Option Bool) : Prop := InSuite X fun Y a cls d => PT Y e (tHT (kg X) i a cls d h)
def EvHS (X : Cx) (i : Nat) (es : List Stmt) (h : Exn → Option D) : Prop := InSuite X fun Y a cls d => PSs Y es (tHS (kg X) i a cls d h)
theorem GrowC.trans {W W1 W2 : Wd} {H H1 H2 : Hp} (a : GrowC W H W1 H1) (b : GrowC W1 H1 W2 H2) : GrowC W H W2 H2 := by
  refine ⟨a.gr.trans b.gr, fun x o k e q => ?_⟩
  obtain ⟨u, hu⟩ := b.nc x o k e q
  exact a.nc x u k hu (((b.gr x u hu).1).symm.trans q)
section
variable {X : Cx} {i : Nat} {x : Str} {p pos : Pos} {e a1 a2 c : Expr} {es : List Expr} {h h1 h2 : Exn → Option D}
def hC (d : D) : Exn → Option D := fun _ => some d
theorem eh_const {d : D} {v : V} (he : ∀ a pn, PE (X.suite a pn) e (tC v)) (r : ∀ W H, Rp (kg X) W H d v) : EvH X i e (hC d) := fun a oe cls dd pn _ _ =>
  PE.imp (he _ _) fun σ H Q ⟨W, e, dv, hx, eh, q⟩ => by
    cases eh
    exact q v W H GrowC.refl (r W H)
theorem eh_str {z : Str} {j} : EvH X i (.Constant (.str z) j pos) (hC (.str z)) := eh_const (fun _ _ => pe_str) fun _ _ => rfl
theorem eh_non {j} : EvH X i (.Constant .none j pos) (hC .non) := eh_const (fun _ _ => pe_non) fun _ _ => rfl
theorem eh_bl {b j} : EvH X i (.Constant (.bool b) j pos) (hC (.bl b)) := eh_const (fun _ _ => pe_bl) fun _ _ => rfl
/-- e.f, of the classes ok -/
def hAt (ok : List Str) (f : Str) : Exn → Option D := fun e => if e.cls ∈ ok then e.fs.lookup f else none
theorem eh_attr {f : Str} {ok : List Str} (hN : X.N[i]? = some x) (hv : Vis X.env.scope x) (T : ∀ c ∈ ok, ∀ C, X.mg c = some (.ref C) → XfC X.K C ∧ PySem.W.findIn X.K (.ref C) f = some none)
    (hd : (x == ("__debug__" : Str)) = false := by decide) (hcd : (x == ("__classdict__" : Str)) = false := by decide) (hb : attributeBase (.Name x p) f X.env (eval (.Name x p) X.env) = eval (.Name x p) X.env := by rfl) :
    EvH X i (.Attribute (.Name x p) f pos) (hAt ok f) := fun a oe cls dd pn hz hf => by
  by_cases hc : ∃ c C, c ∈ ok ∧ X.mg c = some (.ref C) ∧ cls = .ref C
  · obtain ⟨c, C, hco, hm, ec⟩ := hc
    obtain ⟨T1, T2⟩ := T c hco C hm
    refine PE.imp (pe_xf T1 T2 hz hf (pe_var (X := X.suite a ((a, oe) :: pn)) hN hv hd hcd) hb) fun σ H Q ⟨W, e, dv, ⟨hs, C', d2, ws, q1, q2, q3, q4, q5, q6⟩, eh, q⟩ => ?_
    unfold hAt at eh
    split at eh
    · obtain ⟨v, l, rv⟩ := FsR.lookup q6 eh
      exact ⟨.ref a, hs, rfl, ec, d2, ws, v, q3, q5, l, q v W H GrowC.refl rv⟩
    · cases eh
  · refine PE.imp (t := fun _ _ _ => False) ⟨fun _ _ _ _ _ _ z => z.elim⟩ fun σ H Q ⟨W, e, dv, ⟨hs, C', d2, ws, q1, q2, q3, q4, q5, q6⟩, eh, q⟩ => ?_
    unfold hAt at eh
    split at eh
    · rename_i ho
      exact hc ⟨e.cls, C', ho, q1, q2⟩
    · cases eh
def hNil : Exn → Option (List D) := fun _ => some []
def hCons (h : Exn → Option D) (r : Exn → Option (List D)) : Exn → Option (List D) := fun e => (h e).bind fun d => (r e).bind fun ds => some (d :: ds)
theorem eha_nil : EvHA X i [] hNil := fun a oe cls dd pn _ _ => PA.imp pa_nil fun σ H Q ⟨W, e, dv, hx, eh, q⟩ => by
  cases eh
  exact q [] W H GrowC.refl rfl
theorem eha_cons {r : Exn → Option (List D)} (he : EvH X i e h) (hr : EvHA X i es r) (hs : starEach (e :: es) X.env = (false, eval e X.env) :: starEach es X.env := by rfl) : EvHA X i (e :: es) (hCons h r) := fun a oe cls dd pn hz hf =>
  PA.imp (pa_cons (he a oe cls dd pn hz hf) (hr a oe cls dd pn hz hf) hs) fun σ H Q ⟨W, ex, dv, hx, eh, q⟩ => by
    unfold hCons at eh
    obtain ⟨d1, e1, eh⟩ := Option.bind_eq_some_iff.mp eh
    obtain ⟨ds, e2, eh⟩ := Option.bind_eq_some_iff.mp eh
    cases eh
    exact ⟨W, ex, d1, hx, e1, fun v W1 H1 g1 r1 => ⟨W1, ex, ds, hx.grow g1.gr, e2, fun vs W2 H2 g2 r2 => q (v :: vs) W2 H2 (g1.trans g2) ⟨v, vs, rfl, Rp.mono g2.gr.kp d1 v r1, r2⟩⟩⟩
def hTup (r : Exn → Option (List D)) : Exn → Option D := fun e => (r e).bind fun ds => if ds.length ≤ sizeLine then some (.tup ds) else none
def hLst (r : Exn → Option (List D)) : Exn → Option D := fun e => (r e).bind fun ds => if ds.length ≤ sizeLine then some (.lst ds) else none
theorem eh_tup {r : Exn → Option (List D)} {x1} (hr : EvHA X i es r) : EvH X i (.Tuple es x1 pos) (hTup r) := fun a oe cls dd pn hz hf =>
  PE.imp (pe_tup (hr a oe cls dd pn hz hf)) fun σ H Q ⟨W, ex, dv, hx, eh, q⟩ => by
    unfold hTup at eh
    obtain ⟨ds, e1, eh⟩ := Option.bind_eq_some_iff.mp eh
    split at eh
    · rename_i hl
      cases eh
      refine ⟨W, ex, ds, hx, e1, fun vs W1 H1 g1 r1 => ⟨by rw [← r1.length]; exact hl, fun np hp => ?_⟩⟩
      obtain ⟨g2, r2⟩ := rp_new_tup hp r1
      exact q _ _ _ (g1.trans g2) r2
    · cases eh
theorem eh_lst {r : Exn → Option (List D)} (hr : EvHA X i es r) : EvH X i (.List es pos) (hLst r) := fun a oe cls dd pn hz hf =>
  PE.imp (pe_lst (hr a oe cls dd pn hz hf)) fun σ H Q ⟨W, ex, dv, hx, eh, q⟩ => by
    unfold hLst at eh
    obtain ⟨ds, e1, eh⟩ := Option.bind_eq_some_iff.mp eh
    split at eh
    · rename_i hl
      cases eh
      refine ⟨W, ex, ds, hx, e1, fun vs W1 H1 g1 r1 => ⟨by rw [← r1.length]; exact hl, fun np hp => ?_⟩⟩
      obtain ⟨g2, r2⟩ := rp_new_lst hp r1
      exact q _ _ _ (g1.trans g2) r2
    · cases eh
/-- isinstance(e, T) -/
structure IsF (K : PySem.W.Frag) (C : Addr) : Prop where
  cl : (PySem.W.clsIn K C).isSome = true
  ga : PySem.W.findIn K (.ref C) "__getattribute__" = some (some (.builtin "BaseException.__getattribute__"))
  gg : ∃ gt, PySem.W.findIn K (.ref C) "__getattr__" = some gt
  sb : PySem.W.subIn K (.ref C) (.type "BaseException") = some true
  ha : PySem.W.findIn K (.ref C) "__class__" = some (some (.builtin "object.__class__"))
  hn : PySem.W.specialIn K (.builtin "object.__class__") "__get__" = some (some (.builtin "getset_descriptor.__get__"))
  ht : PySem.W.takesIn K (.builtin "object.__class__") = some true
  hm : PySem.W.mroIn K C (.type "object") = some true
def rIsX (K : PySem.W.Frag) (D a dd : Addr) : List V → Hp → VK → Prop := fun xs H Q => ∃ (c : V) (cv : Value) (b : Bool) (ws : List (Str × V)), xs = [.ref a, c] ∧ (∀ u, RelV c u → u = cv) ∧ PySem.W.kitOne K (.ref D) cv = some b ∧ H dd = some (.xd ws) ∧ Q (.bl b) H
theorem call_isX {a D dd : Addr} {oe : Obj} {pn : List (Addr × Obj)} (C : IsF X.K D) (hz : Zc (.ref D) (some dd) oe) (hf : ∃ vs, oe.data = .fields vs) : CallR (X.suite a ((a, oe) :: pn)) (.builtin "isinstance") (rIsX X.K D a dd) := by
  intro pins s σ H xs us Q I r h
  obtain ⟨c, cv, b, ws, rfl, hcv, e, hdd, q⟩ := h
  cases r with
  | cons rx rr =>
    cases rr with
    | cons rt rr =>
      cases rr
      cases rx
      have ec := hcv _ rt
      subst ec
      obtain ⟨hget, _⟩ := I.pin (a, oe) (List.mem_append.mpr (.inl List.mem_cons_self))
      obtain ⟨vs, hv⟩ := hf
      have hx : ObjOk X.prog X.w H s.heap dd (.xd ws) := I.hok dd _ hdd
      obtain ⟨mA, hns, hr⟩ := hx
      obtain ⟨od, ho, hl⟩ := lookIn_ns hns
      have J : PySem.W.InstAt s.heap a oe D (some od) := ⟨hget, hz.1, by unfold PySem.W.notCls; rw [hv] <;> rfl, by rw [hz.2]; exact ho⟩
      obtain ⟨gt, hgt⟩ := C.gg
      exact PySem.W.kia_one (PySem.W.kitx_exc C.cl C.ga hgt C.sb C.ha C.hn C.ht C.hm) I.kIn J e (fun z => nomatch z) fun tk => ⟨.bl b, H, I.kept (t' := tk) fun _ _ z => z, rfl, q⟩
/-- what isinstance says of the classes -/
def hIs (tb : List (Str × Bool)) : Exn → Option Bool := fun e => tb.lookup e.cls
def TyOf (X : Cx) (y : Str) (cv : Value) : Prop := Gl X y ∧ (y == ("__debug__" : Str)) = false ∧ ((∃ C, cv = .ref C ∧ X.mg y = some cv) ∨ (∃ n, cv = .type n ∧ X.mg y = none ∧ bootBuiltins y = some cv ∧ y ≠ "__name__"))
theorem lookup_mem {tb : List (Str × Bool)} {c : Str} {b : Bool} (h : tb.lookup c = some b) : (c, b) ∈ tb := PySem.mem_of_lookup h
theorem TyOf.pe {Y : Cx} {y : Str} {cv : Value} {p2 : Pos} (hT : TyOf Y y cv) : ∃ v : V, (∀ u, RelV v u → u = cv) ∧ PE Y (.Name y p2) (tC v) := by
  obtain ⟨hg, hd, ⟨C, rfl, hm⟩ | ⟨n, rfl, hm, hb, hn⟩⟩ := hT
  · exact ⟨.ref C, fun u h => h, pe_glob hg hm rfl hd⟩
  · exact ⟨.ty n, fun u h => h, pe_bltn hg hm hb rfl hn hd⟩
theorem eht_is {y : Str} {cv : Value} {tb : List (Str × Bool)} {p2 p3 : Pos} (hN : X.N[i]? = some x) (hv : Vis X.env.scope x) (hm : X.mg "isinstance" = none) (hg : Gl X "isinstance") (hT : TyOf X y cv)
    (T : ∀ q ∈ tb, ∀ C, X.mg q.1 = some (.ref C) → IsF X.K C ∧ PySem.W.kitOne X.K (.ref C) cv = some q.2)
    (hd : (x == ("__debug__" : Str)) = false := by decide) (hcd : (x == ("__classdict__" : Str)) = false := by decide)
    (he : starEach [.Name x p, .Name y p2] X.env = (false, eval (.Name x p) X.env) :: starEach [.Name y p2] X.env := by rfl) (he2 : starEach [.Name y p2] X.env = (false, eval (.Name y p2) X.env) :: starEach [] X.env := by rfl) (hpl : (backTo pos (starEach [.Name y p2] X.env)).any (·.1) = false := by rfl)
    (htr : ∀ whole, isTrue (.Call (.Name "isinstance" p3) [.Name x p, .Name y p2] [] pos) X.env whole = (do let v ← whole; standAt pos; holding [v] (truthy v)) := by intro _; rfl) :
    EvHT X i (.Call (.Name "isinstance" p3) [.Name x p, .Name y p2] [] pos) (hIs tb) := fun a oe cls dd pn hz hf => by
  by_cases hc : ∃ c b C, (c, b) ∈ tb ∧ X.mg c = some (.ref C) ∧ cls = .ref C ∧ ∃ d2, dd = some d2
  · obtain ⟨c, b, C, hco, hmc, ec, d2, ed⟩ := hc
    subst ec
    subst ed
    obtain ⟨T1, T2⟩ := T (c, b) hco C hmc
    obtain ⟨v, hv1, hv2⟩ := TyOf.pe (Y := X.suite a ((a, oe) :: pn)) (p2 := p2) hT
    refine PT.imp (pt_val (X := X.suite a ((a, oe) :: pn)) (pe_callB (call_isX T1 hz hf) hg hm (by decide +kernel) (pa_cons (pe_var (X := X.suite a ((a, oe) :: pn)) hN hv hd hcd) (pa_cons hv2 pa_nil he2) he) (by decide) (by decide) he hpl) htr) fun σ H Q ⟨W, e, bv, ⟨hs, C', d3, ws, q1, q2, q3, q4, q5, q6⟩, eh, q⟩ => ?_
    have ec : C = C' := by injection q2
    subst ec
    have ed : d2 = d3 := by injection q3
    subst ed
    obtain ⟨_, T3⟩ := T _ (lookup_mem eh) C q1
    exact ⟨.ref a, hs, v, cv, bv, ws, rfl, hv1, T3, q5, bv, rfl, q W H GrowC.refl⟩
  · refine PT.imp (t := fun _ _ _ => False) ⟨fun _ _ _ _ _ _ z => z.elim⟩ fun σ H Q ⟨W, e, dv, ⟨hs, C', d2, ws, q1, q2, q3, q4, q5, q6⟩, eh, q⟩ => ?_
    exact hc ⟨e.cls, dv, C', lookup_mem eh, q1, q2, d2, q3⟩
end
end Mv
set_option Elab.async false
set_option linter.all false
set_option maxRecDepth 100000
set_option maxHeartbeats 2000000
/-! Mv12: handlers' tests and suites; try as a statement. -/
namespace Mv
open PySem PySem.Spec PyProof.Rows L2
section
variable {X : Cx} {U : WX} {i : Nat} {x : Str} {p pos pos2 : Pos} {e a b c : Expr} {rest : List Stmt} {es : List Expr} {h h1 h2 : Exn → Option D} {hc ha hb : Exn → Option Bool}
def hAnd (ha hb : Exn → Option Bool) : Exn → Option Bool := fun e => (ha e).bind fun k => if k then hb e else some false
theorem eht_and (h1 : EvHT X i a ha) (h2 : EvHT X i b hb) : EvHT X i (.BoolOp .And [a, b] pos) (hAnd ha hb) := fun ad oe cls dd pn hz hf =>
  PT.imp (PW.pt (pw_and (h1 ad oe cls dd pn hz hf) (pw_and1 (h2 ad oe cls dd pn hz hf)))) fun σ H Q ⟨W, ex, k, hx, eh, q⟩ => by
    unfold hAnd at eh
    obtain ⟨k1, e1, eh⟩ := Option.bind_eq_some_iff.mp eh
    refine ⟨W, ex, k1, hx, e1, fun W1 H1 g1 => ?_⟩
    cases k1 with
    | true =>
      rw [if_pos rfl] at eh ⊢
      exact ⟨W1, ex, k, hx.grow g1.gr, eh, fun W2 H2 g2 => q W2 H2 (g1.trans g2)⟩
    | false =>
      rw [if_neg Bool.false_ne_true] at eh ⊢
      cases eh
      exact q W1 H1 g1
def hIf (hc : Exn → Option Bool) (h1 h2 : Exn → Option D) : Exn → Option D := fun e => (hc e).bind fun k => if k then h1 e else h2 e
theorem eh_if (ht : EvHT X i c hc) (he1 : EvH X i a h1) (he2 : EvH X i b h2) : EvH X i (.IfExp c a b pos) (hIf hc h1 h2) := fun ad oe cls dd pn hz hf =>
  PE.imp (pe_ifExp (ht ad oe cls dd pn hz hf) (he1 ad oe cls dd pn hz hf) (he2 ad oe cls dd pn hz hf)) fun σ H Q ⟨W, ex, dv, hx, eh, q⟩ => by
    unfold hIf at eh
    obtain ⟨k1, e1, eh⟩ := Option.bind_eq_some_iff.mp eh
    refine ⟨W, ex, k1, hx, e1, fun W1 H1 g1 => ?_⟩
    cases k1 with
    | true =>
      rw [if_pos rfl] at eh ⊢
      exact ⟨W1, ex, dv, hx.grow g1.gr, eh, fun v W2 H2 g2 => q v W2 H2 (g1.trans g2)⟩
    | false =>
      rw [if_neg Bool.false_ne_true] at eh ⊢
      exact ⟨W1, ex, dv, hx.grow g1.gr, eh, fun v W2 H2 g2 => q v W2 H2 (g1.trans g2)⟩
theorem ehs_ret (he : EvH X i e h) : EvHS X i [.Return (some e) pos] h := fun ad oe cls dd pn hz hf =>
  PSs.imp (pss_one (ps_ret (he ad oe cls dd pn hz hf))) fun E σ H q => q
theorem ehs_if {s1 : List Stmt} (ht : EvHT X i c hc) (hs1 : EvHS X i s1 h1) (hs2 : EvHS X i rest h2) : EvHS X i (.If c s1 [] pos :: rest) (hIf hc h1 h2) := fun ad oe cls dd pn hz hf =>
  PSs.imp (pss_cons (ps_if (ht ad oe cls dd pn hz hf) (hs1 ad oe cls dd pn hz hf) pss_nil) (hs2 ad oe cls dd pn hz hf)) fun E σ H ⟨W, ex, dv, hx, eh, q⟩ => by
    unfold hIf at eh
    obtain ⟨k1, e1, eh⟩ := Option.bind_eq_some_iff.mp eh
    refine ⟨W, ex, k1, hx, e1, fun W1 H1 g1 => ?_⟩
    cases k1 with
    | true =>
      rw [if_pos rfl] at eh ⊢
      exact ⟨W1, ex, dv, hx.grow g1.gr, eh, fun v W2 H2 g2 => q v W2 H2 (g1.trans g2)⟩
    | false =>
      rw [if_neg Bool.false_ne_true] at eh ⊢
      exact ⟨W1, ex, dv, hx.grow g1.gr, eh, fun v W2 H2 g2 => q v W2 H2 (g1.trans g2)⟩

/-! ### try -/
structure HdM where
  slot : Option Nat
  tb : List (Str × Bool)
  h : Exn → Option D
def slotIn (o : Option Nat) (s : S) : Bool := match o with
  | some i => decide (i < s.sl.length)
  | none => true
def handle : List HdM → Exn → S → RS
  | [], e, s => .ex e s
  | m :: r, e, s => match m.tb.lookup e.cls with
    | some true => if slotIn m.slot s = true then (match m.h e with
      | some d => .rt d s
      | none => .stuck) else .stuck
    | some false => handle r e s
    | none => .stuck
def sTry (m : SM) (hs : List HdM) : SM := fun s => match m s with
  | .ex e s1 => handle hs e s1
  | r => r
def Catches (X : Cx) (c : Value) (tb : List (Str × Bool)) : Prop := ∀ q ∈ tb, ∀ C, X.mg q.1 = some (.ref C) → PySem.W.exmOne X.K (.ref C) c = some q.2
inductive HdsM (X : Cx) : List ExceptHandler → List HdM → Prop
  | nil : HdsM X [] []
  | cons0 {x : Str} {c : Value} {np pos' : Pos} {hds : List ExceptHandler} {l : List HdM} {tb : List (Str × Bool)} {e : Expr} {d : D} {v : V} {pos : Pos} (hc : Names X x c) (ht : Catches X c tb)
      (he : ∀ a pn, PE (X.suite a pn) e (tC v)) (rp : ∀ W H, Rp (kg X) W H d v) (r : HdsM X hds l) : HdsM X (.ExceptHandler (some (.Name x np)) none [.Return (some e) pos] pos' :: hds) (⟨none, tb, hC d⟩ :: l)
  | consN {x n : Str} {i : Nat} {c : Value} {b₀ : Stmt} {suite : List Stmt} {np pos' : Pos} {hds : List ExceptHandler} {l : List HdM} {tb : List (Str × Bool)} {h : Exn → Option D} (hc : Names X x c) (ht : Catches X c tb) (hi : X.N[i]? = some n) (hln : X.env.kindOf n = some .local)
      (hsu : EvHS X i (b₀ :: suite) h) (r : HdsM X hds l) : HdsM X (.ExceptHandler (some (.Name x np)) (some n) (b₀ :: suite) pos' :: hds) (⟨some i, tb, h⟩ :: l)
theorem Kp.ofGrowC {W W' : Wd} {H H' : Hp} (g : GrowC W H W' H') : Kp W H W' H' := g.gr.kp
theorem HdsM.to {hds : List ExceptHandler} {l : List HdM} (hh : HdsM X hds l) : ∃ l' : List Hd, HdsA X hds l' ∧ ∀ (e : Exn) (s : S) (W : Wd) (H : Hp) (σ : L2.St) (cls : Value) (d : Option Addr) (E : Ends), SRep (kg X) s W σ H → ExnR (kg X) W H e cls d → PostS (kg X) U W H (handle l e s) E → wManyA X.K U E l' cls d σ H := by
  induction hh with
  | nil => exact ⟨[], .nil, fun e s W H σ cls d E sr er h => h cls d W σ H StepS.refl sr er⟩
  | @cons0 x c np pos' hds l tb ex dv v pos hc ht he rp r ih =>
    obtain ⟨l', hl', go⟩ := ih
    refine ⟨⟨c, none, fun a cls d => tRet (tC v)⟩ :: l', .cons0 hc (fun a oe cls d pn hz hf => pss_one (ps_ret (he a _))) hl', fun e s W H σ cls d E sr er h => ?_⟩
    obtain ⟨C, dd, ws, q1, q2, q3⟩ := id er
    unfold handle at h
    cases eb : tb.lookup e.cls with
    | none => rw [eb] at h; exact h.elim
    | some b =>
      rw [eb] at h
      refine ⟨b, by rw [q2]; exact ht _ (lookup_mem eb) C q1, fun hb a na => ?_, fun hb => ?_⟩
      · subst hb
        rw [if_pos (show slotIn none s = true from rfl)] at h
        exact h v W σ H StepS.refl sr (rp W H)
      · subst hb
        exact go e s W H σ cls d E sr er h
  | @consN x n i c b₀ suite np pos' hds l tb hm hc ht hi hln hsu r ih =>
    obtain ⟨l', hl', go⟩ := ih
    refine ⟨⟨c, some i, fun a cls d => tHS (kg X) i a cls d hm⟩ :: l', .consN hc hi hln hsu hl', fun e s W H σ cls d E sr er h => ?_⟩
    obtain ⟨C, dd, ws, q1, q2, q3⟩ := id er
    unfold handle at h
    cases eb : tb.lookup e.cls with
    | none => rw [eb] at h; exact h.elim
    | some b =>
      rw [eb] at h
      refine ⟨b, by rw [q2]; exact ht _ (lookup_mem eb) C q1, fun hb a na => ?_, fun hb => ?_⟩
      · subst hb
        dsimp only at h
        split at h
        · rename_i hl
          cases ed : hm e with
          | none => rw [ed] at h; exact h.elim
          | some dv =>
            rw [ed] at h
            refine ⟨W, e, dv, ⟨?_, er⟩, ed, fun v W' H' gr rp => h v W' σ H' gr.gr.step.stmt (sr.grow gr) rp⟩
            rw [List.getElem?_set_self (by rw [← sr.len]; exact of_decide_eq_true hl)]
        · exact h.elim
      · subst hb
        exact go e s W H σ cls d E sr er h
theorem es_try {body : List Stmt} {h₀ : ExceptHandler} {hds : List ExceptHandler} {m : SM} {l : List HdM} (hN : X.N.Nodup) (hs : X.stack = X.env :: X.outer) (hf : X.env.frame = some X.env.locals) (tk : Takes X U)
    (hb : ∀ (W : WX) (pn : List (Addr × Obj)) (xe : Value → Shared → Prop), Takes (X.tr pn xe) W → PassesOwn (model X.prog X.w) X.A X.env xe → EvSs (X.tr pn xe) W body m) (hh : HdsM X (h₀ :: hds) l) :
    EvS X U (.Try body (h₀ :: hds) [] [] pos) (sTry m l) := by
  obtain ⟨l', hl', go⟩ := hh.to (U := U)
  refine PS.imp (ps_try_manyA (tb := fun W => tS (kg X) W m) hN hs hf tk hb hl') fun E σ H ⟨s, W, sr, h⟩ => ⟨s, W, sr, ?_⟩
  unfold sTry at h
  cases e1 : m s with
  | nx s1 => rw [e1] at h; exact h
  | rt d s1 => rw [e1] at h; exact h
  | bk s1 => rw [e1] at h; exact h
  | ct s1 => rw [e1] at h; exact h
  | stuck => rw [e1] at h; exact h
  | ex e s1 =>
    rw [e1] at h
    exact fun cls dd W' σ' H' st sr' er => go e s1 W' H' σ' cls dd E sr' er (PostS.step st h)
end
end Mv
set_option Elab.async false
set_option linter.all false
set_option maxRecDepth 100000
set_option maxHeartbeats 4000000
/-! Mv13: enumerate over a list or a tuple; the module's constants. -/
namespace PySem
open Sem (wp)
theorem mv_enum_newB {v : Value} {o : Obj} {H : Heap → Prop} (B : Begins v o H) :
    Meets (Builtin.«enumerate.__new__» ⟨[.type "enumerate", v], []⟩) (fun _ R s => H s.heap ∧
      R (.ok (.ret (.ref (s.heap.push o).objs.size))) { s with heap := (s.heap.push o).push { cls := .type "enumerate", data := .fields #[.none, .bool false, .ref s.heap.objs.size, rawInt 0, .none, .none] } }) :=
  .of_wp fun prog w A R s h => by
    obtain ⟨hp, g, d, tk, os⟩ := s; obtain ⟨h1, h⟩ := h
    have hsub := sub_enumerate
    have q1 : ∀ {A' : Around} {E : Value → Shared → Prop} {Q : Value → Shared → Prop}, Q (.ref hp.objs.size) ⟨hp.push o, g, d, tk, os⟩ → wpAny (model prog w) A' (pyIter v) Q E ⟨hp, g, d, tk, os⟩ :=
      fun q => B.iter prog w _ _ ⟨hp, g, d, tk, os⟩ _ h1 q
    wp_walk using q1
    refine wpAny_stack_any fun st => wpAny_pure ?_
    split
    · rename_i c _ _ _ _ _
      cases (c == Value.type "enumerate")
      · wp_walk using q1
        exact ⟨_, rfl, h⟩
      · wp_walk using q1
        exact ⟨_, rfl, h⟩
    · wp_walk using q1
      exact ⟨_, rfl, h⟩
section
variable {prog : Program} {w : World} {A : Around} {E : Value → Shared → Prop} {s : Shared}
theorem mv_call_enum {v : Value} {o : Obj} {H : Heap → Prop} {Q : Value → Shared → Prop} (B : Begins v o H) (h1 : H s.heap)
    (h : ∀ h', IsEnum h' (s.heap.objs.size + 1) s.heap.objs.size 0 .none → h'.get? s.heap.objs.size = some o → h'.objs.size = s.heap.objs.size + 2 →
      (∀ b o, s.heap.get? b = some o → h'.get? b = some o) → Q (.ref (s.heap.objs.size + 1)) { s with heap := h' }) :
    wpAny (model prog w) A (call (.type "enumerate") [v]) Q E s := by
  refine callType_new F.called_enumerate (by decide) (F.typeCall_enumerate_1 _) (F.newCall_enumerate_1 _) (fun obj => F.args_object_init_2 obj _) F.entry_enumerate_new
    (mv_enum_newB B) ⟨h1, ?_⟩
  have hz : (s.heap.push o).objs.size = s.heap.objs.size + 1 := Heap.size_push ..
  show _ ∧ _
  rw [hz]
  have he : IsEnum ((s.heap.push o).push { cls := .type "enumerate", data := .fields #[.none, .bool false, .ref s.heap.objs.size, rawInt 0, .none, .none] }) (s.heap.objs.size + 1) s.heap.objs.size 0 .none := by
    have := Heap.get?_push_size (s.heap.push o) (o := { cls := .type "enumerate", data := .fields #[.none, .bool false, .ref s.heap.objs.size, rawInt 0, .none, .none] }) rfl
    rw [hz] at this; exact this
  refine ⟨⟨_, he, rfl⟩, h _ he (Heap.get?_push_of_some _ (Heap.get?_push_size _ B.free)) (by rw [Heap.size_push, hz]) fun b o x => Heap.get?_push_of_some _ (Heap.get?_push_of_some _ x)⟩
end
end PySem
namespace Mv
open PySem PySem.Spec PyProof.Rows L2

/-- enumerate over the tuple at a -/
def Itet (K : PySem.W.Frag) (a : Addr) : It :=
  ⟨fun i H => ∃ (xs : List V) (x : V), SqT K H a xs ∧ xs[i]? = some x, fun i H v H' => ∃ T x, v = .ref T ∧ H T = none ∧ H' = upd H T (.tup [.int (i : Nat), x]) ∧ ∀ xs, SqT K H a xs → xs[i]? = some x, fun i H => ∃ xs : List V, SqT K H a xs ∧ xs.length = i⟩
theorem turn_enumT {P : Program} {w : World} {K : PySem.W.Frag} {elts : List Expr} {kk : Nat} {tpos : Pos} (a e it : Addr) :
    Turn P w K (.Tuple elts kk tpos) (Itet K a) [e, it] e (fun i h => (∃ old, IsEnum h e it ((i : Nat) : Int) old) ∧ h.IsTupleIter it a i ∧ e ≠ it ∧ a ≠ it ∧ a ≠ e) where
  mem := by simp
  obj := fun i h st b hb => by
    obtain ⟨⟨old, he⟩, ⟨o, ho, hc, hd⟩, _⟩ := st
    have e' : b = e ∨ b = it := by simpa using hb
    rcases e' with z | z
    · rw [z]; exact ⟨_, he, fun v q => nomatch q⟩
    · rw [z]; exact ⟨o, ho, fun v q => by rw [hd] at q; cases q⟩
  keep := fun i h h' st k => let ⟨⟨old, he⟩, hi, hne⟩ := st; ⟨⟨old, k e (by simp) _ he⟩, hi.at fun o q => k it (by simp) o q, hne⟩
  item := by
    intro X hP hw hK hc i pins s σ H E I hf st hg
    subst hP hw hK
    obtain ⟨⟨old, he⟩, hit, hne, hai, hae⟩ := st
    obtain ⟨xs, x, hq, hx⟩ := hg
    obtain ⟨its, rv, p, hz⟩ := I.tuple hq
    obtain ⟨u, hu, ru⟩ := rv.get hx
    have hel : e < s.heap.objs.size := Heap.lt_size he
    have hil : it < s.heap.objs.size := by obtain ⟨_, q, _⟩ := hit; exact Heap.lt_size q
    have hlt : i < its.toArray.size := by
      have := (List.getElem?_eq_some_iff.mp hu).1
      simpa using this
    refine wpAny_pyNext_enum_itemD (Draws.tuple (A := X.A.in1) (by show X.A.handled = none; exact I.ok.hd hc) it a hai its.toArray) he ⟨hit, show s.heap.IsTuple a its.toArray from p⟩ hlt hne (by simpa using ⟨hne, Ne.symm hae⟩) fun y h' tk hy ho hs' hT hsz hk => ?_
    have ey : y = u := by
      have : its.toArray[i]? = some u := by simpa using hu
      rw [this] at hy
      exact (Option.some.inj hy).symm
    subst ey
    obtain ⟨hit', hT'⟩ := hs'
    refine ⟨_, rfl, wpAny_letOwnedTupleGo_enum (s := { s with heap := h', toks := tk + 1 }) ho fun h'' he' sb => ?_⟩
    have hT2 : h''.get? s.heap.objs.size = some { cls := .type "tuple", data := .seq #[.int i tk, y] } := (sb.2 _ (Nat.ne_of_gt hel)).trans hT
    have new : ObjOk X.prog X.w (upd H s.heap.objs.size (.tup [.int (i : Nat), x])) h'' s.heap.objs.size (.tup [.int (i : Nat), x]) :=
      ⟨by show 2 ≤ sizeLine; decide, [.int i tk, y], .cons ⟨_, rfl⟩ (.cons ru .nil), ⟨_, hT2, rfl, _, rfl⟩⟩
    have I1 : Inv X pins σ (upd H s.heap.objs.size (.tup [.int (i : Nat), x])) { s with heap := h'', toks := tk + 1 } :=
      I.turnedNew (ch := [e, it]) (fun b ob hb q => (sb.2 b (fun z => hb (by simp [z]))).trans (hk b ob (fun z => hb (by simp [z])) (fun z => hb (by simp [z])) q)) hf (Nat.le_refl _) new
    refine ⟨.ref s.heap.objs.size, _, I1, rfl, ⟨_, x, rfl, I.hok.fresh (Nat.le_refl _), rfl, fun ys hy => by rw [I.tuple_inj hy hq]; exact hx⟩, ⟨⟨y, ?_⟩, hit'.at fun o q => (sb.2 it (Ne.symm hne)).trans q, hne, hai, hae⟩, fun b hb => ?_⟩
    · have e1 : ((i + 1 : Nat) : Int) = (i : Int) + 1 := by omega
      rw [e1]; exact he'
    · have hb' : b < s.heap.objs.size := by
        have e' : b = e ∨ b = it := by simpa using hb
        rcases e' with z | z
        · rw [z]; exact hel
        · rw [z]; exact hil
      rw [upd_ne (Nat.ne_of_lt hb')]
      exact (hf b hb).1
  done := by
    intro X hP hw hK hc i pins s σ H E I hf st hg
    subst hP hw hK
    obtain ⟨⟨old, he⟩, hit, hne, hai, hae⟩ := st
    obtain ⟨xs, hq, hx⟩ := hg
    obtain ⟨its, rv, p, hz⟩ := I.tuple hq
    obtain ⟨f0, f1, f2, f3, f4, f5⟩ := hf it (by simp)
    have hl := rv.length
    have hi : i = its.toArray.size := by simp; omega
    subst hi
    exact wpAny_pyNext_enum_endD (Draws.tuple (A := X.A.in1) (by show X.A.handled = none; exact I.ok.hd hc) it a hai its.toArray) he ⟨hit, show s.heap.IsTuple a its.toArray from p⟩ fun h' eb => ⟨rfl, I.turned (t' := s.toks) (fun b o hb q => eb b o hb q) f0 f1 f3 f4 f5⟩
  self := fun A i s Q E st h => let ⟨⟨_, he⟩, _⟩ := st; wpAny_pyIter_enum he h

theorem pi_enumA {X : Cx} {e : Expr} {te : TE} {p pos tpos : Pos} {elts : List Expr} {kk : Nat} (hg : Gl X "enumerate") (hm : X.mg "enumerate" = none) (he : PE X e te) (hs : starEach [e] X.env = [(false, eval e X.env)] := by rfl) :
    PI X (.Tuple elts kk tpos) (.Call (.Name "enumerate" p) [e] [] pos) (fun σ H R => te σ H fun x H1 => ∃ a, x = .ref a ∧ (((∃ xs, SqL X.K H1 a xs) ∧ R (Ite X.K a) H1) ∨ ((∃ xs, SqT X.K H1 a xs) ∧ R (Itet X.K a) H1))) := by
  refine ⟨fun pins s σ H R I h => ?_⟩
  have ha : PA X [e] (tCons te tNil) := pa_cons he pa_nil (by rw [hs]; rfl)
  have h' : tCons te tNil σ H (fun vs H1 => match vs with
      | [x] => ∃ a, x = .ref a ∧ (((∃ xs, SqL X.K H1 a xs) ∧ R (Ite X.K a) H1) ∨ ((∃ xs, SqT X.K H1 a xs) ∧ R (Itet X.K a) H1))
      | _ => False) := h
  refine Call_ (ld_blt I hg hm boot_enumerate (PyProof.Rows.callWith_type1 (thn (ha.run pos pins s σ H _ I h') fun us s1 ⟨vs, H1, I1, r1, q1⟩ => ?_) hs rfl))
  cases r1 with
  | nil => exact q1.elim
  | cons r rr =>
    cases rr with
    | cons _ _ => exact q1.elim
    | nil =>
    obtain ⟨a, ex, q⟩ := q1
    subst ex
    cases r
    have fpOk : ∀ b ∈ [s1.heap.objs.size + 1, s1.heap.objs.size], s1.heap.objs.size ≤ b := fun b hb => by
      have e' : b = s1.heap.objs.size + 1 ∨ b = s1.heap.objs.size := by simpa using hb
      rcases e' with z | z
      · rw [z]; exact Nat.le_add_right _ _
      · rw [z]; exact Nat.le_refl _
    rcases q with ⟨⟨xs, hq⟩, q⟩ | ⟨⟨xs, hq⟩, q⟩
    · obtain ⟨its, rv, p', hz⟩ := I1.list hq
      refine call_enumerate_list p'.isList fun h' he hit hsz hk => wpAny_pyIter_enum he ?_
      have I2 : Inv X pins σ H1 { s1 with heap := h' } := I1.kept (t' := s1.toks) hk
      exact ⟨s1.heap.objs.size + 1, [s1.heap.objs.size + 1, s1.heap.objs.size], _, _, H1, rfl, I2, turn_enum a (s1.heap.objs.size + 1) s1.heap.objs.size, ⟨⟨.none, he⟩, hit, Nat.succ_ne_self _⟩, fun b hb => I1.fpOk (fpOk b hb) (I1.hok.fresh (fpOk b hb)), q⟩
    · obtain ⟨its, rv, p', hz⟩ := I1.tuple hq
      have ht : s1.heap.IsTuple a its.toArray := p'
      have hal : a < s1.heap.objs.size := by obtain ⟨o, ho, _⟩ := ht; exact Heap.lt_size ho
      refine mv_call_enum (begins_tuple a its.toArray) ht fun h' he hit hsz hk => wpAny_pyIter_enum he ?_
      have I2 : Inv X pins σ H1 { s1 with heap := h' } := I1.kept (t' := s1.toks) hk
      exact ⟨s1.heap.objs.size + 1, [s1.heap.objs.size + 1, s1.heap.objs.size], _, _, H1, rfl, I2, turn_enumT a (s1.heap.objs.size + 1) s1.heap.objs.size, ⟨⟨.none, he⟩, ⟨_, hit, rfl, rfl⟩, Nat.succ_ne_self _, Nat.ne_of_lt hal, Nat.ne_of_lt (Nat.lt_succ_of_lt hal)⟩, fun b hb => I1.fpOk (fpOk b hb) (I1.hok.fresh (fpOk b hb)), q⟩

def enumD (ds : List D) : List D := ds.zipIdx.map fun (p : D × Nat) => .tup [.int (p.2 : Nat), p.1]
theorem enumD_at {ds : List D} {i : Nat} {d : D} (h : ds[i]? = some d) : (enumD ds)[i]? = some (.tup [.int (i : Nat), d]) := by
  unfold enumD
  rw [List.getElem?_map, List.getElem?_zipIdx, h]
  simp
theorem enumD_length (ds : List D) : (enumD ds).length = ds.length := by simp [enumD]
theorem it_pair {g : Kg} {Rel : Wd → Hp → Wd → Hp → Prop} {W : Wd} {H : Hp} {ds : List D} {vs : List V} {J : It} {G : Hp → Prop} (wk : Walk J vs.length G (YPair (fun i => some (.int (i : Nat))) (fun i => vs[i]?))) (hl : ds.length = vs.length)
    (hG : ∀ W' H', Rel W H W' H' → G H') (rl : ∀ W' H', Rel W H W' H' → RpL g W' H' ds vs) : ItOf g Rel W H (enumD ds) J := by
  refine ⟨G, _, by rw [enumD_length, hl]; exact wk, hG, fun i H1 W1 x H2 hi r y => ?_⟩
  obtain ⟨T, a, b, e1, e2, e3, e4, e5⟩ := y
  subst e1 e3
  cases e4
  rw [enumD_length] at hi
  obtain ⟨d, ed⟩ : ∃ d, ds[i]? = some d := ⟨_, List.getElem?_eq_getElem hi⟩
  obtain ⟨v, ev, rv⟩ := (rl W1 _ r).get ed
  have e6 : vs[i]? = some b := e5
  rw [e6] at ev
  cases ev
  have gr : GrowC W1 H1 (W1.set T .fz) (upd H1 T (.tup [.int (i : Nat), b])) := grow_new e2 (fun k z => nomatch z)
  exact ⟨W1.set T .fz, _, gr, enumD_at ed, T, _, rfl, Wd.set_same, upd_same, _, _, rfl, rfl, _, _, rfl, Rp.mono gr.gr.kp d b rv, rfl⟩
theorem walk_enumT' {K : PySem.W.Frag} {a : Addr} {xs : List V} : Walk (Itet K a) xs.length (fun H => SqT K H a xs) (YPair (fun i => some (.int (i : Nat))) (fun i => xs[i]?)) := by
  refine ⟨fun i _ hi q => ⟨xs, xs[i], q, by simp [hi]⟩, fun _ q => ⟨xs, q, rfl⟩, fun i H v H' _ q y => ?_⟩
  obtain ⟨T, x, h1, h2, h3, h4⟩ := y
  exact ⟨T, .int (i : Nat), x, h1, h2, h3, rfl, h4 xs q⟩
def iEnumM (m : EM) : IM := fun s => match m s with
  | .ok d s1 => match seqD d with
    | some ds => .ok (enumD ds) s1
    | none => .stuck
  | .exc e s1 => .exc e s1
  | .stuck => .stuck
theorem enum_go {M : Md} {g : Kg} {W : Wd} {H : Hp} {d : D} {x : V} {ds : List D} {R : It → Hp → Prop} (hM : M = .e ∨ M = .b) (e : seqD d = some ds) (rp : Rm M g H W H d x) (h : ∀ J, ItOf g (relOf M) W H (enumD ds) J → R J H) :
    ∃ a, x = .ref a ∧ (((∃ xs, SqL g.K H a xs) ∧ R (Ite g.K a) H) ∨ ((∃ xs, SqT g.K H a xs) ∧ R (Itet g.K a) H)) := by
  have kpOf : ∀ {W' H'}, relOf M W H W' H' → Kp W H W' H' := fun {W' H'} r => by
    cases M with
    | e => exact r
    | b => exact Step.kp r
    | o => rcases hM with z | z <;> cases z
  have tupRp : ∀ {ds}, Rm M g H W H (.tup ds) x → Rp g W H (.tup ds) x := fun r => by
    cases M with
    | e => exact r
    | b => exact r
    | o => rcases hM with z | z <;> cases z
  have ktpRp : ∀ {ds}, Rm M g H W H (.ktp ds) x → Rp g W H (.ktp ds) x := fun r => by
    cases M with
    | e => exact r
    | b => exact r
    | o => rcases hM with z | z <;> cases z
  cases d with
  | lst es =>
    simp only [seqD] at e
    have ee : es = ds := Option.some.inj e
    subst ee
    have : ∃ a vs, x = .ref a ∧ H a = some (.lst vs) ∧ (∀ W' H', relOf M W H W' H' → H' a = some (.lst vs)) ∧ RpL g W H es vs := by
      cases M with
      | e =>
        obtain ⟨a, vs, ex, h1, h2, h3⟩ := rp
        exact ⟨a, vs, ex, h2, fun W' H' r => ((r a _ h2).1 h1).2, h3⟩
      | b =>
        obtain ⟨a, vs, ex, nc, h2, h3⟩ := rp
        exact ⟨a, vs, ex, h2, fun W' H' r => (r a _ h2).1 nc, h3⟩
      | o => rcases hM with z | z <;> cases z
    obtain ⟨a, vs, ex, h2, hk, h3⟩ := this
    refine ⟨a, ex, .inl ⟨⟨vs, SqL.of h2⟩, h _ ?_⟩⟩
    exact it_pair walk_enum h3.length (fun W' H' r => SqL.of (hk W' H' r)) fun W' H' r => RpL.mono (kpOf r) _ _ h3
  | tup es =>
    simp only [seqD] at e
    cases e
    obtain ⟨a, vs, ex, h1, h2, h3⟩ := tupRp rp
    refine ⟨a, ex, .inr ⟨⟨vs, SqT.of h2⟩, h _ ?_⟩⟩
    exact it_pair walk_enumT' h3.length (fun W' H' r => SqT.of ((kpOf r a _ h2).1 h1).2) fun W' H' r => RpL.mono (kpOf r) _ _ h3
  | ktp es =>
    simp only [seqD] at e
    cases e
    obtain ⟨a, vs, ex, h2, h3⟩ := ktpRp rp
    refine ⟨a, ex, .inr ⟨⟨vs, h2 H⟩, h _ ?_⟩⟩
    exact it_pair walk_enumT' h3.length (fun W' H' r => h2 H') fun W' H' r => RpL.mono (kpOf r) _ _ h3
  | _ => simp only [seqD] at e; cases e
section
variable {X : Cx} {U : WX} {e : Expr} {m : EM} {p pos tpos : Pos} {elts : List Expr} {kk : Nat} {x : Str}
theorem ei_enum {M : Md} (hM : M = .e ∨ M = .b) (hg : Gl X "enumerate") (hm : X.mg "enumerate" = none) (h : EvE M X U e m) (hs : starEach [e] X.env = [(false, eval e X.env)] := by rfl) :
    EvI M X U (.Tuple elts kk tpos) (.Call (.Name "enumerate" p) [e] [] pos) (iEnumM m) := by
  refine PI.imp (pi_enumA hg hm h hs) fun σ H R ⟨s, W, sr, h⟩ => ⟨s, W, sr, ?_⟩
  unfold iEnumM at h
  cases e1 : m s with
  | stuck => rw [e1] at h; exact h
  | exc e s1 => rw [e1] at h; exact h
  | ok d s1 =>
    rw [e1] at h
    dsimp only at h
    cases es : seqD d with
    | none => rw [es] at h; exact h.elim
    | some ds =>
      rw [es] at h
      intro v W1 H1 st1 sr1 rp1
      refine enum_go (W := W1) hM es ?_ fun J hJ => h W1 H1 J st1 sr1 hJ
      cases M with
      | e => exact rp1
      | b => exact rp1
      | o => rcases hM with z | z <;> cases z

/-! ### the module's constants -/
theorem ev_gint {i : Int} (hg : Gl X x) (hm : ∃ t, X.mg x = some (.int i t)) (hd : (x == ("__debug__" : Str)) = false := by decide) : EvE .e X U (.Name x pos) (eC (.int i)) :=
  let ⟨t, h⟩ := hm
  ev_const (pe_glob hg h (v := .int i) ⟨t, rfl⟩ hd) fun _ _ => rfl
theorem ev_gstr {z : Str} (hg : Gl X x) (hm : ∃ t, X.mg x = some (.str z t)) (hd : (x == ("__debug__" : Str)) = false := by decide) : EvE .e X U (.Name x pos) (eC (.str z)) :=
  let ⟨t, h⟩ := hm
  ev_const (pe_glob hg h (v := .str z) ⟨t, rfl⟩ hd) fun _ _ => rfl
/-- a tuple of the top -/
def KTup (K : PySem.W.Frag) (mg : Str → Option Value) (x : Str) (ds : List D) : Prop := ∃ a, mg x = some (.ref a) ∧ ∀ mgg W H, Rp ⟨K, mgg⟩ W H (.ktp ds) (.ref a)
theorem ev_gtup {ds : List D} (hg : Gl X x) (hm : KTup X.K X.mg x ds) (hd : (x == ("__debug__" : Str)) = false := by decide) : EvE .e X U (.Name x pos) (eC (.ktp ds)) :=
  let ⟨a, h, r⟩ := hm
  ev_const (pe_glob hg h (v := .ref a) rfl hd) fun W H => r _ W H

/-! ### a new cell -/
def eNewC (m : EM) : EM := fun s => (m s).bind fun d s1 => match d with
  | .lst ds => .ok (.cell s1.cs.length) { s1 with cs := s1.cs ++ [.lst ds] }
  | _ => .stuck
theorem CRep.add {g : Kg} {cs : List Cell} {W : Wd} {H : Hp} {a : Addr} {c : Cell} (h : CRep g cs W H) (hw : W a = .prv) (hc : CellR g (W.set a (.cell cs.length)) H a c) : CRep g (cs ++ [c]) (W.set a (.cell cs.length)) H := by
  have n1 : W a ≠ .fz := by rw [hw]; exact fun z => nomatch z
  have n2 : ∀ k, W a ≠ .cell k := by rw [hw]; exact fun k z => nomatch z
  have key : ∀ b k, (W.set a (.cell cs.length)) b = .cell k → (b = a ∧ k = cs.length) ∨ (b ≠ a ∧ W b = .cell k) := fun b k q => by
    by_cases e : b = a
    · subst e; rw [Wd.set_same] at q; cases q; exact .inl ⟨rfl, rfl⟩
    · rw [Wd.set_ne e] at q; exact .inr ⟨e, q⟩
  refine ⟨fun k c' e => ?_, fun b b' k o u hb hb' wb wb' => ?_, fun b k o hb wb => ?_⟩
  · by_cases hk : k < cs.length
    · rw [List.getElem?_append_left hk] at e
      obtain ⟨b, p1, p2⟩ := h.at_ k c' e
      have ne : b ≠ a := fun z => n2 k (by rw [← z]; exact p1)
      exact ⟨b, (Wd.set_ne ne).trans p1, p2.mono (kp_retag n1 n2) fun _ q => q⟩
    · rw [List.getElem?_append_right (by omega)] at e
      have hk2 : k = cs.length := by
        by_cases hz : k - cs.length = 0
        · omega
        · have : ([c] : List Cell)[k - cs.length]? = none := List.getElem?_eq_none (by simp; omega)
          rw [this] at e; cases e
      subst hk2
      simp at e
      subst e
      exact ⟨a, Wd.set_same, hc⟩
  · rcases key b k wb with ⟨e1, e2⟩ | ⟨e1, e2⟩ <;> rcases key b' k wb' with ⟨e3, e4⟩ | ⟨e3, e4⟩
    · rw [e1, e3]
    · subst e2
      exact absurd (h.bnd b' _ u hb' e4) (Nat.lt_irrefl _)
    · subst e4
      exact absurd (h.bnd b _ o hb e2) (Nat.lt_irrefl _)
    · exact h.uniq b b' k o u hb hb' e2 e4
  · rw [List.length_append]
    rcases key b k wb with ⟨e1, e2⟩ | ⟨e1, e2⟩
    · subst e2; simp
    · have := h.bnd b k o hb e2
      omega
theorem ev_newC (h : EvE .o X U e m) : EvE .e X U e (eNewC m) := by
  refine PE.imp h fun σ H Q ⟨s, W, sr, h⟩ => ⟨s, W, sr, ?_⟩
  unfold eNewC at h
  cases e1 : m s with
  | stuck => rw [e1] at h; exact h
  | exc ex s1 => rw [e1] at h; exact h
  | ok d s1 =>
    rw [e1] at h
    intro v W1 H1 st sr1 rp
    cases d with
    | lst ds =>
      obtain ⟨a, vs, rfl, h0, h1, h2, h3⟩ := rp
      have n1 : W1 a ≠ .fz := by rw [h1]; exact fun z => nomatch z
      have n2 : ∀ k, W1 a ≠ .cell k := by rw [h1]; exact fun k z => nomatch z
      have kp : Kp W1 H1 (W1.set a (.cell s1.cs.length)) H1 := kp_retag n1 n2
      refine h (.ref a) (W1.set a (.cell s1.cs.length)) H1 (fun b o eb => ?_) ⟨fun i => SlotR.retag n1 n2 (by rw [h1]; exact fun z => nomatch z) (sr1.slot i), CRep.add sr1.cells h1 ⟨vs, h2, RpL.mono kp ds vs h3⟩, sr1.len⟩ ⟨a, rfl, Wd.set_same, _, h2⟩
      have ne : b ≠ a := fun z => by rw [z, h0] at eb; cases eb
      rw [Wd.set_ne ne]
      exact st b o eb
    | _ => exact h.elim
end
end Mv
set_option Elab.async false
set_option linter.all false
set_option maxRecDepth 100000
set_option maxHeartbeats 2000000
/-! Mv14: what the printed walks name. -/
namespace Mv
open PySem PySem.Spec PyProof.Rows L2
theorem _root_.L2.Room.un65 {k : Nat} {A : Around} (r : Room k A) : A.units + 65 < cLine := by have := r.un; omega
theorem FnOk.stuck {P : Program} {w : World} {K : PySem.W.Frag} {mg : Str → Option Value} {base : Heap} {CX : CXT} {k n : Nat} {f : Addr} {fd : FuncData} {ps : List Str} (hl : ps.length = n) : FnOk P w K mg base CX k f fd ps (spF ⟨K, mg⟩ n fun _ _ => .stuck) :=
  ⟨fun vs H Q E ⟨ds, cs, W, h, _⟩ => h.trans hl.symm, fun A outer s H args us vs Q E hr he hb hv ⟨ds, cs, W, h1, h2, h3, h4, h5⟩ => h5.elim⟩
abbrev FnP (K : PySem.W.Frag) (x : Str) (st : Stmt) (f : Addr) (fd : FuncData) : Prop := FunD K x x (defArgs st) (defBody st) (defScope st) [] [] f fd
theorem ExMk.mono {P : Program} {w : World} {K : PySem.W.Frag} {mg : Str → Option Value} {base : Heap} {j k : Nat} {c : Str} {fs : List Str} (h : ExMk P w K mg base j c fs) (hk : j ≤ k) : ExMk P w K mg base k c fs :=
  let ⟨C, fI, fd, ps, h1, h2, h3, h4, F, r⟩ := h.ex
  ⟨C, fI, fd, ps, h1, h2, h3, h4, F.mono hk, r⟩
theorem names_of {X : Cx} {x : Str} {c : Value} (hg : Gl X x) (hm : X.mg x = some c) (hd : (x == ("__debug__" : Str)) = false := by decide) : Names X x c := ⟨hg, hd, .inl hm⟩
theorem tyOf_ref {X : Cx} {x : Str} {C : Addr} (hg : Gl X x) (hm : X.mg x = some (.ref C)) (hd : (x == ("__debug__" : Str)) = false := by decide) : TyOf X x (.ref C) := ⟨hg, hd, .inl ⟨C, rfl, hm⟩⟩
theorem tyOf_ve {X : Cx} (hg : Gl X "ValueError") (hm : X.mg "ValueError" = none) : TyOf X "ValueError" (.type "ValueError") := ⟨hg, by decide, .inr ⟨"ValueError", rfl, hm, by decide +kernel, by decide⟩⟩
/-- a comprehension's names, looked through -/
def blkB (N : List Str) (sc scope : Scope) (own : List (Str × Nat)) : Bool :=
  decide (scope.kind = .function) && scope.names.all (fun y => decide (scope.names.lookup y.1 = some y.2)) && own.all (fun p => decide (N[p.2]? = some p.1)) &&
    scope.names.all (fun y => !decide (y.2 = .free) || decide (sc.names.lookup y.1 = some .cell) || decide (sc.names.lookup y.1 = some .free)) &&
    scope.names.all (fun y => !(decide (y.2 = .local) || decide (y.2 = .cell)) || decide (y.1 ∈ own.map (·.1)) || decide (y.1 ∉ N))
theorem blkOk_of {N : List Str} {sc scope : Scope} {own : List (Str × Nat)} (h : blkB N sc scope own = true) : BlkOk N sc scope own := by
  unfold blkB at h
  simp only [Bool.and_eq_true, decide_eq_true_eq, List.all_eq_true, Bool.or_eq_true, Bool.not_eq_true', decide_eq_false_iff_not, Bool.or_eq_false_iff] at h
  obtain ⟨⟨⟨⟨h1, h2⟩, h3⟩, h4⟩, h5⟩ := h
  refine ⟨h1, h2, h3, fun y hy e => ?_, fun y hy e => ?_⟩
  · rcases h4 y hy with (h | h) | h
    · exact absurd e h
    · exact .inl h
    · exact .inr h
  · rcases h5 y hy with (h | h) | h
    · rcases e with e | e
      · exact absurd e h.1
      · exact absurd e h.2
    · exact .inl h
    · exact .inr h
theorem po_cx {P : Program} {w : World} {K : PySem.W.Frag} {mg : Str → Option Value} {base : Heap} {N : List Str} {qual : Str} {scope : Scope} {f : Addr} {cdv : Value} {A : Around} {outer : List Env} {s : Shared} {H : Hp} {E : XK} :
    PassesOwn (model (cxOf (L2.CX P w) P w K mg base N qual scope f cdv A outer s H E).prog (cxOf (L2.CX P w) P w K mg base N qual scope f cdv A outer s H E).w) (cxOf (L2.CX P w) P w K mg base N qual scope f cdv A outer s H E).A (cxOf (L2.CX P w) P w K mg base N qual scope f cdv A outer s H E).env (cxOf (L2.CX P w) P w K mg base N qual scope f cdv A outer s H E).xe := passes_of rfl
theorem tk_cx {P : Program} {w : World} {K : PySem.W.Frag} {mg : Str → Option Value} {base : Heap} {N : List Str} {qual : Str} {scope : Scope} {f : Addr} {cdv : Value} {A : Around} {outer : List Env} {s : Shared} {H : Hp} {E : XK} :
    Takes (cxOf (L2.CX P w) P w K mg base N qual scope f cdv A outer s H E) (UE E) := takes_of rfl rfl rfl rfl
/-- a class's body -/
def clsB : Stmt → List Stmt
  | .ClassDef (body := b) .. => b
  | _ => []
end Mv
set_option Elab.async false
set_option linter.all false
set_option maxRecDepth 100000
set_option maxHeartbeats 2000000
/-! Mv15: the head's facts of exception classes; the end. -/
namespace Mv
open PySem PySem.Spec PyProof.Rows L2
section
variable {K : PySem.W.Frag}
def oexB (K : PySem.W.Frag) (C : Addr) : Bool := (match K.lookup C with
  | some ⟨.type t, _, .cls cd, sl⟩ => decide (t = "type") && cd.hasDict && !cd.hasDel && (match cd.mro, sl.toList with
    | .ref C' :: bm, [_, _, _, _, some (.builtin n), _] => decide (C' = C) && decide (n = "ValueError.__new__") && PySem.HandSPX.refsVE bm
    | _, _ => false)
  | _ => false) && decide (PySem.W.findIn K (.ref C) "__setattr__" = some (some (.builtin "object.__setattr__"))) && decide (PySem.W.subIn K (.ref C) (.type "BaseException") = some true) &&
    decide (PySem.W.typeIn K (.ref C) = some (.type "type")) && PySem.W.keepIn K (.ref C)
theorem oexB_ok {C : Addr} (h : oexB K C = true) : OexC K C := by
  unfold oexB at h
  simp only [Bool.and_eq_true, decide_eq_true_eq] at h
  obtain ⟨⟨⟨⟨h1, h2⟩, h3⟩, h4⟩, h5⟩ := h
  refine ⟨?_, h2, h3, h4, h5⟩
  split at h1
  · rename_i t dd cd sl ho
    simp only [Bool.and_eq_true, decide_eq_true_eq, Bool.not_eq_true'] at h1
    obtain ⟨⟨⟨rfl, hd⟩, hdel⟩, h1⟩ := h1
    split at h1
    · rename_i C' bm k0 k1 k2 k3 n k5 hm hs
      simp only [Bool.and_eq_true, decide_eq_true_eq] at h1
      obtain ⟨⟨rfl, rfl⟩, hr⟩ := h1
      obtain ⟨nm, bs, mro, ns, qn, hd', sn, sub, ab, col, del⟩ := cd
      dsimp only at hm hdel hd
      subst hm hdel hd
      have hsl : sl = #[k0, k1, k2, k3, some (.builtin "ValueError.__new__"), k5] := by
        obtain ⟨l⟩ := sl
        simp only at hs
        rw [hs]
      subst hsl
      exact ⟨nm, qn, ns, bs, bm, sn, sub, ab, col, dd, k0, k1, k2, k3, k5, ho, hr⟩
    · cases h1
  · cases h1
/-- an exception class with its own __init__ and these fields -/
def excB (c : Str) (fs : List Str) (K : PySem.W.Frag) : Bool := oexB K (He.ga K c) && fs.all (fun f => decide (PySem.W.findIn K (.ref (He.ga K c)) f = some none)) &&
  decide (PySem.W.findIn K (.ref (He.ga K c)) "__init__" = some (some (.ref (He.ma K (He.ga K c) "__init__")))) && decide (PySem.W.typeIn K (.ref (He.ma K (He.ga K c) "__init__")) = some (.type "function"))
theorem exmk_of {P : Program} {w : World} {mg : Str → Option Value} {base : Heap} {k : Nat} {c : Str} {fs ps : List Str} {fd : FuncData} (h : excB c fs K = true) (hm : mg c = some (.ref (He.ga K c)))
    (F : FnOk P w K mg base (L2.CX P w) k (He.ma K (He.ga K c) "__init__") fd ps (spInit K fs)) (b : Binds K fd ps []) : ExMk P w K mg base k c fs := by
  unfold excB at h
  simp only [Bool.and_eq_true, decide_eq_true_eq, List.all_eq_true] at h
  obtain ⟨⟨⟨h1, h2⟩, h3⟩, h4⟩ := h
  exact ⟨_, _, fd, ps, hm, oexB_ok h1, h3, h4, F, b, h2⟩
/-- .. whose fields may be read -/
def fldB (c f : Str) (K : PySem.W.Frag) : Bool := xfB K (He.ga K c) && decide (PySem.W.findIn K (.ref (He.ga K c)) f = some none)
theorem fldB_ok {c f : Str} (h : fldB c f K = true) : XfC K (He.ga K c) ∧ PySem.W.findIn K (.ref (He.ga K c)) f = some none := by
  unfold fldB at h
  obtain ⟨h1, h2⟩ := Bool.and_eq_true_iff.mp h
  exact ⟨xfB_ok h1, of_decide_eq_true h2⟩
/-- .. of which isinstance may be asked -/
def isB (c : Str) (cv : PySem.W.Frag → Value) (b : Bool) (K : PySem.W.Frag) : Bool := (PySem.W.clsIn K (He.ga K c)).isSome && decide (PySem.W.findIn K (.ref (He.ga K c)) "__getattribute__" = some (some (.builtin "BaseException.__getattribute__"))) &&
  (PySem.W.findIn K (.ref (He.ga K c)) "__getattr__").isSome && decide (PySem.W.subIn K (.ref (He.ga K c)) (.type "BaseException") = some true) && decide (PySem.W.findIn K (.ref (He.ga K c)) "__class__" = some (some (.builtin "object.__class__"))) &&
  decide (PySem.W.specialIn K (.builtin "object.__class__") "__get__" = some (some (.builtin "getset_descriptor.__get__"))) && decide (PySem.W.takesIn K (.builtin "object.__class__") = some true) &&
  decide (PySem.W.mroIn K (He.ga K c) (.type "object") = some true) && decide (PySem.W.kitOne K (.ref (He.ga K c)) (cv K) = some b)
theorem isB_ok {c : Str} {cv : PySem.W.Frag → Value} {b : Bool} (h : isB c cv b K = true) : IsF K (He.ga K c) ∧ PySem.W.kitOne K (.ref (He.ga K c)) (cv K) = some b := by
  unfold isB at h
  simp only [Bool.and_eq_true, decide_eq_true_eq] at h
  obtain ⟨⟨⟨⟨⟨⟨⟨⟨h1, h2⟩, h3⟩, h4⟩, h5⟩, h6⟩, h7⟩, h8⟩, h9⟩ := h
  exact ⟨⟨h1, h2, Option.isSome_iff_exists.mp h3, h4, h5, h6, h7, h8⟩, h9⟩
def cvRef (x : Str) (K : PySem.W.Frag) : Value := .ref (He.ga K x)
def cvTy (n : String) (_ : PySem.W.Frag) : Value := .type n
def exmB (c : Str) (cv : PySem.W.Frag → Value) (b : Bool) (K : PySem.W.Frag) : Bool := decide (PySem.W.exmOne K (.ref (He.ga K c)) (cv K) = some b)
def exAll (l : List (PySem.W.Frag → Bool)) (K : PySem.W.Frag) : Bool := l.all fun f => f K
theorem exAll_at {l : List (PySem.W.Frag → Bool)} (h : exAll l K = true) (i : Nat) {f : PySem.W.Frag → Bool} (hi : l[i]? = some f := by rfl) : f K = true := List.all_eq_true.mp h f (List.mem_of_getElem? hi)
/-- of each class of the table -/
theorem each_of {mg : Str → Option Value} {α : Type} {tb : List (Str × α)} {R : Addr → α → Prop} (h : ∀ q ∈ tb, mg q.1 = some (.ref (He.ga K q.1)) ∧ R (He.ga K q.1) q.2) : ∀ q ∈ tb, ∀ C, mg q.1 = some (.ref C) → R C q.2 := fun q hq C hm => by
  obtain ⟨h1, h2⟩ := h q hq
  rw [hm] at h1
  cases h1
  exact h2
theorem each_of1 {mg : Str → Option Value} {l : List Str} {R : Addr → Prop} (h : ∀ c ∈ l, mg c = some (.ref (He.ga K c)) ∧ R (He.ga K c)) : ∀ c ∈ l, ∀ C, mg c = some (.ref C) → R C := fun c hc C hm => by
  obtain ⟨h1, h2⟩ := h c hc
  rw [hm] at h1
  cases h1
  exact h2
end
theorem RpL.flatV {g : Kg} {W : Wd} {H : Hp} : ∀ {ds : List D}, (∀ d ∈ ds, isFlat d = true) → RpL g W H ds (ds.map vOf)
  | [], _ => rfl
  | d :: ds, h => ⟨vOf d, ds.map vOf, rfl, by
    have := h d (by simp)
    cases d with
    | non => rfl
    | bl b => rfl
    | int b => rfl
    | str b => rfl
    | _ => (cases this), RpL.flatV fun x hx => h x (by simp [hx])⟩
theorem ktup_of {K : PySem.W.Frag} {mg : Str → Option Value} {x : Str} {ds : List D} {vs : List He.Dv} (hm : mg x = some (.ref (He.ga K x))) (h : He.tupB K x vs = true) (hv : vs.map (He.Dv.v K) = ds.map vOf) (hf : ds.all isFlat = true) : KTup K mg x ds :=
  ⟨_, hm, fun mgg W H => ⟨_, _, rfl, fun H' => by rw [← hv]; exact He.tupB_ok h H', RpL.flatV fun d hd => List.all_eq_true.mp hf d hd⟩⟩

/-! ### the end -/
theorem walk_ofW {l : PySem.W.OpenLaw} {n k : Nat} {q : Program} {loose : List Str} {XP : (Str → Option Value) → Heap → Prop} {YP : World → Heap → Prop} {d : DefRec} {CX : World → CXT} {x : Str}
    (hn : l.most = some n) (hn2 : n ≤ sizeLine) (hdf : d.params.defaults = []) (hr : Room k callerA)
    (F : ∀ (w : World) (mg : Str → Option Value) (fa : Addr) (h : Heap), YP w h → h.Ns mainGlobals mg → mg d.name = some (.ref fa) →
      ∃ (K : PySem.W.Frag) (fd : FuncData) (sp : Sp), K.In h ∧ (∀ (s : Shared) (u : Value), BindsTo s fd ⟨[u], []⟩ [(x, u)]) ∧
        (∀ (H : Hp) (a : Addr) (ns : List Int), ns.length ≤ n → Only H → SqL K H a (ns.map V.int) → sp [.ref a] H (fun v _ => v = .bl true) fun _ _ _ => False) ∧
        ∀ base : Heap, K.In base → base.Ns mainGlobals mg → FnOk l.prog w K mg base (CX w) k fa fd [x] sp)
    (hCX : ∀ (w : World) (H : Hp) (s : Shared) (e : Value) (s' : Shared), CX w [] H s (fun _ _ _ => False) e s' → False) :
    PySem.W.WalkO q loose XP YP l.row.toRowW d [] (fun f vs => PySem.call f vs) := by
  refine Att.attach_call hn hdf fun w s₀ s₁ mg mb fa o pm cd doc a vs ns G Y ho hd hcd hmg hobj hints hlen hg => ?_
  obtain ⟨K, fd, sp, KX, hb, hsp, hF⟩ := F w mg fa _ Y G.T.g hmg
  exact law_call KX G.T.g G.T.b G.T.builtins G.T.nolimit hg hobj hints (Nat.le_trans hlen hn2) hr hF hb (fun H hO hS => hsp H a ns hlen hO hS) fun H e s' => hCX w H s₁ e s'
theorem cx_no {P : Program} {w : World} {H : Hp} {s : Shared} {e : Value} {s' : Shared} (h : L2.CX P w [] H s (fun _ _ _ => False) e s') : False := by
  obtain ⟨_, _, _, _, _, _, _, _, _, _, _, _, z⟩ := h
  exact z
theorem sp_law {K : PySem.W.Frag} {mg : Str → Option Value} {f : FF} {ns : List Int} {H : Hp} {a : Addr} (hf : ∃ cs, f [.scr ns] [] = .ret (.bl true) cs) (hS : SqL K H a (ns.map V.int)) : spF ⟨K, mg⟩ 1 f [.ref a] H (fun v _ => v = .bl true) fun _ _ _ => False := by
  obtain ⟨cs, hf⟩ := hf
  refine ⟨[.scr ns], [], fun _ => .fz, rfl, ⟨_, _, rfl, ⟨a, rfl, ?_⟩, rfl⟩, ⟨fun k c e => by simp at e, fun _ _ _ _ _ _ _ z _ => (nomatch z), fun _ _ _ _ z => (nomatch z)⟩, fun _ _ z => (nomatch z), ?_⟩
  · rcases hS with h | h
    · exact .inl ⟨rfl, h⟩
    · exact .inr fun H' => .inr h
  · rw [hf]
    exact fun v W' H' st cr rp => rp
end Mv
set_option Elab.async false
set_option linter.all false
set_option maxRecDepth 100000
set_option maxHeartbeats 2000000
/-! Mv16: the plain side: computing. -/
namespace Mv
open PySem PySem.Spec PyProof.Rows L2

/-! ### equality -/
theorem dEq_py {x y : D} {p q : PyData} (h1 : dPy x = some p) (h2 : dPy y = some q) (s1 : SeqAt.shaped p = true) (s2 : SeqAt.shaped q = true) : dEq x y = some (.bl (PyData.eqv p q)) := by
  simp only [dEq, h1, h2, Option.bind_some]
  rw [if_pos ⟨s1, s2⟩]
theorem dNe_py {x y : D} {p q : PyData} (h1 : dPy x = some p) (h2 : dPy y = some q) (s1 : SeqAt.shaped p = true) (s2 : SeqAt.shaped q = true) : dNe x y = some (.bl (!PyData.eqv p q)) := by
  simp only [dNe, h1, h2, Option.bind_some]
  rw [if_pos ⟨s1, s2⟩]
theorem shaped_str {i : Str} (h : PyData.strOk i = true) : SeqAt.shaped (.str i) = true := by
  unfold SeqAt.shaped
  rw [Bool.and_eq_true]
  exact ⟨by simp [PyData.canLay0]; exact h, by simp [PyData.depth]⟩
@[simp] theorem dEq_int (i j : Int) : dEq (.int i) (.int j) = some (.bl (decide (i = j))) := by
  rw [dEq_py (p := .int i) (q := .int j) (by simp [dPy]) (by simp [dPy]) (by rfl) (by rfl)]
  simp [PyData.eqv, BEq.beq]
@[simp] theorem dNe_int (i j : Int) : dNe (.int i) (.int j) = some (.bl (!decide (i = j))) := by
  rw [dNe_py (p := .int i) (q := .int j) (by simp [dPy]) (by simp [dPy]) (by rfl) (by rfl)]
  simp [PyData.eqv, BEq.beq]
theorem dEq_str {i j : Str} (h1 : PyData.strOk i = true) (h2 : PyData.strOk j = true) : dEq (.str i) (.str j) = some (.bl (decide (i = j))) := by
  rw [dEq_py (p := .str i) (q := .str j) (by simp [dPy]) (by simp [dPy]) (shaped_str h1) (shaped_str h2)]
  simp [PyData.eqv, BEq.beq]
theorem dNe_str {i j : Str} (h1 : PyData.strOk i = true) (h2 : PyData.strOk j = true) : dNe (.str i) (.str j) = some (.bl (!decide (i = j))) := by
  rw [dNe_py (p := .str i) (q := .str j) (by simp [dPy]) (by simp [dPy]) (shaped_str h1) (shaped_str h2)]
  simp [PyData.eqv, BEq.beq]

/-! ### computing, from the left -/
section
variable {s s1 : S} {d d1 d2 : D} {e : Exn} {f : D → S → RE} {g : D → S → RS} {m m1 m2 ma mb mc mi mv mo me mt : EM} {am r : AM} {k i : Nat} {b : Bool}
@[simp] theorem bind_ok : (RE.ok d s).bind f = f d s := rfl
@[simp] theorem bind_exc : (RE.exc e s).bind f = .exc e s := rfl
@[simp] theorem bindS_ok : (RE.ok d s).bindS g = g d s := rfl
@[simp] theorem bindS_exc : (RE.exc e s).bindS g = .ex e s := rfl
@[simp] theorem lift_some : RE.lift (some d) s = .ok d s := rfl
@[simp] theorem rl_ok {h : List D → S → RE} {ds : List D} : (RL.ok ds s).bind h = h ds s := rfl
@[simp] theorem rl_exc {h : List D → S → RE} : (RL.exc e s).bind h = .exc e s := rfl
@[simp] theorem rp_ok {h : Option Int → S → RE} {o : Option Int} : (RP.ok o s).bind h = h o s := rfl
/- deref -/
def derefK (k : Nat) : Option Cell → D
  | some (.lst xs) => .lst xs
  | _ => .cell k
@[simp] theorem derefK_lst {xs : List D} : derefK k (some (.lst xs)) = .lst xs := rfl
@[simp] theorem derefK_ins {c : Str} {fs : List (Str × D)} : derefK k (some (.ins c fs)) = .cell k := rfl
@[simp] theorem deref_cell {cs : List Cell} : deref cs (.cell k) = derefK k cs[k]? := by
  unfold deref
  dsimp only
  generalize cs[k]? = o
  rcases o with _ | _ | _ <;> rfl
@[simp] theorem deref_non {cs : List Cell} : deref cs .non = .non := rfl
@[simp] theorem deref_bl {cs : List Cell} : deref cs (.bl b) = .bl b := rfl
@[simp] theorem deref_int {cs : List Cell} {n : Int} : deref cs (.int n) = .int n := rfl
@[simp] theorem deref_str {cs : List Cell} {z : Str} : deref cs (.str z) = .str z := rfl
@[simp] theorem deref_tup {cs : List Cell} {xs : List D} : deref cs (.tup xs) = .tup xs := rfl
@[simp] theorem deref_ktp {cs : List Cell} {xs : List D} : deref cs (.ktp xs) = .ktp xs := rfl
@[simp] theorem deref_lst {cs : List Cell} {xs : List D} : deref cs (.lst xs) = .lst xs := rfl
@[simp] theorem deref_dct {cs : List Cell} {t : Bool} {ks : List Ky} {xs : List D} : deref cs (.dct t ks xs) = .dct t ks xs := rfl
@[simp] theorem deref_scr {cs : List Cell} {xs : List Int} : deref cs (.scr xs) = .scr xs := rfl
/- names -/
def eVar1 (i : Nat) (s : S) : Option (Option SV) → RE
  | some (some (.val false d)) => .ok d s
  | some (some (.val true d)) => .ok d { s with sl := s.sl.set i (some (.val false d)) }
  | _ => .stuck
def eVarB1 (s : S) : Option (Option SV) → RE
  | some (some (.val _ d)) => .ok d s
  | _ => .stuck
@[simp] theorem eVar_at : eVar i s = eVar1 i s s.sl[i]? := by
  unfold eVar eVar1
  rcases s.sl[i]? with _ | _ | (_ | _) | _ <;> rfl
@[simp] theorem eVarB_at : eVarB i s = eVarB1 s s.sl[i]? := by
  unfold eVarB eVarB1
  rcases s.sl[i]? with _ | _ | _ | _ <;> rfl
@[simp] theorem eVar1_f : eVar1 i s (some (some (.val false d))) = .ok d s := rfl
@[simp] theorem eVar1_t : eVar1 i s (some (some (.val true d))) = .ok d { s with sl := s.sl.set i (some (.val false d)) } := rfl
@[simp] theorem eVarB1_v : eVarB1 s (some (some (.val b d))) = .ok d s := rfl
@[simp] theorem eC_at : eC d s = .ok d s := rfl
/- operators -/
def eBin1 (o : D → D → Option D) (mb : EM) (d1 : D) (s1 : S) : RE := (mb s1).bind fun d2 s2 => RE.lift (o (deref s2.cs d1) (deref s2.cs d2)) s2
def eBin2 (o : D → D → Option D) (d1 d2 : D) (s2 : S) : RE := RE.lift (o (deref s2.cs d1) (deref s2.cs d2)) s2
@[simp] theorem eBin_at {o : D → D → Option D} : eBin o ma mb s = (ma s).bind (eBin1 o mb) := rfl
@[simp] theorem eBin1_at {o : D → D → Option D} : eBin1 o mb d1 s1 = (mb s1).bind (eBin2 o d1) := rfl
@[simp] theorem eBin2_at {o : D → D → Option D} : eBin2 o d1 d2 s1 = RE.lift (o (deref s1.cs d1) (deref s1.cs d2)) s1 := rfl
def eUn1 (o : D → Option D) (d1 : D) (s1 : S) : RE := RE.lift (o (deref s1.cs d1)) s1
@[simp] theorem eUn_at {o : D → Option D} : eUn o ma s = (ma s).bind (eUn1 o) := rfl
@[simp] theorem eUn1_at {o : D → Option D} : eUn1 o d1 s1 = RE.lift (o (deref s1.cs d1)) s1 := rfl
/- argument lists -/
def aCons2 (d : D) : RL → RL
  | .ok ds s2 => .ok (d :: ds) s2
  | .exc e s2 => .exc e s2
  | .stuck => .stuck
def aCons1 (r : AM) : RE → RL
  | .ok d s1 => aCons2 d (r s1)
  | .exc e s1 => .exc e s1
  | .stuck => .stuck
@[simp] theorem aNil_at : aNil s = .ok [] s := rfl
@[simp] theorem aCons_at : aCons m r s = aCons1 r (m s) := by
  unfold aCons
  generalize m s = z
  rcases z with ⟨d, s1⟩ | ⟨e, s1⟩ | _
  · show _ = aCons2 d (r s1)
    dsimp only
    generalize r s1 = y
    rcases y with _ | _ | _ <;> rfl
  · rfl
  · rfl
@[simp] theorem aCons1_ok : aCons1 r (.ok d s) = aCons2 d (r s) := rfl
@[simp] theorem aCons1_exc : aCons1 r (.exc e s) = .exc e s := rfl
@[simp] theorem aCons2_ok {ds : List D} : aCons2 d (.ok ds s) = .ok (d :: ds) s := rfl
@[simp] theorem aCons2_exc : aCons2 d (.exc e s) = .exc e s := rfl
def eTup1 (ds : List D) (s1 : S) : RE := if ds.length ≤ sizeLine then .ok (.tup ds) s1 else .stuck
def eLst1 (ds : List D) (s1 : S) : RE := if ds.length ≤ sizeLine then .ok (.lst ds) s1 else .stuck
@[simp] theorem eTup_at : eTup am s = (am s).bind eTup1 := rfl
@[simp] theorem eLst_at : eLst am s = (am s).bind eLst1 := rfl
theorem eTup1_at {ds : List D} (h : ds.length ≤ sizeLine) : eTup1 ds s = .ok (.tup ds) s := if_pos h
theorem eLst1_at {ds : List D} (h : ds.length ≤ sizeLine) : eLst1 ds s = .ok (.lst ds) s := if_pos h
@[simp] theorem size0 : (0 : Nat) ≤ sizeLine := Nat.zero_le _
theorem sizeN (n : Nat) (h : n ≤ 16777216) : n ≤ sizeLine := by rw [sizeLine_eq]; exact h
@[simp] theorem eTup1_0 : eTup1 [] s = .ok (.tup []) s := eTup1_at (by simp)
@[simp] theorem eTup1_1 {a : D} : eTup1 [a] s = .ok (.tup [a]) s := eTup1_at (sizeN _ (by simp))
@[simp] theorem eTup1_2 {a b : D} : eTup1 [a, b] s = .ok (.tup [a, b]) s := eTup1_at (sizeN _ (by simp))
@[simp] theorem eTup1_3 {a b c : D} : eTup1 [a, b, c] s = .ok (.tup [a, b, c]) s := eTup1_at (sizeN _ (by simp))
@[simp] theorem eTup1_4 {a b c d : D} : eTup1 [a, b, c, d] s = .ok (.tup [a, b, c, d]) s := eTup1_at (sizeN _ (by simp))
@[simp] theorem eLst1_0 : eLst1 [] s = .ok (.lst []) s := eLst1_at (by simp)
@[simp] theorem eLst1_1 {a : D} : eLst1 [a] s = .ok (.lst [a]) s := eLst1_at (sizeN _ (by simp))
@[simp] theorem eLst1_2 {a b : D} : eLst1 [a, b] s = .ok (.lst [a, b]) s := eLst1_at (sizeN _ (by simp))
@[simp] theorem eLst1_3 {a b c : D} : eLst1 [a, b, c] s = .ok (.lst [a, b, c]) s := eLst1_at (sizeN _ (by simp))
@[simp] theorem eLst1_4 {a b c d : D} : eLst1 [a, b, c, d] s = .ok (.lst [a, b, c, d]) s := eLst1_at (sizeN _ (by simp))
/- bools -/
def eNot1 : D → S → RE
  | .bl b, s1 => .ok (.bl (!b)) s1
  | _, _ => .stuck
@[simp] theorem eNot_at : eNot m s = (m s).bind eNot1 := by
  unfold eNot
  congr 1
  funext d s1
  cases d <;> rfl
@[simp] theorem eNot1_at : eNot1 (.bl b) s = .ok (.bl (!b)) s := rfl
def eAnd1 (mb : EM) : D → S → RE
  | .bl true, s1 => mb s1
  | .bl false, s1 => .ok (.bl false) s1
  | _, _ => .stuck
def eOr1 (mb : EM) : D → S → RE
  | .bl false, s1 => mb s1
  | .bl true, s1 => .ok (.bl true) s1
  | _, _ => .stuck
def eIf1 (ma mb : EM) : D → S → RE
  | .bl true, s1 => ma s1
  | .bl false, s1 => mb s1
  | _, _ => .stuck
@[simp] theorem eAnd_at : eAnd ma mb s = (ma s).bind (eAnd1 mb) := by
  unfold eAnd
  congr 1
  funext d s1
  rcases d with _ | (_ | _) | _ | _ | _ | _ | _ | _ | _ | _ <;> rfl
@[simp] theorem eOr_at : eOr ma mb s = (ma s).bind (eOr1 mb) := by
  unfold eOr
  congr 1
  funext d s1
  rcases d with _ | (_ | _) | _ | _ | _ | _ | _ | _ | _ | _ <;> rfl
@[simp] theorem eIf_at : eIf mc ma mb s = (mc s).bind (eIf1 ma mb) := by
  unfold eIf
  congr 1
  funext d s1
  rcases d with _ | (_ | _) | _ | _ | _ | _ | _ | _ | _ | _ <;> rfl
@[simp] theorem eAnd1_t : eAnd1 mb (.bl true) s = mb s := rfl
@[simp] theorem eAnd1_f : eAnd1 mb (.bl false) s = .ok (.bl false) s := rfl
@[simp] theorem eOr1_t : eOr1 mb (.bl true) s = .ok (.bl true) s := rfl
@[simp] theorem eOr1_f : eOr1 mb (.bl false) s = mb s := rfl
@[simp] theorem eIf1_t : eIf1 ma mb (.bl true) s = ma s := rfl
@[simp] theorem eIf1_f : eIf1 ma mb (.bl false) s = mb s := rfl
theorem eIf1_b : eIf1 ma mb (.bl b) s = if b = true then ma s else mb s := by cases b <;> rfl
theorem eAnd1_b : eAnd1 mb (.bl b) s = if b = true then mb s else .ok (.bl false) s := by cases b <;> rfl
theorem eOr1_b : eOr1 mb (.bl b) s = if b = true then .ok (.bl true) s else mb s := by cases b <;> rfl
/- chains -/
def eChain3 (o' : D → D → Option D) (d2 : D) (mc : EM) : Option D → S → RE
  | some (.bl true), s2 => (mc s2).bind fun d3 s3 => RE.lift (o' (deref s3.cs d2) (deref s3.cs d3)) s3
  | some (.bl false), s2 => .ok (.bl false) s2
  | _, _ => .stuck
def eChain2 (o o' : D → D → Option D) (mc : EM) (d1 d2 : D) (s2 : S) : RE := eChain3 o' d2 mc (o (deref s2.cs d1) (deref s2.cs d2)) s2
def eChain1 (o o' : D → D → Option D) (mb mc : EM) (d1 : D) (s1 : S) : RE := (mb s1).bind (eChain2 o o' mc d1)
@[simp] theorem eChain_at {o o' : D → D → Option D} : eChain o o' ma mb mc s = (ma s).bind (eChain1 o o' mb mc) := by
  unfold eChain
  congr 1
  funext d1 s1
  unfold eChain1
  congr 1
  funext d2 s2
  unfold eChain2 eChain3
  rcases o (deref s2.cs d1) (deref s2.cs d2) with _ | _ | (_ | _) | _ | _ | _ | _ | _ | _ | _ | _ <;> rfl
@[simp] theorem eChain1_at {o o' : D → D → Option D} : eChain1 o o' mb mc d1 s1 = (mb s1).bind (eChain2 o o' mc d1) := rfl
@[simp] theorem eChain2_at {o o' : D → D → Option D} : eChain2 o o' mc d1 d2 s1 = eChain3 o' d2 mc (o (deref s1.cs d1) (deref s1.cs d2)) s1 := rfl
@[simp] theorem eChain3_t {o' : D → D → Option D} : eChain3 o' d2 mc (some (.bl true)) s = (mc s).bind (eBin2 o' d2) := rfl
@[simp] theorem eChain3_f {o' : D → D → Option D} : eChain3 o' d2 mc (some (.bl false)) s = .ok (.bl false) s := rfl
/- slices -/
@[simp] theorem pNone_at : pNone s = .ok none s := rfl
def pSome1 : RE → RP
  | .ok (.int i) s1 => .ok (some i) s1
  | .ok _ _ => .stuck
  | .exc e s1 => .exc e s1
  | .stuck => .stuck
@[simp] theorem pSome_at : pSome m s = pSome1 (m s) := by
  unfold pSome pSome1
  rcases m s with ⟨d, s1⟩ | _ | _
  · cases d <;> rfl
  · rfl
  · rfl
@[simp] theorem pSome1_at {n : Int} : pSome1 (.ok (.int n) s) = .ok (some n) s := rfl
def eSl3 (o : D → Option Int → Option Int → Option D) (d : D) (l h : Option Int) (s3 : S) : RE := RE.lift (o (deref s3.cs d) l h) s3
def eSl2 (o : D → Option Int → Option Int → Option D) (d : D) (mh : PM) (l : Option Int) (s2 : S) : RE := (mh s2).bind (eSl3 o d l)
def eSl1 (o : D → Option Int → Option Int → Option D) (ml mh : PM) (d : D) (s1 : S) : RE := (ml s1).bind (eSl2 o d mh)
@[simp] theorem eSl_at {o : D → Option Int → Option Int → Option D} {ml mh : PM} : eSl o m ml mh s = (m s).bind (eSl1 o ml mh) := rfl
@[simp] theorem eSl1_at {o : D → Option Int → Option Int → Option D} {ml mh : PM} : eSl1 o ml mh d s = (ml s).bind (eSl2 o d mh) := rfl
@[simp] theorem eSl2_at {o : D → Option Int → Option Int → Option D} {mh : PM} {l : Option Int} : eSl2 o d mh l s = (mh s).bind (eSl3 o d l) := rfl
@[simp] theorem eSl3_at {o : D → Option Int → Option Int → Option D} {l h : Option Int} : eSl3 o d l h s = RE.lift (o (deref s.cs d) l h) s := rfl
/- iterables -/
def iSeq2 (s1 : S) : Option (List D) → RI
  | some ds => .ok ds s1
  | none => .stuck
def iSeq1 : RE → RI
  | .ok d s1 => iSeq2 s1 (seqD d)
  | .exc e s1 => .exc e s1
  | .stuck => .stuck
@[simp] theorem iSeq_at : iSeq m s = iSeq1 (m s) := by
  unfold iSeq iSeq1
  rcases m s with ⟨d, s1⟩ | _ | _
  · unfold iSeq2
    dsimp only
    try (cases seqD d <;> rfl)
  · rfl
  · rfl
@[simp] theorem iSeq1_ok : iSeq1 (.ok d s) = iSeq2 s (seqD d) := rfl
@[simp] theorem iSeq2_some {ds : List D} : iSeq2 s (some ds) = .ok ds s := rfl
@[simp] theorem seqD_lst {ds : List D} : seqD (.lst ds) = some ds := rfl
@[simp] theorem seqD_tup {ds : List D} : seqD (.tup ds) = some ds := rfl
@[simp] theorem seqD_ktp {ds : List D} : seqD (.ktp ds) = some ds := rfl
def iEnum1 : RE → RI
  | .ok d s1 => iSeq2 s1 ((seqD d).map enumD)
  | .exc e s1 => .exc e s1
  | .stuck => .stuck
@[simp] theorem iEnumM_at : iEnumM m s = iEnum1 (m s) := by
  unfold iEnumM iEnum1
  rcases m s with ⟨d, s1⟩ | _ | _
  · unfold iSeq2
    dsimp only
    try (cases seqD d <;> rfl)
  · rfl
  · rfl
@[simp] theorem iEnum1_ok : iEnum1 (.ok d s) = iSeq2 s ((seqD d).map enumD) := rfl
def iRng11 : RE → RI
  | .ok (.int j) s1 => if -(2 ^ 62) ≤ j ∧ j < 2 ^ 62 then .ok (rgF 0 j.toNat) s1 else .stuck
  | .ok _ _ => .stuck
  | .exc e s1 => .exc e s1
  | .stuck => .stuck
@[simp] theorem iRng1_at : iRng1 m s = iRng11 (m s) := by
  unfold iRng1 iRng11
  rcases m s with ⟨d, s1⟩ | _ | _
  · cases d <;> rfl
  · rfl
  · rfl
theorem iRng11_at {j : Int} (h1 : -(2 ^ 62) ≤ j) (h2 : j < 2 ^ 62) : iRng11 (.ok (.int j) s) = .ok (rgF 0 j.toNat) s := if_pos ⟨h1, h2⟩
theorem p62 : (2 : Int) ^ 62 = 4611686018427387904 := by decide
theorem iRng11_nat {n : Nat} (h2 : n ≤ 16777216) : iRng11 (.ok (.int n) s) = .ok (rgF 0 n) s := by
  have h := iRng11_at (s := s) (j := (n : Int)) (by rw [p62]; omega) (by rw [p62]; omega)
  rw [h, Int.toNat_natCast]
@[simp] theorem iRng11_exc : iRng11 (.exc e s) = .exc e s := rfl
def iRng22 (i : Int) : RE → RI
  | .ok (.int j) s2 => if -(2 ^ 62) ≤ i ∧ i < 2 ^ 62 ∧ -(2 ^ 62) ≤ j ∧ j < 2 ^ 62 then .ok (rgF i (j - i).toNat) s2 else .stuck
  | .ok _ _ => .stuck
  | .exc e s1 => .exc e s1
  | .stuck => .stuck
def iRng21 (m2 : EM) : RE → RI
  | .ok (.int i) s1 => iRng22 i (m2 s1)
  | .ok _ _ => .stuck
  | .exc e s1 => .exc e s1
  | .stuck => .stuck
@[simp] theorem iRng2_at : iRng2 m1 m2 s = iRng21 m2 (m1 s) := by
  unfold iRng2 iRng21
  rcases m1 s with ⟨d, s1⟩ | _ | _
  · cases d with
    | int i =>
      dsimp only
      unfold iRng22
      rcases m2 s1 with ⟨d2, s2⟩ | _ | _
      · cases d2 <;> rfl
      · rfl
      · rfl
    | _ => rfl
  · rfl
  · rfl
@[simp] theorem iRng21_ok {i : Int} : iRng21 m2 (.ok (.int i) s) = iRng22 i (m2 s) := rfl
theorem iRng22_at {i j : Int} (h1 : -(2 ^ 62) ≤ i) (h2 : i < 2 ^ 62) (h3 : -(2 ^ 62) ≤ j) (h4 : j < 2 ^ 62) : iRng22 i (.ok (.int j) s) = .ok (rgF i (j - i).toNat) s := if_pos ⟨h1, h2, h3, h4⟩
def eListRg1 : D → S → RE
  | .int n, s1 => if 0 ≤ n ∧ n ≤ 16777216 then .ok (.lst (rgD n)) s1 else .stuck
  | _, _ => .stuck
@[simp] theorem eListRg_at : eListRg m s = (m s).bind eListRg1 := by
  unfold eListRg
  congr 1
  funext d s1
  cases d <;> rfl
theorem eListRg1_at {n : Int} (h1 : 0 ≤ n) (h2 : n ≤ 16777216) : eListRg1 (.int n) s = .ok (.lst (rgD n)) s := if_pos ⟨h1, h2⟩
/- calls -/
def eCallF2 (s1 : S) : RF → RE
  | .ret d cs => .ok d { s1 with cs := cs }
  | .exc e cs => .exc e { s1 with cs := cs }
  | .stuck => .stuck
def eCallF1 (f : FF) (ds : List D) (s1 : S) : RE := eCallF2 s1 (f ds s1.cs)
@[simp] theorem eCallF_at {f : FF} : eCallF f am s = (am s).bind (eCallF1 f) := by
  unfold eCallF
  rcases am s with ⟨ds, s1⟩ | _ | _
  · show _ = eCallF1 f ds s1
    unfold eCallF1 eCallF2
    dsimp only
    try (cases f ds s1.cs <;> rfl)
  · rfl
  · rfl
@[simp] theorem eCallF1_at {f : FF} {ds : List D} : eCallF1 f ds s = eCallF2 s (f ds s.cs) := rfl
@[simp] theorem eCallF2_ret {cs : List Cell} : eCallF2 s (.ret d cs) = .ok d { s with cs := cs } := rfl
@[simp] theorem eCallF2_exc {cs : List Cell} : eCallF2 s (.exc e cs) = .exc e { s with cs := cs } := rfl
/- statements -/
def seq1 (m2 : SM) : RS → RS
  | .nx s => m2 s
  | r => r
@[simp] theorem sSeq_at {m1 m2 : SM} : sSeq m1 m2 s = seq1 m2 (m1 s) := by
  unfold sSeq seq1
  rcases m1 s with _ | _ | _ | _ | _ | _ <;> rfl
@[simp] theorem seq1_nx {m2 : SM} : seq1 m2 (.nx s) = m2 s := rfl
@[simp] theorem seq1_rt {m2 : SM} : seq1 m2 (.rt d s) = .rt d s := rfl
@[simp] theorem seq1_ex {m2 : SM} : seq1 m2 (.ex e s) = .ex e s := rfl
@[simp] theorem seq1_bk {m2 : SM} : seq1 m2 (.bk s) = .bk s := rfl
@[simp] theorem seq1_ct {m2 : SM} : seq1 m2 (.ct s) = .ct s := rfl
@[simp] theorem sNil_at : sNil s = .nx s := rfl
@[simp] theorem sBreak_at : sBreak s = .bk s := rfl
@[simp] theorem sCont_at : sCont s = .ct s := rfl
def ret1 (d : D) (s : S) : RS := .rt d s
@[simp] theorem ret1_at : ret1 d s = .rt d s := rfl
@[simp] theorem sRet_at : sRet m s = (m s).bindS ret1 := rfl
def drop1 (_ : D) (s : S) : RS := .nx s
@[simp] theorem drop1_at : drop1 d s = .nx s := rfl
@[simp] theorem sExpr_at : sExpr m s = (m s).bindS drop1 := rfl
def sIf1 (m1 m2 : SM) : D → S → RS
  | .bl true, s1 => m1 s1
  | .bl false, s1 => m2 s1
  | _, _ => .stuck
@[simp] theorem sIf_at {m1 m2 : SM} : sIf mc m1 m2 s = (mc s).bindS (sIf1 m1 m2) := by
  unfold sIf
  congr 1
  funext d s1
  rcases d with _ | (_ | _) | _ | _ | _ | _ | _ | _ | _ | _ <;> rfl
@[simp] theorem sIf1_t {m1 m2 : SM} : sIf1 m1 m2 (.bl true) s = m1 s := rfl
@[simp] theorem sIf1_f {m1 m2 : SM} : sIf1 m1 m2 (.bl false) s = m2 s := rfl
theorem sIf1_b {m1 m2 : SM} : sIf1 m1 m2 (.bl b) s = if b = true then m1 s else m2 s := by cases b <;> rfl
def set1 (i : Nat) (d : D) (s : S) : RS := .nx { s with sl := s.sl.set i (some (.val false d)) }
def setO1 (i : Nat) (d : D) (s : S) : RS := .nx { s with sl := s.sl.set i (some (.val true d)) }
@[simp] theorem sSet_at : sSet i m s = (m s).bindS (set1 i) := rfl
@[simp] theorem sSetO_at : sSetO i m s = (m s).bindS (setO1 i) := rfl
@[simp] theorem set1_at : set1 i d s = .nx { s with sl := s.sl.set i (some (.val false d)) } := rfl
@[simp] theorem setO1_at : setO1 i d s = .nx { s with sl := s.sl.set i (some (.val true d)) } := rfl
def asg2 : Option S → RS
  | some s2 => .nx s2
  | none => .stuck
def asg1 (t : TgM) (d : D) (s1 : S) : RS := asg2 (t d s1)
@[simp] theorem sAsg_at {t : TgM} : sAsg m t s = (m s).bindS (asg1 t) := by
  unfold sAsg
  congr 1
@[simp] theorem asg1_at {t : TgM} : asg1 t d s = asg2 (t d s) := rfl
@[simp] theorem asg2_some : asg2 (some s) = .nx s := rfl
@[simp] theorem gNm_at : gNm i d s = some { s with sl := s.sl.set i (some (.val false d)) } := rfl
@[simp] theorem gsNil_at : gsNil [] s = some s := rfl
@[simp] theorem gsCons_at {t : TgM} {q : TgMs} {ds : List D} : gsCons t q (d :: ds) s = (t d s).bind (q ds) := rfl
theorem gTp_at {n : Nat} {t : TgMs} {ds : List D} (h : ds.length = n) : gTp n t (.tup ds) s = t ds s := if_pos h
@[simp] theorem gTp_2 {t : TgMs} {a b : D} : gTp 2 t (.tup [a, b]) s = t [a, b] s := gTp_at rfl
@[simp] theorem gTp_3 {t : TgMs} {a b c : D} : gTp 3 t (.tup [a, b, c]) s = t [a, b, c] s := gTp_at rfl
@[simp] theorem gTp_4 {t : TgMs} {a b c d : D} : gTp 4 t (.tup [a, b, c, d]) s = t [a, b, c, d] s := gTp_at rfl
/- own lists -/
def eMut3 (i : Nat) (s1 : S) : Option (D × List D) → RE
  | some (d, ds') => .ok d { s1 with sl := s1.sl.set i (some (.val true (.lst ds'))) }
  | none => .stuck
def eMut2 (i : Nat) (o : List D → List D → Option (D × List D)) (args : List D) (s1 : S) : Option (Option SV) → RE
  | some (some (.val true (.lst ds))) => eMut3 i s1 (o ds args)
  | _ => .stuck
def eMutA (i : Nat) (o : List D → List D → Option (D × List D)) (args : List D) (s1 : S) : RE := eMut2 i o args s1 s1.sl[i]?
def eMut1 (i : Nat) (o : List D → List D → Option (D × List D)) (am : AM) (s : S) : Option (Option SV) → RE
  | some (some (.val true (.lst _))) => (am s).bind (eMutA i o)
  | _ => .stuck
@[simp] theorem eMut_at {o : List D → List D → Option (D × List D)} : eMut i o am s = eMut1 i o am s s.sl[i]? := by
  have key : ∀ args s1, (match s1.sl[i]? with
    | some (some (.val true (.lst ds))) => (match o ds args with
      | some (d, ds') => RE.ok d (setS s1 i (.val true (.lst ds')))
      | none => .stuck)
    | _ => .stuck) = eMutA i o args s1 := fun args s1 => by
    unfold eMutA eMut2
    rcases s1.sl[i]? with _ | _ | ⟨(_ | _), d⟩ | _ <;> try rfl
  unfold eMut eMut1
  rcases s.sl[i]? with _ | _ | ⟨(_ | _), d⟩ | _ <;> try rfl
@[simp] theorem eMut1_at {o : List D → List D → Option (D × List D)} {ds : List D} : eMut1 i o am s (some (some (.val true (.lst ds)))) = (am s).bind (eMutA i o) := rfl
@[simp] theorem eMutA_at {o : List D → List D → Option (D × List D)} {args : List D} : eMutA i o args s = eMut2 i o args s s.sl[i]? := rfl
@[simp] theorem eMut2_at {o : List D → List D → Option (D × List D)} {args ds : List D} : eMut2 i o args s (some (some (.val true (.lst ds)))) = eMut3 i s (o ds args) := rfl
@[simp] theorem eMut3_at {ds : List D} : eMut3 i s (some (d, ds)) = .ok d { s with sl := s.sl.set i (some (.val true (.lst ds))) } := rfl
theorem lAppend_at {ds : List D} (h : ds.length < sizeLine) : lAppend ds [d] = some (.non, ds ++ [d]) := if_pos h
/- cells -/
def sSetC4 (dv : D) (k : Nat) (s3 : S) (ds : List D) : Option Nat → RS
  | some j => .nx { s3 with cs := s3.cs.set k (.lst (ds.set j dv)) }
  | none => .stuck
def sSetC3 (dv d0 : D) (di : D) (s3 : S) : RS := match d0 with
  | .cell k => match s3.cs[k]? with
    | some (.lst ds) => match di with
      | .int j => sSetC4 dv k s3 ds (ixN ds.length j)
      | _ => .stuck
    | _ => .stuck
  | _ => .stuck
def sSetC2 (mi : EM) (dv d0 : D) (s2 : S) : RS := (mi s2).bindS (sSetC3 dv d0)
def sSetC1 (mo mi : EM) (dv : D) (s1 : S) : RS := (mo s1).bindS (sSetC2 mi dv)
@[simp] theorem sSetC_at : sSetC mo mi mv s = (mv s).bindS (sSetC1 mo mi) := by
  unfold sSetC
  congr 1
@[simp] theorem sSetC1_at {dv : D} : sSetC1 mo mi dv s = (mo s).bindS (sSetC2 mi dv) := rfl
@[simp] theorem sSetC2_at {dv d0 : D} : sSetC2 mi dv d0 s = (mi s).bindS (sSetC3 dv d0) := rfl
theorem sSetC3_at {dv : D} {ds : List D} {j : Int} {n : Nat} (h : s.cs[k]? = some (.lst ds)) (hj : ixN ds.length j = some n) : sSetC3 dv (.cell k) (.int j) s = .nx { s with cs := s.cs.set k (.lst (ds.set n dv)) } := by
  unfold sSetC3
  dsimp only
  rw [h]
  dsimp only
  rw [hj]
  rfl
def newC1 : D → S → RE
  | .lst ds, s1 => .ok (.cell s1.cs.length) { s1 with cs := s1.cs ++ [.lst ds] }
  | _, _ => .stuck
@[simp] theorem eNewC_at : eNewC m s = (m s).bind newC1 := by
  unfold eNewC
  congr 1
  funext d s1
  cases d <;> rfl
@[simp] theorem newC1_at {ds : List D} : newC1 (.lst ds) s = .ok (.cell s.cs.length) { s with cs := s.cs ++ [.lst ds] } := rfl
/- loops -/
def forS (t : TgM) (body : SM) (wp : List Nat) (ds : List D) : RS → RS
  | .nx s2 => forL t body wp ds s2
  | .ct s2 => forL t body wp ds s2
  | .bk s2 => .nx (wipeS wp s2)
  | r => r
def forT (t : TgM) (body : SM) (wp : List Nat) (ds : List D) : Option S → RS
  | none => .stuck
  | some s1 => forS t body wp ds (body s1)
theorem forL_nil {t : TgM} {body : SM} {wp : List Nat} : forL t body wp [] s = .nx (wipeS wp s) := rfl
theorem forL_cons {t : TgM} {body : SM} {wp : List Nat} {ds : List D} : forL t body wp (d :: ds) s = forT t body wp ds (t d (wipeS wp s)) := by
  show (match t d (wipeS wp s) with | none => _ | some s1 => _) = _
  cases t d (wipeS wp s) with
  | none => rfl
  | some s1 =>
    dsimp only
    unfold forT forS
    dsimp only
    cases body s1 <;> rfl
@[simp] theorem forT_some {t : TgM} {body : SM} {wp : List Nat} {ds : List D} : forT t body wp ds (some s) = forS t body wp ds (body s) := rfl
@[simp] theorem forS_nx {t : TgM} {body : SM} {wp : List Nat} {ds : List D} : forS t body wp ds (.nx s) = forL t body wp ds s := rfl
@[simp] theorem forS_ct {t : TgM} {body : SM} {wp : List Nat} {ds : List D} : forS t body wp ds (.ct s) = forL t body wp ds s := rfl
@[simp] theorem forS_bk {t : TgM} {body : SM} {wp : List Nat} {ds : List D} : forS t body wp ds (.bk s) = .nx (wipeS wp s) := rfl
@[simp] theorem forS_rt {t : TgM} {body : SM} {wp : List Nat} {ds : List D} : forS t body wp ds (.rt d s) = .rt d s := rfl
@[simp] theorem forS_ex {t : TgM} {body : SM} {wp : List Nat} {ds : List D} : forS t body wp ds (.ex e s) = .ex e s := rfl
def for1 (t : TgM) (body : SM) (wp : List Nat) : RI → RS
  | .ok ds s1 => forL t body wp ds s1
  | .exc e s1 => .ex e s1
  | .stuck => .stuck
@[simp] theorem sFor_at {n : IM} {t : TgM} {body : SM} {wp : List Nat} : sFor n t body wp s = for1 t body wp (n s) := by
  unfold sFor for1
  cases n s <;> rfl
@[simp] theorem for1_ok {t : TgM} {body : SM} {wp : List Nat} {ds : List D} : for1 t body wp (.ok ds s) = forL t body wp ds s := rfl
@[simp] theorem wipeS_nil : wipeS [] s = s := rfl
@[simp] theorem wipeS_cons {wp : List Nat} : wipeS (i :: wp) s = { s with sl := (wipeS wp s).sl.set i none } := rfl
theorem wipeS_sl {wp : List Nat} : (wipeS wp s).cs = s.cs := rfl
/- comprehensions -/
def lc1 (t : TgM) (mt me : EM) (wp : List Nat) : RI → RE
  | .ok ds s1 => lcL t mt me wp ds [] s1
  | .exc e s1 => .exc e s1
  | .stuck => .stuck
@[simp] theorem eLc_at {n : IM} {t : TgM} {wp : List Nat} : eLc n t mt me wp s = lc1 t mt me wp (n s) := by
  unfold eLc lc1
  cases n s <;> rfl
@[simp] theorem lc1_ok {t : TgM} {wp : List Nat} {ds : List D} : lc1 t mt me wp (.ok ds s) = lcL t mt me wp ds [] s := rfl
@[simp] theorem eYes_at : eYes s = .ok (.bl true) s := rfl
def lcE (t : TgM) (mt me : EM) (wp : List Nat) (ds acc : List D) : RE → RE
  | .ok x s3 => if acc.length < sizeLine then lcL t mt me wp ds (acc ++ [x]) s3 else .stuck
  | _ => .stuck
def lcT (t : TgM) (mt me : EM) (wp : List Nat) (ds acc : List D) : RE → RE
  | .ok (.bl true) s2 => lcE t mt me wp ds acc (me s2)
  | .ok (.bl false) s2 => lcL t mt me wp ds acc s2
  | _ => .stuck
def lcG (t : TgM) (mt me : EM) (wp : List Nat) (ds acc : List D) : Option S → RE
  | none => .stuck
  | some s1 => lcT t mt me wp ds acc (mt s1)
theorem lcL_nil {t : TgM} {wp : List Nat} {acc : List D} : lcL t mt me wp [] acc s = .ok (.lst acc) (wipeS wp s) := rfl
theorem lcL_cons {t : TgM} {wp : List Nat} {ds acc : List D} : lcL t mt me wp (d :: ds) acc s = lcG t mt me wp ds acc (t d (wipeS wp s)) := by
  show (match t d (wipeS wp s) with | none => _ | some s1 => _) = _
  cases t d (wipeS wp s) with
  | none => rfl
  | some s1 =>
    dsimp only
    unfold lcG lcT
    dsimp only
    rcases mt s1 with ⟨(_ | (_ | _) | _ | _ | _ | _ | _ | _ | _ | _), s2⟩ | _ | _ <;> try rfl
@[simp] theorem lcG_some {t : TgM} {wp : List Nat} {ds acc : List D} : lcG t mt me wp ds acc (some s) = lcT t mt me wp ds acc (mt s) := rfl
@[simp] theorem lcT_t {t : TgM} {wp : List Nat} {ds acc : List D} : lcT t mt me wp ds acc (.ok (.bl true) s) = lcE t mt me wp ds acc (me s) := rfl
@[simp] theorem lcT_f {t : TgM} {wp : List Nat} {ds acc : List D} : lcT t mt me wp ds acc (.ok (.bl false) s) = lcL t mt me wp ds acc s := rfl
theorem lcE_at {t : TgM} {wp : List Nat} {ds acc : List D} (h : acc.length < sizeLine) : lcE t mt me wp ds acc (.ok d s) = lcL t mt me wp ds (acc ++ [d]) s := if_pos h
/- while -/
def whS (mc : EM) (body : SM) (wp : List Nat) (n : Nat) : RS → RS
  | .nx s2 => whileL mc body wp n s2
  | .ct s2 => whileL mc body wp n s2
  | .bk s2 => .nx (wipeS wp s2)
  | r => r
def whC (mc : EM) (body : SM) (wp : List Nat) (n : Nat) : D → S → RS
  | .bl true, s1 => whS mc body wp n (body s1)
  | .bl false, s1 => .nx s1
  | _, _ => .stuck
theorem while_succ {body : SM} {wp : List Nat} {n : Nat} : whileL mc body wp (n + 1) s = (mc (wipeS wp s)).bindS (whC mc body wp n) := by
  show (mc (wipeS wp s)).bindS _ = _
  congr 1
  funext d s1
  unfold whC
  rcases d with _ | (_ | _) | _ | _ | _ | _ | _ | _ | _ | _ <;> try rfl
  dsimp only
  unfold whS
  cases body s1 <;> rfl
@[simp] theorem whC_t {body : SM} {wp : List Nat} {n : Nat} : whC mc body wp n (.bl true) s = whS mc body wp n (body s) := rfl
@[simp] theorem whC_f {body : SM} {wp : List Nat} {n : Nat} : whC mc body wp n (.bl false) s = .nx s := rfl
@[simp] theorem whS_nx {body : SM} {wp : List Nat} {n : Nat} : whS mc body wp n (.nx s) = whileL mc body wp n s := rfl
@[simp] theorem whS_ct {body : SM} {wp : List Nat} {n : Nat} : whS mc body wp n (.ct s) = whileL mc body wp n s := rfl
@[simp] theorem whS_rt {body : SM} {wp : List Nat} {n : Nat} : whS mc body wp n (.rt d s) = .rt d s := rfl
@[simp] theorem whS_ex {body : SM} {wp : List Nat} {n : Nat} : whS mc body wp n (.ex e s) = .ex e s := rfl
/- exceptions -/
def raise1 (c : Str) (fs : List Str) : RL → RS
  | .ok ds s1 => if ds.length = fs.length ∧ ds.length ≤ 1000 then .ex ⟨c, (fs.zip ds).reverse⟩ s1 else .stuck
  | .exc e s1 => .ex e s1
  | .stuck => .stuck
@[simp] theorem sRaise_at {c : Str} {fs : List Str} : sRaise c fs am s = raise1 c fs (am s) := by
  unfold sRaise raise1
  cases am s <;> rfl
@[simp] theorem raise1_1 {c f : Str} {a : D} : raise1 c [f] (.ok [a] s) = .ex ⟨c, [(f, a)]⟩ s := rfl
@[simp] theorem raise1_2 {c f f' : Str} {a a' : D} : raise1 c [f, f'] (.ok [a, a'] s) = .ex ⟨c, [(f', a'), (f, a)]⟩ s := rfl
def try1 (hs : List HdM) : RS → RS
  | .ex e s1 => handle hs e s1
  | r => r
@[simp] theorem sTry_at {m : SM} {hs : List HdM} : sTry m hs s = try1 hs (m s) := by
  unfold sTry try1
  cases m s <;> rfl
@[simp] theorem try1_rt {hs : List HdM} : try1 hs (.rt d s) = .rt d s := rfl
@[simp] theorem try1_nx {hs : List HdM} : try1 hs (.nx s) = .nx s := rfl
@[simp] theorem try1_ex {hs : List HdM} : try1 hs (.ex e s) = handle hs e s := rfl
/- defs -/
def fin1 : RS → RF
  | .nx s => .ret .non s.cs
  | .rt d s => .ret d s.cs
  | .ex e s => .exc e s.cs
  | _ => .stuck
theorem fnF_at {N : Nat} {m : SM} {ds : List D} {cs : List Cell} : fnF N m ds cs = fin1 (m (startS N ds cs)) := by
  unfold fnF fin1
  cases m (startS N ds cs) <;> rfl
@[simp] theorem fin1_nx : fin1 (.nx s) = .ret .non s.cs := rfl
@[simp] theorem fin1_rt : fin1 (.rt d s) = .ret d s.cs := rfl
@[simp] theorem fin1_ex : fin1 (.ex e s) = .exc e s.cs := rfl
end

/-! ### the stream -/
def mNext : SM := (sSeq (sIf (eBin dEq (eBin dIx (eVarB 0) (eC (.int 1))) (eC (.int 0))) (sSeq (sSet 2 (eBin dIx (eVarB 0) (eC (.int 2))))
  (sSeq (sSet 3 (eBin dAdd (eC (.int 7)) (eVarB 2)))
  (sSeq (sIf (eBin dLt (eVarB 2) (eUn dLen (eBin dIx (eVarB 0) (eC (.int 0))))) (sSet 3 (eUn dAbs (eBin dIx (eBin dIx (eVarB 0) (eC (.int 0))) (eVarB 2)))) sNil)
  (sSeq (sIf (eBin dLt (eVarB 3) (eBin dPow (eC (.int 10)) (eC (.int 18)))) (sSeq (sSet 3 (eBin dMod (eUn dInt (eBin dAdd (eBin dAdd (eBin dMul (eVarB 3) (eC (.int 48271))) (eBin dMul (eVarB 2) (eC (.int 69621)))) (eC (.int 11)))) (eC (.int 2147483647))))
  (sSet 3 (eBin dAdd (eBin dMul (eBin dMod (eUn dInt (eBin dAdd (eBin dMul (eVarB 3) (eC (.int 16807))) (eC (.int 13)))) (eC (.int 2147483647))) (eC (.int 65537))) (eVarB 3)))) sNil)
  (sSeq (sSetC (eVar 0) (eC (.int 1)) (eVar 3))
  (sSetC (eVar 0) (eC (.int 2)) (eBin dAdd (eVarB 2) (eC (.int 1))))))))) sNil)
  (sSeq (sSet 4 (eBin dMod (eUn dInt (eBin dIx (eVarB 0) (eC (.int 1)))) (eVarB 1)))
  (sSeq (sSetC (eVar 0) (eC (.int 1)) (eBin dFdiv (eBin dIx (eVarB 0) (eC (.int 1))) (eVarB 1)))
  (sRet (eVar 4)))))
def fNext : FF := fnF 5 mNext
def strmC (l : List Int) (v j : Int) : Cell := .lst [.lst (l.map .int), .int v, .int j]
def StAt (cs : List Cell) (k : Nat) : Prop := ∃ (l : List Int) (v j : Int), cs[k]? = some (strmC l v j) ∧ 0 ≤ v ∧ 0 ≤ j
theorem atI_ints {l : List Int} {j : Int} (h0 : 0 ≤ j) (h1 : j < l.length) : ∃ n, atI (l.map D.int) j = some (.int n) := by
  unfold atI ixN
  rw [if_pos h0, if_pos (by simpa using h1)]
  have : j.toNat < l.length := by omega
  exact ⟨l[j.toNat], by simp [this]⟩
@[simp] theorem dIx_lst {ds : List D} {i : Int} : dIx (.lst ds) (.int i) = atI ds i := rfl
@[simp] theorem dIx_tup {ds : List D} {i : Int} : dIx (.tup ds) (.int i) = atI ds i := rfl
@[simp] theorem dAdd_int {i j : Int} : dAdd (.int i) (.int j) = some (.int (i + j)) := by simp [dAdd]
@[simp] theorem dSub_int {i j : Int} : dSub (.int i) (.int j) = some (.int (i - j)) := by simp [dSub]
@[simp] theorem dLt_int {i j : Int} : dLt (.int i) (.int j) = some (.bl (decide (i < j))) := by simp [dLt]
@[simp] theorem dLe_int {i j : Int} : dLe (.int i) (.int j) = some (.bl (decide (i ≤ j))) := by simp [dLe]
@[simp] theorem dGt_int {i j : Int} : dGt (.int i) (.int j) = some (.bl (decide (j < i))) := by simp [dGt]
@[simp] theorem dGe_int {i j : Int} : dGe (.int i) (.int j) = some (.bl (decide (j ≤ i))) := by simp [dGe]
@[simp] theorem dNeg_int {i : Int} : dNeg (.int i) = some (.int (-i)) := by simp [dNeg]
@[simp] theorem dLen_lst {ds : List D} : dLen (.lst ds) = some (.int ds.length) := rfl
@[simp] theorem dLen_tup {ds : List D} : dLen (.tup ds) = some (.int ds.length) := rfl
@[simp] theorem dAbs_int {i : Int} : dAbs (.int i) = some (.int (if i < 0 then -i else i)) := rfl
@[simp] theorem dInt_int {i : Int} : dInt (.int i) = some (.int i) := rfl
@[simp] theorem dInt_bl {b : Bool} : dInt (.bl b) = some (.int (if b then 1 else 0)) := rfl
theorem dMod_int {i j : Int} (h : 0 < j) : dMod (.int i) (.int j) = some (.int (i % j)) := by simp [dMod, h]
theorem dFdiv_int {i j : Int} (h : 0 < j) (h2 : j < 1073741824) : dFdiv (.int i) (.int j) = some (.int (i / j)) := by simp [dFdiv, h, h2]
theorem p64 : (2 : Int) ^ 64 = 18446744073709551616 := by decide
theorem dMul_int {i j : Int} (h : (-18446744073709551616 < i ∧ i < 18446744073709551616) ∨ (-18446744073709551616 < j ∧ j < 18446744073709551616)) : dMul (.int i) (.int j) = some (.int (i * j)) := by
  unfold dMul dMulI
  dsimp only
  rw [p64]
  exact if_pos h
@[simp] theorem dPow18 : dPow (.int 10) (.int 18) = some (.int 1000000000000000000) := by
  unfold dPow
  simp
@[simp] theorem atI_0 {d : D} {ds : List D} : atI (d :: ds) 0 = some d := by
  unfold atI ixN
  simp
@[simp] theorem atI_1 {d e : D} {ds : List D} : atI (d :: e :: ds) 1 = some e := by
  unfold atI ixN
  rw [if_pos (by decide), if_pos (by simp only [List.length_cons]; omega)]
  rfl
@[simp] theorem atI_2 {d e f : D} {ds : List D} : atI (d :: e :: f :: ds) 2 = some f := by
  unfold atI ixN
  rw [if_pos (by decide), if_pos (by simp only [List.length_cons]; omega)]
  rfl
@[simp] theorem atI_3 {d e f h : D} {ds : List D} : atI (d :: e :: f :: h :: ds) 3 = some h := by
  unfold atI ixN
  rw [if_pos (by decide), if_pos (by simp only [List.length_cons]; omega)]
  rfl
theorem get_set {cs : List Cell} {k : Nat} {c c' : Cell} (h : cs[k]? = some c) : (cs.set k c')[k]? = some c' := by
  have hl : k < cs.length := (List.getElem?_eq_some_iff.mp h).1
  rw [List.getElem?_set_self hl]
theorem sSetC3_1 {cs : List Cell} {k : Nat} {sl : List (Option SV)} {a b c dv : D} (h : cs[k]? = some (.lst [a, b, c])) : sSetC3 dv (.cell k) (.int 1) ⟨sl, cs⟩ = .nx ⟨sl, cs.set k (.lst [a, dv, c])⟩ :=
  sSetC3_at (s := ⟨sl, cs⟩) (n := 1) h (show ixN 3 1 = some 1 by decide)
theorem sSetC3_2 {cs : List Cell} {k : Nat} {sl : List (Option SV)} {a b c dv : D} (h : cs[k]? = some (.lst [a, b, c])) : sSetC3 dv (.cell k) (.int 2) ⟨sl, cs⟩ = .nx ⟨sl, cs.set k (.lst [a, b, dv])⟩ :=
  sSetC3_at (s := ⟨sl, cs⟩) (n := 2) h (show ixN 3 2 = some 2 by decide)
theorem next_tail {l : List Int} {v j many : Int} {cs : List Cell} {k : Nat} {a b c : Option SV} (hk : cs[k]? = some (strmC l v j)) (hv : 0 ≤ v) (h0 : 0 < many) (h1 : many < 1073741824) :
    (sSeq (sSet 4 (eBin dMod (eUn dInt (eBin dIx (eVarB 0) (eC (.int 1)))) (eVarB 1)))
  (sSeq (sSetC (eVar 0) (eC (.int 1)) (eBin dFdiv (eBin dIx (eVarB 0) (eC (.int 1))) (eVarB 1)))
  (sRet (eVar 4)))) ⟨[some (.val false (.cell k)), some (.val false (.int many)), a, b, c], cs⟩ = .rt (.int (v % many)) ⟨[some (.val false (.cell k)), some (.val false (.int many)), a, b, some (.val false (.int (v % many)))], cs.set k (strmC l (v / many) j)⟩ := by
  unfold strmC at hk ⊢
  simp [hk, dMod_int h0, dFdiv_int h0 h1]
  rw [sSetC3_1 hk]
  simp
theorem next_fill {l : List Int} {j many : Int} {cs : List Cell} {k : Nat} {a b c : Option SV} (hk : cs[k]? = some (strmC l 0 j)) (hj : 0 ≤ j) :
    ∃ v b', 0 ≤ v ∧ (sSeq (sSet 2 (eBin dIx (eVarB 0) (eC (.int 2))))
  (sSeq (sSet 3 (eBin dAdd (eC (.int 7)) (eVarB 2)))
  (sSeq (sIf (eBin dLt (eVarB 2) (eUn dLen (eBin dIx (eVarB 0) (eC (.int 0))))) (sSet 3 (eUn dAbs (eBin dIx (eBin dIx (eVarB 0) (eC (.int 0))) (eVarB 2)))) sNil)
  (sSeq (sIf (eBin dLt (eVarB 3) (eBin dPow (eC (.int 10)) (eC (.int 18)))) (sSeq (sSet 3 (eBin dMod (eUn dInt (eBin dAdd (eBin dAdd (eBin dMul (eVarB 3) (eC (.int 48271))) (eBin dMul (eVarB 2) (eC (.int 69621)))) (eC (.int 11)))) (eC (.int 2147483647))))
  (sSet 3 (eBin dAdd (eBin dMul (eBin dMod (eUn dInt (eBin dAdd (eBin dMul (eVarB 3) (eC (.int 16807))) (eC (.int 13)))) (eC (.int 2147483647))) (eC (.int 65537))) (eVarB 3)))) sNil)
  (sSeq (sSetC (eVar 0) (eC (.int 1)) (eVar 3))
  (sSetC (eVar 0) (eC (.int 2)) (eBin dAdd (eVarB 2) (eC (.int 1))))))))) ⟨[some (.val false (.cell k)), some (.val false (.int many)), a, b, c], cs⟩ =
      .nx ⟨[some (.val false (.cell k)), some (.val false (.int many)), some (.val false (.int j)), b', c], cs.set k (strmC l v (j + 1))⟩ := by
  unfold strmC at hk ⊢
  have fin : ∀ (x : Int) (hx : 0 ≤ x), ∃ v b', 0 ≤ v ∧ (sSeq (sIf (eBin dLt (eVarB 3) (eBin dPow (eC (.int 10)) (eC (.int 18)))) (sSeq (sSet 3 (eBin dMod (eUn dInt (eBin dAdd (eBin dAdd (eBin dMul (eVarB 3) (eC (.int 48271))) (eBin dMul (eVarB 2) (eC (.int 69621)))) (eC (.int 11)))) (eC (.int 2147483647))))
  (sSet 3 (eBin dAdd (eBin dMul (eBin dMod (eUn dInt (eBin dAdd (eBin dMul (eVarB 3) (eC (.int 16807))) (eC (.int 13)))) (eC (.int 2147483647))) (eC (.int 65537))) (eVarB 3)))) sNil)
  (sSeq (sSetC (eVar 0) (eC (.int 1)) (eVar 3))
  (sSetC (eVar 0) (eC (.int 2)) (eBin dAdd (eVarB 2) (eC (.int 1)))))) ⟨[some (.val false (.cell k)), some (.val false (.int many)), some (.val false (.int j)), some (.val false (.int x)), c], cs⟩ =
      .nx ⟨[some (.val false (.cell k)), some (.val false (.int many)), some (.val false (.int j)), b', c], cs.set k (.lst [.lst (l.map .int), .int v, .int (j + 1)])⟩ := by
    intro x hx
    have tail : ∀ v : Int, (sSeq (sSetC (eVar 0) (eC (.int 1)) (eVar 3))
  (sSetC (eVar 0) (eC (.int 2)) (eBin dAdd (eVarB 2) (eC (.int 1))))) ⟨[some (.val false (.cell k)), some (.val false (.int many)), some (.val false (.int j)), some (.val false (.int v)), c], cs⟩ =
      .nx ⟨[some (.val false (.cell k)), some (.val false (.int many)), some (.val false (.int j)), some (.val false (.int v)), c], cs.set k (.lst [.lst (l.map .int), .int v, .int (j + 1)])⟩ := by
      intro v
      simp
      rw [sSetC3_1 hk]
      simp
      rw [sSetC3_2 (get_set hk)]
      simp
    suffices step : ∃ v : Int, 0 ≤ v ∧ (sIf (eBin dLt (eVarB 3) (eBin dPow (eC (.int 10)) (eC (.int 18)))) (sSeq (sSet 3 (eBin dMod (eUn dInt (eBin dAdd (eBin dAdd (eBin dMul (eVarB 3) (eC (.int 48271))) (eBin dMul (eVarB 2) (eC (.int 69621)))) (eC (.int 11)))) (eC (.int 2147483647))))
  (sSet 3 (eBin dAdd (eBin dMul (eBin dMod (eUn dInt (eBin dAdd (eBin dMul (eVarB 3) (eC (.int 16807))) (eC (.int 13)))) (eC (.int 2147483647))) (eC (.int 65537))) (eVarB 3)))) sNil) ⟨[some (.val false (.cell k)), some (.val false (.int many)), some (.val false (.int j)), some (.val false (.int x)), c], cs⟩ =
        .nx ⟨[some (.val false (.cell k)), some (.val false (.int many)), some (.val false (.int j)), some (.val false (.int v)), c], cs⟩ by
      obtain ⟨v, hv, e⟩ := step
      exact ⟨v, some (.val false (.int v)), hv, by rw [sSeq_at, e, seq1_nx]; exact tail v⟩
    by_cases h : x < 1000000000000000000
    · refine ⟨(((x * 48271 + j * 69621 + 11) % 2147483647 * 16807 + 13) % 2147483647) * 65537 + (x * 48271 + j * 69621 + 11) % 2147483647, ?_, by simp [h, dMul_int, dMod_int]⟩
      · have h1 := Int.emod_nonneg (x * 48271 + j * 69621 + 11) (show (2147483647 : Int) ≠ 0 by decide)
        have h2 := Int.emod_nonneg ((x * 48271 + j * 69621 + 11) % 2147483647 * 16807 + 13) (show (2147483647 : Int) ≠ 0 by decide)
        omega
    · exact ⟨x, hx, by simp [h]⟩
  by_cases hlt : j < l.length
  · obtain ⟨n, hn⟩ := atI_ints hj hlt
    have hx : (0 : Int) ≤ if n < 0 then -n else n := by split <;> omega
    obtain ⟨v, b', h1, h2⟩ := fin _ hx
    refine ⟨v, b', h1, ?_⟩
    rw [← h2, sSeq_at]
    simp [hlt, hn, hk]
  · obtain ⟨v, b', h1, h2⟩ := fin (7 + j) (by omega)
    refine ⟨v, b', h1, ?_⟩
    rw [← h2, sSeq_at]
    simp [hlt, hk]
theorem next_ok {cs : List Cell} {k : Nat} {many : Int} (hs : StAt cs k) (h0 : 0 < many) (h1 : many < 1073741824) :
    ∃ (d : Int) (c : Cell), fNext [.cell k, .int many] cs = .ret (.int d) (cs.set k c) ∧ 0 ≤ d ∧ d < many ∧ StAt (cs.set k c) k := by
  obtain ⟨l, v, j, hk, hv, hj⟩ := hs
  have go : ∀ (v j : Int) (cs' : List Cell) (a b c : Option SV), cs'[k]? = some (strmC l v j) → 0 ≤ v → 0 ≤ j → cs' = cs ∨ (∃ c', cs' = cs.set k c') → ∃ (d : Int) (c' : Cell), fin1 ((sSeq (sSet 4 (eBin dMod (eUn dInt (eBin dIx (eVarB 0) (eC (.int 1)))) (eVarB 1)))
  (sSeq (sSetC (eVar 0) (eC (.int 1)) (eBin dFdiv (eBin dIx (eVarB 0) (eC (.int 1))) (eVarB 1)))
  (sRet (eVar 4)))) ⟨[some (.val false (.cell k)), some (.val false (.int many)), a, b, c], cs'⟩) = .ret (.int d) (cs.set k c') ∧ 0 ≤ d ∧ d < many ∧ StAt (cs.set k c') k := by
    intro v j cs' a b c hk hv hj hc
    rw [next_tail hk hv h0 h1]
    refine ⟨v % many, strmC l (v / many) j, ?_, Int.emod_nonneg _ (by omega), Int.emod_lt_of_pos _ h0, l, v / many, j, ?_, Int.ediv_nonneg hv (by omega), hj⟩
    · rcases hc with rfl | ⟨c', rfl⟩
      · rfl
      · simp
    · rcases hc with rfl | ⟨c', rfl⟩
      · exact get_set hk
      · rw [List.getElem?_set_self]
        have := (List.getElem?_eq_some_iff.mp hk).1
        simpa using this
  unfold fNext
  rw [fnF_at]
  unfold mNext
  rw [sSeq_at]
  by_cases hz : v = 0
  · subst hz
    obtain ⟨v', b', hv', e⟩ := next_fill (many := many) (a := none) (b := none) (c := none) hk hj
    have e0 : startS 5 [D.cell k, D.int many] cs = ⟨[some (.val false (.cell k)), some (.val false (.int many)), none, none, none], cs⟩ := rfl
    rw [e0, sIf_at]
    have e1 : (eBin dEq (eBin dIx (eVarB 0) (eC (.int 1))) (eC (.int 0))) ⟨[some (.val false (.cell k)), some (.val false (.int many)), none, none, none], cs⟩ = .ok (.bl true) ⟨[some (.val false (.cell k)), some (.val false (.int many)), none, none, none], cs⟩ := by
      unfold strmC at hk
      simp [hk]
    rw [e1, bindS_ok, sIf1_t, e, seq1_nx]
    exact go v' (j + 1) _ _ _ _ (get_set hk) hv' (by omega) (.inr ⟨_, rfl⟩)
  · have e0 : startS 5 [D.cell k, D.int many] cs = ⟨[some (.val false (.cell k)), some (.val false (.int many)), none, none, none], cs⟩ := rfl
    rw [e0, sIf_at]
    have e1 : (eBin dEq (eBin dIx (eVarB 0) (eC (.int 1))) (eC (.int 0))) ⟨[some (.val false (.cell k)), some (.val false (.int many)), none, none, none], cs⟩ = .ok (.bl false) ⟨[some (.val false (.cell k)), some (.val false (.int many)), none, none, none], cs⟩ := by
      unfold strmC at hk
      simp [hk, hz]
    rw [e1, bindS_ok, sIf1_f, sNil_at, seq1_nx]
    exact go v j cs _ _ _ hk hv hj (.inl rfl)
end Mv
set_option Elab.async false
set_option linter.all false
set_option maxRecDepth 100000
set_option maxHeartbeats 2000000
/-! Mv17: texts on the plain side. -/
namespace Mv
open PySem PySem.Spec PyProof.Rows L2
/-- a text of these signs -/
abbrev tx (l : List Nat) : Str := ⟨l.toArray⟩
@[simp] theorem tx_len (l : List Nat) : (tx l).length = l.length := by
  show (l.toArray).size = _
  simp
theorem tx_of (z : Str) : z = tx z.cps.toList := by
  obtain ⟨⟨l⟩⟩ := z
  rfl
theorem tx_app (a b : List Nat) : tx a ++ tx b = tx (a ++ b) := by
  show Str.append (tx a) (tx b) = _
  unfold Str.append
  simp
@[simp] theorem tx_inj {a b : List Nat} : tx a = tx b ↔ a = b := by
  constructor
  · intro h
    have := congrArg (fun z : Str => z.cps.toList) h
    simpa using this
  · intro h; rw [h]
theorem subStr_one (c : Nat) (l : List Nat) : subStr (tx [c]) (tx l) = decide (c ∈ l) := by
  unfold subStr
  have := PySem.StrLaws.found_one (tx l) c
  simpa using this
theorem strOk_tx {l : List Nat} : PyData.strOk (tx l) = l.all (· < 0x110000) := by
  unfold PyData.strOk
  simp
theorem len_le {n : Nat} (h : n ≤ 100000) : n ≤ sizeLine := by rw [sizeLine_eq]; omega
theorem dLen_tx {l : List Nat} (h : l.length ≤ 100000) : dLen (.str (tx l)) = some (.int l.length) := by
  unfold dLen
  simp only [tx_len]
  rw [if_pos (len_le h)]
theorem dIx_tx {l : List Nat} {i : Nat} {c : Nat} (h : l.length ≤ 100000) (hc : l[i]? = some c) : dIx (.str (tx l)) (.int i) = some (.str (tx [c])) := by
  unfold dIx
  simp only [tx_len]
  rw [if_pos (len_le h)]
  have hl := (List.getElem?_eq_some_iff.mp hc).1
  unfold atI ixN
  rw [if_pos (by omega), if_pos (by omega)]
  simp [hc]
theorem dIn_tx {c : Nat} {l : List Nat} : dIn (.str (tx [c])) (.str (tx l)) = some (.bl (decide (c ∈ l))) := by
  simp only [dIn, dInB, Option.map_some, subStr_one]
theorem dNotIn_tx {c : Nat} {l : List Nat} : dNotIn (.str (tx [c])) (.str (tx l)) = some (.bl (!decide (c ∈ l))) := by
  simp only [dNotIn, dInB, Option.map_some, subStr_one]
theorem dAdd_tx {a b : List Nat} (h : a.length + b.length ≤ 100000) : dAdd (.str (tx a)) (.str (tx b)) = some (.str (tx (a ++ b))) := by
  unfold dAdd
  simp only [tx_len]
  rw [if_pos (len_le h), tx_app]
theorem cut_tx {l : List Nat} {a b : Nat} (h1 : a ≤ b) (h2 : b ≤ l.length) : cutS (tx l) (some (a : Int)) (some (b : Int)) = tx ((l.drop a).take (b - a)) := by
  unfold cutS
  rw [tx_len, HT.sIx_nat, HT.sIx_nat, Nat.min_eq_left h2, Nat.min_eq_left (Nat.le_trans h1 h2)]
theorem cut_tx' {l : List Nat} {a b : Nat} : cutS (tx l) (some (a : Int)) (some (b : Int)) = tx ((l.drop (min a l.length)).take (min b l.length - min a l.length)) := by
  unfold cutS
  rw [tx_len, HT.sIx_nat, HT.sIx_nat]
theorem dSl_tx {l : List Nat} {lo hi : Option Int} (h : l.length ≤ 100000) : dSl (.str (tx l)) lo hi = some (.str (cutS (tx l) lo hi)) := by
  unfold dSl
  dsimp only
  rw [tx_len, if_pos (len_le h)]
theorem dEq_tx {a b : List Nat} (h1 : a.all (· < 0x110000) = true) (h2 : b.all (· < 0x110000) = true) : dEq (.str (tx a)) (.str (tx b)) = some (.bl (decide (a = b))) := by
  rw [dEq_str (by rw [strOk_tx]; exact h1) (by rw [strOk_tx]; exact h2)]
  simp
/-- what is taken as long as p holds -/
theorem takeWhile_app {p : Nat → Bool} {w r : List Nat} (hw : ∀ c ∈ w, p c = true) (hr : ∀ c, r.head? = some c → p c = false) : (w ++ r).takeWhile p = w := by
  induction w with
  | nil =>
    cases r with
    | nil => rfl
    | cons c r =>
      have := hr c rfl
      simp [List.takeWhile_cons, this]
  | cons c w ih =>
    have h1 := hw c (by simp)
    simp [List.takeWhile_cons, h1, ih (fun x hx => hw x (by simp [hx]))]
end Mv
set_option Elab.async false
set_option linter.all false
set_option maxRecDepth 100000
set_option maxHeartbeats 2000000
namespace K72
open PySem PySem.Spec PyProof.Rows L2 Mv
def top (i : Nat) : Stmt := PySem.Challenge.pw_allbide_k72_tokens_of_texts.main.body.getD i (.Pass ⟨0, 0, 0, 0⟩)
section
/-- what the walks need of the module -/
structure GF (P : Program) (w : World) (K : PySem.W.Frag) (mg : Str → Option Value) (base : Heap) : Prop where
  b_abs : mg "abs" = none
  b_all : mg "all" = none
  b_bool : mg "bool" = none
  b_enumerate : mg "enumerate" = none
  b_int : mg "int" = none
  b_isinstance : mg "isinstance" = none
  b_len : mg "len" = none
  b_list : mg "list" = none
  b_max : mg "max" = none
  b_range : mg "range" = none
  b_str : mg "str" = none
  b_tuple : mg "tuple" = none
  k_DIGITS : ∃ t, mg "DIGITS" = some (.str "0123456789" t)
  k_EVENTS : ∃ t, mg "EVENTS" = some (.str "abcdef" t)
  k_LONGEST_TEXT : ∃ t, mg "LONGEST_TEXT" = some (.int (600) t)
  k_LOWER : ∃ t, mg "LOWER" = some (.str "abcdefghijklmnopqrstuvwxyz" t)
  k_MOST_DIGITS : ∃ t, mg "MOST_DIGITS" = some (.int (6) t)
  k_SIGNS : KTup K mg "SIGNS" [.str ":", .str ";", .str ",", .str "=", .str "-", .str ".."]
  e_BadValue : mg "BadValue" = some (.ref (He.ga K "BadValue"))
  e_BideError : mg "BideError" = some (.ref (He.ga K "BideError"))
  e_TextError : mg "TextError" = some (.ref (He.ga K "TextError"))
  h_BadValue : ∀ q ∈ ([("BadValue", true), ("TextError", false)] : List (Str × Bool)), ∀ C, mg q.1 = some (.ref C) → PySem.W.exmOne K (.ref C) (.ref (He.ga K "BadValue")) = some q.2
  h_TextError : ∀ q ∈ ([("BadValue", false), ("TextError", true)] : List (Str × Bool)), ∀ C, mg q.1 = some (.ref C) → PySem.W.exmOne K (.ref C) (.ref (He.ga K "TextError")) = some q.2
  i_BideError : ∀ q ∈ ([("BadValue", true), ("TextError", true)] : List (Str × Bool)), ∀ C, mg q.1 = some (.ref C) → IsF K C ∧ PySem.W.kitOne K (.ref C) (.ref (He.ga K "BideError")) = some q.2
  a_column : ∀ c ∈ (["TextError"] : List Str), ∀ C, mg c = some (.ref C) → XfC K C ∧ PySem.W.findIn K (.ref C) "column" = some none
  a_name : ∀ c ∈ (["BadValue"] : List Str), ∀ C, mg c = some (.ref C) → XfC K C ∧ PySem.W.findIn K (.ref C) "name" = some none
  a_words : ∀ c ∈ (["TextError"] : List Str), ∀ C, mg c = some (.ref C) → XfC K C ∧ PySem.W.findIn K (.ref C) "words" = some none
end
/-! ### _law_is_integer -/
abbrev s__law_is_integer : Stmt := top 18
theorem sc__law_is_integer : FnScope ["_law_actual"] ["_law_actual"] (defScope s__law_is_integer) := ⟨rfl, rfl, rfl, by decide +kernel, rfl, by decide +kernel, by decide +kernel⟩
def m__law_is_integer : SM := (sRet (eAnd (eUn (dIs .int) (eVarB 0)) (eNot (eUn (dIs .bool) (eVarB 0)))))
def f__law_is_integer : FF := fnF 1 m__law_is_integer
section
variable {P : Program} {w : World} {K : PySem.W.Frag} {mg : Str → Option Value} {base : Heap} {a : Addr} {fd : FuncData}
theorem w__law_is_integer (F : FnP K "_law_is_integer" s__law_is_integer a fd) (hm : mg "_law_is_integer" = some (.ref a)) (g : GF P w K mg base) : CalF P w K mg base 1 "_law_is_integer" 1 f__law_is_integer :=
  have S := sc__law_is_integer
  ⟨a, fd, ["_law_actual"], rfl, fn_ok F S fun cdv A outer s H E hr => have hu := hr.un65; (es_one (es_ret (ex_of (ev_and (ev_is .int rfl g.b_isinstance rfl g.b_int rfl (ev_varB (i := 0) rfl (.inl rfl))) (ev_one (ev_not (ev_is .bool rfl g.b_isinstance rfl g.b_bool rfl (ev_varB (i := 0) rfl (.inl rfl))))))))), hm, F.kp, (F.bindsN fun _ _ _ _ _ _ us hl => match us, hl with | [_], _ => rfl)⟩
end
/-! ### _law_equal -/
abbrev s__law_equal : Stmt := top 19
theorem sc__law_equal : FnScope ["_law_actual", "_law_due", "_law_at"] ["_law_actual", "_law_due"] (defScope s__law_equal) := ⟨rfl, rfl, rfl, by decide +kernel, rfl, by decide +kernel, by decide +kernel⟩
def m__law_equal (self : FF) : SM := (sSeq (sIf (eBin dIsN (eVarB 1) (eC .non)) (sRet (eBin dIsN (eVarB 0) (eC .non))) sNil)
  (sSeq (sIf (eUn (dIs .bool) (eVarB 1)) (sRet (eAnd (eUn (dIs .bool) (eVarB 0)) (eBin dEq (eVarB 0) (eVarB 1)))) sNil)
  (sSeq (sIf (eUn (dIs .int) (eVarB 1)) (sRet (eAnd (eCallF f__law_is_integer (aCons (eVar 0) aNil)) (eBin dEq (eVarB 0) (eVarB 1)))) sNil)
  (sSeq (sIf (eUn (dIs .str) (eVarB 1)) (sRet (eAnd (eUn (dIs .str) (eVarB 0)) (eBin dEq (eVarB 0) (eVarB 1)))) sNil)
  (sSeq (sIf (eAnd (eUn (dIs .tuple) (eVarB 1)) (eNot (eUn (dIs .tuple) (eVarB 0)))) (sRet (eC (.bl false))) sNil)
  (sSeq (sIf (eAnd (eUn (dIs .list) (eVarB 1)) (eNot (eUn (dIs .list) (eVarB 0)))) (sRet (eC (.bl false))) sNil)
  (sSeq (sIf (eBin dNe (eUn dLen (eVarB 0)) (eUn dLen (eVarB 1))) (sRet (eC (.bl false))) sNil)
  (sRet (eUn dAll (eLc (iRng1 (eUn dLen (eVarB 1))) (gNm 2) eYes (eCallF self (aCons (eBin dIx (eVarB 0) (eVarB 2)) (aCons (eBin dIx (eVarB 1) (eVarB 2)) aNil))) [2]))))))))))
def f__law_equal : Nat → FF
  | 0 => fun _ _ => .stuck
  | n + 1 => fnF 3 (m__law_equal (f__law_equal n))
section
variable {P : Program} {w : World} {K : PySem.W.Frag} {mg : Str → Option Value} {base : Heap} {a : Addr} {fd : FuncData}
theorem w__law_equal (F : FnP K "_law_equal" s__law_equal a fd) (hm : mg "_law_equal" = some (.ref a)) (g : GF P w K mg base) (c__law_is_integer : CalF P w K mg base 1 "_law_is_integer" 1 f__law_is_integer) : ∀ n : Nat, CalF P w K mg base (2 + n) "_law_equal" 2 (f__law_equal n)
  | 0 => ⟨a, fd, ["_law_actual", "_law_due"], rfl, FnOk.stuck rfl, hm, F.kp, (F.bindsN fun _ _ _ _ _ _ us hl => match us, hl with | [_, _], _ => rfl)⟩
  | n + 1 => by
    have S := sc__law_equal
    have cself := w__law_equal F hm g c__law_is_integer n
    exact ⟨a, fd, ["_law_actual", "_law_due"], rfl, fn_ok F S fun cdv A outer s H E hr => have hu := hr.un65; (es_cons (es_if (et_isN (ev_varB (i := 1) rfl (.inr (.inl rfl))) (EvE.toB ev_non)) (es_one (es_ret (ex_of (ev_isN (ev_varB (i := 0) rfl (.inr (.inl rfl))) (EvE.toB ev_non))))) es_nil)
  (es_cons (es_if (et_val (EvE.toB (ev_is .bool rfl g.b_isinstance rfl g.b_bool rfl (ev_varB (i := 1) rfl (.inr (.inl rfl)))))) (es_one (es_ret (ex_of (ev_and (ev_is .bool rfl g.b_isinstance rfl g.b_bool rfl (ev_varB (i := 0) rfl (.inr (.inl rfl)))) (ev_one (ev_eq hu (ev_varB (i := 0) rfl (.inr (.inl rfl))) (ev_varB (i := 1) rfl (.inr (.inl rfl))))))))) es_nil)
  (es_cons (es_if (et_val (EvE.toB (ev_is .int rfl g.b_isinstance rfl g.b_int rfl (ev_varB (i := 1) rfl (.inr (.inl rfl)))))) (es_one (es_ret (ex_of (ev_and (ev_call (c__law_is_integer.mono (k := 2 + n) (by omega)) hr rfl tk_cx (amLen_cons amLen_nil) (ea_cons (ev_var (i := 0) rfl (.inr (.inl rfl))) ea_nil)) (ev_one (ev_eq hu (ev_varB (i := 0) rfl (.inr (.inl rfl))) (ev_varB (i := 1) rfl (.inr (.inl rfl))))))))) es_nil)
  (es_cons (es_if (et_val (EvE.toB (ev_is .str rfl g.b_isinstance rfl g.b_str rfl (ev_varB (i := 1) rfl (.inr (.inl rfl)))))) (es_one (es_ret (ex_of (ev_and (ev_is .str rfl g.b_isinstance rfl g.b_str rfl (ev_varB (i := 0) rfl (.inr (.inl rfl)))) (ev_one (ev_eq hu (ev_varB (i := 0) rfl (.inr (.inl rfl))) (ev_varB (i := 1) rfl (.inr (.inl rfl))))))))) es_nil)
  (es_cons (es_if (et_w (ew_and (et_val (EvE.toB (ev_is .tuple rfl g.b_isinstance rfl g.b_tuple rfl (ev_varB (i := 1) rfl (.inr (.inl rfl)))))) (ew_and1 (et_not (et_val (EvE.toB (ev_is .tuple rfl g.b_isinstance rfl g.b_tuple rfl (ev_varB (i := 0) rfl (.inr (.inl rfl)))))))))) (es_one (es_ret (ex_of ev_bl))) es_nil)
  (es_cons (es_if (et_w (ew_and (et_val (EvE.toB (ev_is .list rfl g.b_isinstance rfl g.b_list rfl (ev_varB (i := 1) rfl (.inr (.inl rfl)))))) (ew_and1 (et_not (et_val (EvE.toB (ev_is .list rfl g.b_isinstance rfl g.b_list rfl (ev_varB (i := 0) rfl (.inr (.inl rfl)))))))))) (es_one (es_ret (ex_of ev_bl))) es_nil)
  (es_cons (es_if (et_ne hu (EvE.toB (ev_len g.b_len rfl (ev_varB (i := 0) rfl (.inr (.inl rfl))))) (EvE.toB (ev_len g.b_len rfl (ev_varB (i := 1) rfl (.inr (.inl rfl)))))) (es_one (es_ret (ex_of ev_bl))) es_nil)
  (es_one (es_ret (ex_of (ev_all rfl g.b_all rfl (EvE.fzb (ev_lc (own := [("_law_at", 2)]) rfl S.nd (ei_rng1 rfl g.b_range (EvE.toB (ev_len g.b_len rfl (ev_varB (i := 1) rfl (.inr (.inl rfl)))))) (blkOk_of (by kernel_rfl)) (fun _ _ _ _ _ => (eg_name (i := 2) S.nd rfl (.inl rfl))) (fun _ _ _ _ _ => ets_nil) (fun _ _ _ _ _ => (ev_call cself hr rfl takes_no (amLen_cons (amLen_cons amLen_nil)) (ea_cons (ev_ix hu (ev_varB (i := 0) rfl (.inr (.inl rfl))) (ev_varB (i := 2) rfl (.inl rfl))) (ea_cons (ev_ix hu (ev_varB (i := 1) rfl (.inr (.inl rfl))) (ev_varB (i := 2) rfl (.inl rfl))) ea_nil))))))))))))))))), hm, F.kp, (F.bindsN fun _ _ _ _ _ _ us hl => match us, hl with | [_, _], _ => rfl)⟩
end
/-! ### _law_kind -/
abbrev s__law_kind : Stmt := top 22
theorem sc__law_kind : FnScope ["_law_word"] ["_law_word"] (defScope s__law_kind) := ⟨rfl, rfl, rfl, by decide +kernel, rfl, by decide +kernel, by decide +kernel⟩
def m__law_kind : SM := (sSeq (sIf (eBin dEq (eVarB 0) (eC (.str "in"))) (sRet (eC (.str "word"))) sNil)
  (sSeq (sIf (eBin dIn (eBin dIx (eVarB 0) (eC (.int 0))) (eC (.str "abcdef"))) (sRet (eC (.str "event"))) sNil)
  (sRet (eIf (eBin dIn (eBin dIx (eVarB 0) (eC (.int 0))) (eC (.str "0123456789"))) (eC (.str "number")) (eC (.str "sign"))))))
def f__law_kind : FF := fnF 1 m__law_kind
section
variable {P : Program} {w : World} {K : PySem.W.Frag} {mg : Str → Option Value} {base : Heap} {a : Addr} {fd : FuncData}
theorem w__law_kind (F : FnP K "_law_kind" s__law_kind a fd) (hm : mg "_law_kind" = some (.ref a)) (g : GF P w K mg base) : CalF P w K mg base 1 "_law_kind" 1 f__law_kind :=
  have S := sc__law_kind
  ⟨a, fd, ["_law_word"], rfl, fn_ok F S fun cdv A outer s H E hr => have hu := hr.un65; (es_cons (es_if (et_eq hu (ev_varB (i := 0) rfl (.inl rfl)) (EvE.toB ev_str)) (es_one (es_ret (ex_of ev_str))) es_nil)
  (es_cons (es_if (et_in hu (EvE.toB (ev_ix hu (ev_varB (i := 0) rfl (.inl rfl)) (EvE.toB ev_int))) (EvE.toB ev_str)) (es_one (es_ret (ex_of ev_str))) es_nil)
  (es_one (es_ret (ex_of (ev_if (et_in hu (EvE.toB (ev_ix hu (ev_varB (i := 0) rfl (.inl rfl)) (EvE.toB ev_int))) (EvE.toB ev_str)) ev_str ev_str)))))), hm, F.kp, (F.bindsN fun _ _ _ _ _ _ us hl => match us, hl with | [_], _ => rfl)⟩
end
/-! ### _law_next -/
abbrev s__law_next : Stmt := top 17
theorem sc__law_next : FnScope ["_law_stream_here", "_law_many", "_law_k", "_law_cell", "_law_digit"] ["_law_stream_here", "_law_many"] (defScope s__law_next) := ⟨rfl, rfl, rfl, by decide +kernel, rfl, by decide +kernel, by decide +kernel⟩
def m__law_next : SM := (sSeq (sIf (eBin dEq (eBin dIx (eVarB 0) (eC (.int 1))) (eC (.int 0))) (sSeq (sSet 2 (eBin dIx (eVarB 0) (eC (.int 2))))
  (sSeq (sSet 3 (eBin dAdd (eC (.int 7)) (eVarB 2)))
  (sSeq (sIf (eBin dLt (eVarB 2) (eUn dLen (eBin dIx (eVarB 0) (eC (.int 0))))) (sSet 3 (eUn dAbs (eBin dIx (eBin dIx (eVarB 0) (eC (.int 0))) (eVarB 2)))) sNil)
  (sSeq (sIf (eBin dLt (eVarB 3) (eBin dPow (eC (.int 10)) (eC (.int 18)))) (sSeq (sSet 3 (eBin dMod (eUn dInt (eBin dAdd (eBin dAdd (eBin dMul (eVarB 3) (eC (.int 48271))) (eBin dMul (eVarB 2) (eC (.int 69621)))) (eC (.int 11)))) (eC (.int 2147483647))))
  (sSet 3 (eBin dAdd (eBin dMul (eBin dMod (eUn dInt (eBin dAdd (eBin dMul (eVarB 3) (eC (.int 16807))) (eC (.int 13)))) (eC (.int 2147483647))) (eC (.int 65537))) (eVarB 3)))) sNil)
  (sSeq (sSetC (eVar 0) (eC (.int 1)) (eVar 3))
  (sSetC (eVar 0) (eC (.int 2)) (eBin dAdd (eVarB 2) (eC (.int 1))))))))) sNil)
  (sSeq (sSet 4 (eBin dMod (eUn dInt (eBin dIx (eVarB 0) (eC (.int 1)))) (eVarB 1)))
  (sSeq (sSetC (eVar 0) (eC (.int 1)) (eBin dFdiv (eBin dIx (eVarB 0) (eC (.int 1))) (eVarB 1)))
  (sRet (eVar 4)))))
def f__law_next : FF := fnF 5 m__law_next
section
variable {P : Program} {w : World} {K : PySem.W.Frag} {mg : Str → Option Value} {base : Heap} {a : Addr} {fd : FuncData}
theorem w__law_next (F : FnP K "_law_next" s__law_next a fd) (hm : mg "_law_next" = some (.ref a)) (g : GF P w K mg base) : CalF P w K mg base 1 "_law_next" 2 f__law_next :=
  have S := sc__law_next
  ⟨a, fd, ["_law_stream_here", "_law_many"], rfl, fn_ok F S fun cdv A outer s H E hr => have hu := hr.un65; (es_cons (es_if (et_eq hu (EvE.toB (ev_ix hu (ev_varB (i := 0) rfl (.inl rfl)) (EvE.toB ev_int))) (EvE.toB ev_int)) (es_cons (es_set (i := 2) S.nd rfl (.inl rfl) (ex_of (ev_ix hu (ev_varB (i := 0) rfl (.inl rfl)) (EvE.toB ev_int))))
  (es_cons (es_set (i := 3) S.nd rfl (.inl rfl) (ex_of (ev_add (EvE.toB ev_int) (ev_varB (i := 2) rfl (.inl rfl)))))
  (es_cons (es_if (et_lt (ev_varB (i := 2) rfl (.inl rfl)) (EvE.toB (ev_len g.b_len rfl (EvE.toB (ev_ix hu (ev_varB (i := 0) rfl (.inl rfl)) (EvE.toB ev_int)))))) (es_one (es_set (i := 3) S.nd rfl (.inl rfl) (ex_of (ev_abs g.b_abs rfl (EvE.toB (ev_ix hu (EvE.toB (ev_ix hu (ev_varB (i := 0) rfl (.inl rfl)) (EvE.toB ev_int))) (ev_varB (i := 2) rfl (.inl rfl)))))))) es_nil)
  (es_cons (es_if (et_lt (ev_varB (i := 3) rfl (.inl rfl)) (EvE.toB (ev_pow (EvE.toB ev_int) (EvE.toB ev_int)))) (es_cons (es_set (i := 3) S.nd rfl (.inl rfl) (ex_of (ev_mod (EvE.toB (ev_toInt g.b_int rfl (EvE.toB (ev_add (EvE.toB (ev_add (EvE.toB (ev_mul (ev_varB (i := 3) rfl (.inl rfl)) (EvE.toB ev_int))) (EvE.toB (ev_mul (ev_varB (i := 2) rfl (.inl rfl)) (EvE.toB ev_int))))) (EvE.toB ev_int))))) (EvE.toB ev_int))))
  (es_one (es_set (i := 3) S.nd rfl (.inl rfl) (ex_of (ev_add (EvE.toB (ev_mul (EvE.toB (ev_mod (EvE.toB (ev_toInt g.b_int rfl (EvE.toB (ev_add (EvE.toB (ev_mul (ev_varB (i := 3) rfl (.inl rfl)) (EvE.toB ev_int))) (EvE.toB ev_int))))) (EvE.toB ev_int))) (EvE.toB ev_int))) (ev_varB (i := 3) rfl (.inl rfl))))))) es_nil)
  (es_cons (es_setC (ev_var (i := 0) rfl (.inl rfl)) (EvE.toB ev_int) (ex_of (ev_var (i := 3) rfl (.inl rfl))))
  (es_one (es_setC (ev_var (i := 0) rfl (.inl rfl)) (EvE.toB ev_int) (ex_of (ev_add (ev_varB (i := 2) rfl (.inl rfl)) (EvE.toB ev_int)))))))))) es_nil)
  (es_cons (es_set (i := 4) S.nd rfl (.inl rfl) (ex_of (ev_mod (EvE.toB (ev_toInt g.b_int rfl (EvE.toB (ev_ix hu (ev_varB (i := 0) rfl (.inl rfl)) (EvE.toB ev_int))))) (ev_varB (i := 1) rfl (.inl rfl)))))
  (es_cons (es_setC (ev_var (i := 0) rfl (.inl rfl)) (EvE.toB ev_int) (ex_of (ev_fdiv (EvE.toB (ev_ix hu (ev_varB (i := 0) rfl (.inl rfl)) (EvE.toB ev_int))) (ev_varB (i := 1) rfl (.inl rfl)))))
  (es_one (es_ret (ex_of (ev_var (i := 4) rfl (.inl rfl)))))))), hm, F.kp, (F.bindsN fun _ _ _ _ _ _ us hl => match us, hl with | [_, _], _ => rfl)⟩
end
/-! ### _law_laid -/
abbrev s__law_laid : Stmt := top 21
theorem sc__law_laid : FnScope ["_law_stream_here", "_law_words", "_law_text", "_law_places", "_law_k", "_law_word", "_law_near", "_law_kind_here"] ["_law_stream_here", "_law_words"] (defScope s__law_laid) := ⟨rfl, rfl, rfl, by decide +kernel, rfl, by decide +kernel, by decide +kernel⟩
def m__law_laid : SM := (sSeq (sSet 2 (eC (.str "")))
  (sSeq (sSetO 3 (eLst aNil))
  (sSeq (sFor (iEnumM (eVar 1)) (gTp 2 (gsCons (gNm 4) (gsCons (gNm 5) gsNil)))
  (sSeq (sSet 6 (eC (.int 0)))
  (sSeq (sIf (eBin dGt (eVarB 4) (eC (.int 0))) (sFor (iSeq (eLst (aCons (eC (.str "0123456789")) (aCons (eC (.str "abcdefghijklmnopqrstuvwxyz")) (aCons (eC (.str ".")) aNil))))) (gNm 7)
  (sSet 6 (eBin dMax2 (eVarB 6) (eUn dInt (eAnd (eBin dIn (eSl dSl (eBin dIx (eVarB 1) (eBin dSub (eVarB 4) (eC (.int 1)))) (pSome (eUn dNeg (eC (.int 1)))) pNone) (eVarB 7)) (eBin dIn (eSl dSl (eVarB 5) pNone (pSome (eC (.int 1)))) (eVarB 7)))))) [7]) sNil)
  (sSeq (sSet 2 (eBin dAdd (eVarB 2) (eBin dIx (eLst (aCons (eC (.str "")) (aCons (eC (.str " ")) (aCons (eC (.str "  ")) (aCons (eC (.str "   ")) aNil))))) (eBin dMax2 (eVarB 6) (eCallF f__law_next (aCons (eVar 0) (aCons (eC (.int 4)) aNil)))))))
  (sSeq (sExpr (eMut 3 lAppend (aCons (eBin dAdd (eUn dLen (eVarB 2)) (eC (.int 1))) aNil)))
  (sSet 2 (eBin dAdd (eVarB 2) (eVarB 5))))))) [4, 5, 6, 7])
  (sSeq (sSet 2 (eBin dAdd (eVarB 2) (eBin dIx (eLst (aCons (eC (.str "")) (aCons (eC (.str " ")) (aCons (eC (.str "  ")) aNil)))) (eCallF f__law_next (aCons (eVar 0) (aCons (eC (.int 3)) aNil))))))
  (sRet (eTup (aCons (eVar 2) (aCons (eBin dAdd (eVarB 3) (eLst (aCons (eBin dAdd (eUn dLen (eVarB 2)) (eC (.int 1))) aNil))) aNil))))))))
def f__law_laid : FF := fnF 8 m__law_laid
section
variable {P : Program} {w : World} {K : PySem.W.Frag} {mg : Str → Option Value} {base : Heap} {a : Addr} {fd : FuncData}
theorem w__law_laid (F : FnP K "_law_laid" s__law_laid a fd) (hm : mg "_law_laid" = some (.ref a)) (g : GF P w K mg base) (c__law_next : CalF P w K mg base 1 "_law_next" 2 f__law_next) : CalF P w K mg base 2 "_law_laid" 2 f__law_laid :=
  have S := sc__law_laid
  ⟨a, fd, ["_law_stream_here", "_law_words"], rfl, fn_ok F S fun cdv A outer s H E hr => have hu := hr.un65; (es_cons (es_set (i := 2) S.nd rfl (.inl rfl) (ex_of ev_str))
  (es_cons (es_setO (i := 3) S.nd rfl (.inl rfl) (ev_lst ea_nil))
  (es_cons (es_for [4, 5, 6, 7] po_cx rfl (ei_enum (.inl rfl) rfl g.b_enumerate (ev_var (i := 1) rfl (.inl rfl))) (eg_tup rfl (egs_cons (eg_name (i := 4) S.nd rfl (.inl rfl)) (egs_cons (eg_name (i := 5) S.nd rfl (.inl rfl)) egs_nil)))
  (es_cons (es_set (i := 6) S.nd rfl (.inl rfl) (ex_of ev_int))
  (es_cons (es_if (et_gt (ev_varB (i := 4) rfl (.inl rfl)) (EvE.toB ev_int)) (es_one (es_for [7] po_cx rfl (ei_seq (.inl rfl) (EvE.fz (ev_lst (ea_cons ev_str (ea_cons ev_str (ea_cons ev_str ea_nil)))))) (eg_name (i := 7) S.nd rfl (.inl rfl))
  (es_one (es_set (i := 6) S.nd rfl (.inl rfl) (ex_of (ev_max2 rfl g.b_max rfl (ev_varB (i := 6) rfl (.inl rfl)) (EvE.toB (ev_toInt g.b_int rfl (EvE.toB (ev_and (ev_in hu (EvE.toB (ev_sl (EvE.toB (ev_ix hu (ev_varB (i := 1) rfl (.inl rfl)) (EvE.toB (ev_sub (ev_varB (i := 4) rfl (.inl rfl)) (EvE.toB ev_int))))) (ep_some (EvE.toB (ev_neg (EvE.toB ev_int)))) ep_none)) (ev_varB (i := 7) rfl (.inl rfl))) (ev_one (ev_in hu (EvE.toB (ev_sl (ev_varB (i := 5) rfl (.inl rfl)) ep_none (ep_some (EvE.toB ev_int)))) (ev_varB (i := 7) rfl (.inl rfl)))))))))))))) es_nil)
  (es_cons (es_set (i := 2) S.nd rfl (.inl rfl) (ex_of (ev_add (ev_varB (i := 2) rfl (.inl rfl)) (EvE.toB (ev_ix hu (EvE.fzb (ev_lst (ea_cons ev_str (ea_cons ev_str (ea_cons ev_str (ea_cons ev_str ea_nil)))))) (EvE.toB (ev_max2 rfl g.b_max rfl (ev_varB (i := 6) rfl (.inl rfl)) (EvE.toB (ev_call (c__law_next.mono (by decide)) hr rfl tk_cx (amLen_cons (amLen_cons amLen_nil)) (ea_cons (ev_var (i := 0) rfl (.inl rfl)) (ea_cons ev_int ea_nil)))))))))))
  (es_cons (es_expr (ex_append (i := 3) rfl (.inl rfl) (eax_cons (ex_of (ev_add (EvE.toB (ev_len g.b_len rfl (ev_varB (i := 2) rfl (.inl rfl)))) (EvE.toB ev_int))) eax_nil)))
  (es_one (es_set (i := 2) S.nd rfl (.inl rfl) (ex_of (ev_add (ev_varB (i := 2) rfl (.inl rfl)) (ev_varB (i := 5) rfl (.inl rfl)))))))))))
  (es_cons (es_set (i := 2) S.nd rfl (.inl rfl) (ex_of (ev_add (ev_varB (i := 2) rfl (.inl rfl)) (EvE.toB (ev_ix hu (EvE.fzb (ev_lst (ea_cons ev_str (ea_cons ev_str (ea_cons ev_str ea_nil))))) (EvE.toB (ev_call (c__law_next.mono (by decide)) hr rfl tk_cx (amLen_cons (amLen_cons amLen_nil)) (ea_cons (ev_var (i := 0) rfl (.inl rfl)) (ea_cons ev_int ea_nil)))))))))
  (es_one (es_ret (ex_of (ev_tup (ea_cons (ev_var (i := 2) rfl (.inl rfl)) (ea_cons (ev_add (ev_varB (i := 3) rfl (.inl rfl)) (EvE.fzb (ev_lst (ea_cons (ev_add (EvE.toB (ev_len g.b_len rfl (ev_varB (i := 2) rfl (.inl rfl)))) (EvE.toB ev_int)) ea_nil)))) ea_nil)))))))))), hm, F.kp, (F.bindsN fun _ _ _ _ _ _ us hl => match us, hl with | [_, _], _ => rfl)⟩
end
/-! ### _law_pick -/
abbrev s__law_pick : Stmt := top 20
theorem sc__law_pick : FnScope ["_law_stream_here", "_law_rows"] ["_law_stream_here", "_law_rows"] (defScope s__law_pick) := ⟨rfl, rfl, rfl, by decide +kernel, rfl, by decide +kernel, by decide +kernel⟩
def m__law_pick : SM := (sRet (eBin dIx (eVarB 1) (eCallF f__law_next (aCons (eVar 0) (aCons (eUn dLen (eVarB 1)) aNil)))))
def f__law_pick : FF := fnF 2 m__law_pick
section
variable {P : Program} {w : World} {K : PySem.W.Frag} {mg : Str → Option Value} {base : Heap} {a : Addr} {fd : FuncData}
theorem w__law_pick (F : FnP K "_law_pick" s__law_pick a fd) (hm : mg "_law_pick" = some (.ref a)) (g : GF P w K mg base) (c__law_next : CalF P w K mg base 1 "_law_next" 2 f__law_next) : CalF P w K mg base 2 "_law_pick" 2 f__law_pick :=
  have S := sc__law_pick
  ⟨a, fd, ["_law_stream_here", "_law_rows"], rfl, fn_ok F S fun cdv A outer s H E hr => have hu := hr.un65; (es_one (es_ret (ex_of (ev_ix hu (ev_varB (i := 1) rfl (.inl rfl)) (EvE.toB (ev_call (c__law_next.mono (by decide)) hr rfl tk_cx (amLen_cons (amLen_cons amLen_nil)) (ea_cons (ev_var (i := 0) rfl (.inl rfl)) (ea_cons (ev_len g.b_len rfl (ev_varB (i := 1) rfl (.inl rfl))) ea_nil)))))))), hm, F.kp, (F.bindsN fun _ _ _ _ _ _ us hl => match us, hl with | [_, _], _ => rfl)⟩
end
/-! ### _law_stream -/
abbrev s__law_stream : Stmt := top 16
theorem sc__law_stream : FnScope ["_law_script"] ["_law_script"] (defScope s__law_stream) := ⟨rfl, rfl, rfl, by decide +kernel, rfl, by decide +kernel, by decide +kernel⟩
def m__law_stream : SM := (sRet (eNewC (eLst (aCons (eUn dList (eVarB 0)) (aCons (eC (.int 0)) (aCons (eC (.int 0)) aNil))))))
def f__law_stream : FF := fnF 1 m__law_stream
section
variable {P : Program} {w : World} {K : PySem.W.Frag} {mg : Str → Option Value} {base : Heap} {a : Addr} {fd : FuncData}
theorem w__law_stream (F : FnP K "_law_stream" s__law_stream a fd) (hm : mg "_law_stream" = some (.ref a)) (g : GF P w K mg base) : CalF P w K mg base 1 "_law_stream" 1 f__law_stream :=
  have S := sc__law_stream
  ⟨a, fd, ["_law_script"], rfl, fn_ok F S fun cdv A outer s H E hr => have hu := hr.un65; (es_one (es_ret (ex_of (ev_newC (ev_lst (ea_cons (EvE.fz (ev_list g.b_list rfl (ev_varB (i := 0) rfl (.inl rfl)))) (ea_cons ev_int (ea_cons ev_int ea_nil)))))))), hm, F.kp, (F.bindsN fun _ _ _ _ _ _ us hl => match us, hl with | [_], _ => rfl)⟩
end
/-! ### check_text -/
abbrev s_check_text : Stmt := top 11
theorem sc_check_text : FnScope ["text"] ["text"] (defScope s_check_text) := ⟨rfl, rfl, rfl, by decide +kernel, rfl, by decide +kernel, by decide +kernel⟩
def m_check_text : SM := (sIf (eOr (eNot (eUn (dIs .str) (eVarB 0))) (eOr (eBin dGt (eUn dLen (eVarB 0)) (eC (.int (600)))) (eBin dIn (eC (.str "\n")) (eVarB 0)))) (sRaise "BadValue" ["name"] (aCons (eC (.str "text")) aNil)) sNil)
def f_check_text : FF := fnF 1 m_check_text
section
variable {P : Program} {w : World} {K : PySem.W.Frag} {mg : Str → Option Value} {base : Heap} {a : Addr} {fd : FuncData}
theorem w_check_text (F : FnP K "check_text" s_check_text a fd) (hm : mg "check_text" = some (.ref a)) (g : GF P w K mg base) (x_BadValue : ExMk P w K mg base 1 "BadValue" ["name"]) : CalF P w K mg base 3 "check_text" 1 f_check_text :=
  have S := sc_check_text
  ⟨a, fd, ["text"], rfl, fn_ok F S fun cdv A outer s H E hr => have hu := hr.un65; (es_one (es_if (et_w (ew_or (et_not (et_val (EvE.toB (ev_is .str rfl g.b_isinstance rfl g.b_str rfl (ev_varB (i := 0) rfl (.inl rfl)))))) (ew_or (et_gt (EvE.toB (ev_len g.b_len rfl (ev_varB (i := 0) rfl (.inl rfl)))) (EvE.toB (ev_gint rfl g.k_LONGEST_TEXT))) (ew_or1 (et_in hu (EvE.toB ev_str) (ev_varB (i := 0) rfl (.inl rfl))))))) (es_one (es_raise (x_BadValue.mono (by decide)) rfl hr rfl tk_cx (ea_cons ev_str ea_nil))) es_nil)), hm, F.kp, (F.bindsN fun _ _ _ _ _ _ us hl => match us, hl with | [_], _ => rfl)⟩
end
/-! ### chars_at -/
abbrev s_chars_at : Stmt := top 12
theorem sc_chars_at : FnScope ["text", "at", "chars", "end"] ["text", "at", "chars"] (defScope s_chars_at) := ⟨rfl, rfl, rfl, by decide +kernel, rfl, by decide +kernel, by decide +kernel⟩
def m_chars_at : SM := (sSeq (sSet 3 (eVar 1))
  (sSeq (whileL (eAnd (eBin dLt (eVarB 3) (eUn dLen (eVarB 0))) (eBin dIn (eBin dIx (eVarB 0) (eVarB 3)) (eVarB 2)))
  (sSet 3 (eBin dAdd (eVarB 3) (eC (.int 1)))) [] 1000)
  (sRet (eSl dSl (eVarB 0) (pSome (eVarB 1)) (pSome (eVarB 3))))))
def f_chars_at : FF := fnF 4 m_chars_at
section
variable {P : Program} {w : World} {K : PySem.W.Frag} {mg : Str → Option Value} {base : Heap} {a : Addr} {fd : FuncData}
theorem w_chars_at (F : FnP K "chars_at" s_chars_at a fd) (hm : mg "chars_at" = some (.ref a)) (g : GF P w K mg base) : CalF P w K mg base 1 "chars_at" 3 f_chars_at :=
  have S := sc_chars_at
  ⟨a, fd, ["text", "at", "chars"], rfl, fn_ok F S fun cdv A outer s H E hr => have hu := hr.un65; (es_cons (es_set (i := 3) S.nd rfl (.inl rfl) (ex_of (ev_var (i := 1) rfl (.inl rfl))))
  (es_cons (es_while [] 1000 po_cx (et_w (ew_and (et_lt (ev_varB (i := 3) rfl (.inl rfl)) (EvE.toB (ev_len g.b_len rfl (ev_varB (i := 0) rfl (.inl rfl))))) (ew_and1 (et_in hu (EvE.toB (ev_ix hu (ev_varB (i := 0) rfl (.inl rfl)) (ev_varB (i := 3) rfl (.inl rfl)))) (ev_varB (i := 2) rfl (.inl rfl))))))
  (es_one (es_set (i := 3) S.nd rfl (.inl rfl) (ex_of (ev_add (ev_varB (i := 3) rfl (.inl rfl)) (EvE.toB ev_int))))))
  (es_one (es_ret (ex_of (ev_sl (ev_varB (i := 0) rfl (.inl rfl)) (ep_some (ev_varB (i := 1) rfl (.inl rfl))) (ep_some (ev_varB (i := 3) rfl (.inl rfl))))))))), hm, F.kp, (F.bindsN fun _ _ _ _ _ _ us hl => match us, hl with | [_, _, _], _ => rfl)⟩
end
/-! ### token_at -/
abbrev s_token_at : Stmt := top 13
theorem sc_token_at : FnScope ["text", "at", "sign", "letters", "number"] ["text", "at"] (defScope s_token_at) := ⟨rfl, rfl, rfl, by decide +kernel, rfl, by decide +kernel, by decide +kernel⟩
def m_token_at : SM := (sSeq (sFor (iSeq (eC (.ktp [.str ":", .str ";", .str ",", .str "=", .str "-", .str ".."]))) (gNm 2)
  (sIf (eBin dEq (eSl dSl (eVarB 0) (pSome (eVarB 1)) (pSome (eBin dAdd (eVarB 1) (eUn dLen (eVarB 2))))) (eVarB 2)) (sRet (eTup (aCons (eC (.str "sign")) (aCons (eVar 2) (aCons (eBin dAdd (eVarB 1) (eC (.int 1))) aNil))))) sNil) [2])
  (sSeq (sIf (eBin dIn (eBin dIx (eVarB 0) (eVarB 1)) (eC (.str "abcdefghijklmnopqrstuvwxyz"))) (sSeq (sSet 3 (eCallF f_chars_at (aCons (eVar 0) (aCons (eVar 1) (aCons (eC (.str "abcdefghijklmnopqrstuvwxyz")) aNil)))))
  (sSeq (sIf (eBin dEq (eVarB 3) (eC (.str "in"))) (sRet (eTup (aCons (eC (.str "word")) (aCons (eVar 3) (aCons (eBin dAdd (eVarB 1) (eC (.int 1))) aNil))))) sNil)
  (sSeq (sIf (eOr (eBin dGt (eUn dLen (eVarB 3)) (eC (.int 1))) (eBin dNotIn (eVarB 3) (eC (.str "abcdef")))) (sRaise "TextError" ["column", "words"] (aCons (eBin dAdd (eVarB 1) (eC (.int 1))) (aCons (eC (.str "there is no such word")) aNil))) sNil)
  (sRet (eTup (aCons (eC (.str "event")) (aCons (eVar 3) (aCons (eBin dAdd (eVarB 1) (eC (.int 1))) aNil)))))))) sNil)
  (sSeq (sSet 4 (eCallF f_chars_at (aCons (eVar 0) (aCons (eVar 1) (aCons (eC (.str "0123456789")) aNil)))))
  (sSeq (sIf (eBin dEq (eVarB 4) (eC (.str ""))) (sRaise "TextError" ["column", "words"] (aCons (eBin dAdd (eVarB 1) (eC (.int 1))) (aCons (eC (.str "no token begins here")) aNil))) sNil)
  (sSeq (sIf (eBin dGt (eUn dLen (eVarB 4)) (eC (.int (6)))) (sRaise "TextError" ["column", "words"] (aCons (eBin dAdd (eVarB 1) (eC (.int 1))) (aCons (eC (.str "a number has at most 6 digits")) aNil))) sNil)
  (sRet (eTup (aCons (eC (.str "number")) (aCons (eVar 4) (aCons (eBin dAdd (eVarB 1) (eC (.int 1))) aNil))))))))))
def f_token_at : FF := fnF 5 m_token_at
section
variable {P : Program} {w : World} {K : PySem.W.Frag} {mg : Str → Option Value} {base : Heap} {a : Addr} {fd : FuncData}
theorem w_token_at (F : FnP K "token_at" s_token_at a fd) (hm : mg "token_at" = some (.ref a)) (g : GF P w K mg base) (c_chars_at : CalF P w K mg base 1 "chars_at" 3 f_chars_at) (x_TextError : ExMk P w K mg base 1 "TextError" ["column", "words"]) : CalF P w K mg base 3 "token_at" 2 f_token_at :=
  have S := sc_token_at
  ⟨a, fd, ["text", "at"], rfl, fn_ok F S fun cdv A outer s H E hr => have hu := hr.un65; (es_cons (es_for [2] po_cx rfl (ei_seq (.inl rfl) (ev_gtup rfl g.k_SIGNS)) (eg_name (i := 2) S.nd rfl (.inl rfl))
  (es_one (es_if (et_eq hu (EvE.toB (ev_sl (ev_varB (i := 0) rfl (.inl rfl)) (ep_some (ev_varB (i := 1) rfl (.inl rfl))) (ep_some (EvE.toB (ev_add (ev_varB (i := 1) rfl (.inl rfl)) (EvE.toB (ev_len g.b_len rfl (ev_varB (i := 2) rfl (.inl rfl))))))))) (ev_varB (i := 2) rfl (.inl rfl))) (es_one (es_ret (ex_of (ev_tup (ea_cons ev_str (ea_cons (ev_var (i := 2) rfl (.inl rfl)) (ea_cons (ev_add (ev_varB (i := 1) rfl (.inl rfl)) (EvE.toB ev_int)) ea_nil))))))) es_nil)))
  (es_cons (es_if (et_in hu (EvE.toB (ev_ix hu (ev_varB (i := 0) rfl (.inl rfl)) (ev_varB (i := 1) rfl (.inl rfl)))) (EvE.toB (ev_gstr rfl g.k_LOWER))) (es_cons (es_set (i := 3) S.nd rfl (.inl rfl) (ex_of (ev_call (c_chars_at.mono (by decide)) hr rfl tk_cx (amLen_cons (amLen_cons (amLen_cons amLen_nil))) (ea_cons (ev_var (i := 0) rfl (.inl rfl)) (ea_cons (ev_var (i := 1) rfl (.inl rfl)) (ea_cons (ev_gstr rfl g.k_LOWER) ea_nil))))))
  (es_cons (es_if (et_eq hu (ev_varB (i := 3) rfl (.inl rfl)) (EvE.toB ev_str)) (es_one (es_ret (ex_of (ev_tup (ea_cons ev_str (ea_cons (ev_var (i := 3) rfl (.inl rfl)) (ea_cons (ev_add (ev_varB (i := 1) rfl (.inl rfl)) (EvE.toB ev_int)) ea_nil))))))) es_nil)
  (es_cons (es_if (et_w (ew_or (et_gt (EvE.toB (ev_len g.b_len rfl (ev_varB (i := 3) rfl (.inl rfl)))) (EvE.toB ev_int)) (ew_or1 (et_notIn hu (ev_varB (i := 3) rfl (.inl rfl)) (EvE.toB (ev_gstr rfl g.k_EVENTS)))))) (es_one (es_raise (x_TextError.mono (by decide)) rfl hr rfl tk_cx (ea_cons (ev_add (ev_varB (i := 1) rfl (.inl rfl)) (EvE.toB ev_int)) (ea_cons ev_str ea_nil)))) es_nil)
  (es_one (es_ret (ex_of (ev_tup (ea_cons ev_str (ea_cons (ev_var (i := 3) rfl (.inl rfl)) (ea_cons (ev_add (ev_varB (i := 1) rfl (.inl rfl)) (EvE.toB ev_int)) ea_nil)))))))))) es_nil)
  (es_cons (es_set (i := 4) S.nd rfl (.inl rfl) (ex_of (ev_call (c_chars_at.mono (by decide)) hr rfl tk_cx (amLen_cons (amLen_cons (amLen_cons amLen_nil))) (ea_cons (ev_var (i := 0) rfl (.inl rfl)) (ea_cons (ev_var (i := 1) rfl (.inl rfl)) (ea_cons (ev_gstr rfl g.k_DIGITS) ea_nil))))))
  (es_cons (es_if (et_eq hu (ev_varB (i := 4) rfl (.inl rfl)) (EvE.toB ev_str)) (es_one (es_raise (x_TextError.mono (by decide)) rfl hr rfl tk_cx (ea_cons (ev_add (ev_varB (i := 1) rfl (.inl rfl)) (EvE.toB ev_int)) (ea_cons ev_str ea_nil)))) es_nil)
  (es_cons (es_if (et_gt (EvE.toB (ev_len g.b_len rfl (ev_varB (i := 4) rfl (.inl rfl)))) (EvE.toB (ev_gint rfl g.k_MOST_DIGITS))) (es_one (es_raise (x_TextError.mono (by decide)) rfl hr rfl tk_cx (ea_cons (ev_add (ev_varB (i := 1) rfl (.inl rfl)) (EvE.toB ev_int)) (ea_cons ev_str ea_nil)))) es_nil)
  (es_one (es_ret (ex_of (ev_tup (ea_cons ev_str (ea_cons (ev_var (i := 4) rfl (.inl rfl)) (ea_cons (ev_add (ev_varB (i := 1) rfl (.inl rfl)) (EvE.toB ev_int)) ea_nil)))))))))))), hm, F.kp, (F.bindsN fun _ _ _ _ _ _ us hl => match us, hl with | [_, _], _ => rfl)⟩
end
/-! ### scan -/
abbrev s_scan : Stmt := top 14
theorem sc_scan : FnScope ["text", "tokens", "at"] ["text"] (defScope s_scan) := ⟨rfl, rfl, rfl, by decide +kernel, rfl, by decide +kernel, by decide +kernel⟩
def m_scan : SM := (sSeq (sExpr (eCallF f_check_text (aCons (eVar 0) aNil)))
  (sSeq (sSetO 1 (eLst aNil))
  (sSeq (sSet 2 (eC (.int 0)))
  (sSeq (whileL (eBin dLt (eVarB 2) (eUn dLen (eVarB 0)))
  (sIf (eBin dEq (eBin dIx (eVarB 0) (eVarB 2)) (eC (.str " "))) (sSet 2 (eBin dAdd (eVarB 2) (eC (.int 1)))) (sSeq (sExpr (eMut 1 lAppend (aCons (eCallF f_token_at (aCons (eVar 0) (aCons (eVar 2) aNil))) aNil)))
  (sSet 2 (eBin dAdd (eVarB 2) (eUn dLen (eBin dIx (eBin dIx (eVarB 1) (eUn dNeg (eC (.int 1)))) (eC (.int 1)))))))) [] 1000)
  (sSeq (sExpr (eMut 1 lAppend (aCons (eTup (aCons (eC (.str "end")) (aCons (eC (.str "")) (aCons (eBin dAdd (eUn dLen (eVarB 0)) (eC (.int 1))) aNil)))) aNil)))
  (sRet (eVar 1)))))))
def f_scan : FF := fnF 3 m_scan
section
variable {P : Program} {w : World} {K : PySem.W.Frag} {mg : Str → Option Value} {base : Heap} {a : Addr} {fd : FuncData}
theorem w_scan (F : FnP K "scan" s_scan a fd) (hm : mg "scan" = some (.ref a)) (g : GF P w K mg base) (c_check_text : CalF P w K mg base 3 "check_text" 1 f_check_text) (c_token_at : CalF P w K mg base 3 "token_at" 2 f_token_at) : CalF P w K mg base 4 "scan" 1 f_scan :=
  have S := sc_scan
  ⟨a, fd, ["text"], rfl, fn_ok F S fun cdv A outer s H E hr => have hu := hr.un65; (es_cons (es_expr (ex_of (ev_call (c_check_text.mono (by decide)) hr rfl tk_cx (amLen_cons amLen_nil) (ea_cons (ev_var (i := 0) rfl (.inl rfl)) ea_nil))))
  (es_cons (es_setO (i := 1) S.nd rfl (.inl rfl) (ev_lst ea_nil))
  (es_cons (es_set (i := 2) S.nd rfl (.inl rfl) (ex_of ev_int))
  (es_cons (es_while [] 1000 po_cx (et_lt (ev_varB (i := 2) rfl (.inl rfl)) (EvE.toB (ev_len g.b_len rfl (ev_varB (i := 0) rfl (.inl rfl)))))
  (es_one (es_if (et_eq hu (EvE.toB (ev_ix hu (ev_varB (i := 0) rfl (.inl rfl)) (ev_varB (i := 2) rfl (.inl rfl)))) (EvE.toB ev_str)) (es_one (es_set (i := 2) S.nd rfl (.inl rfl) (ex_of (ev_add (ev_varB (i := 2) rfl (.inl rfl)) (EvE.toB ev_int))))) (es_cons (es_expr (ex_append (i := 1) rfl (.inl rfl) (eax_cons (ex_of (ev_call (c_token_at.mono (by decide)) hr rfl tk_cx (amLen_cons (amLen_cons amLen_nil)) (ea_cons (ev_var (i := 0) rfl (.inl rfl)) (ea_cons (ev_var (i := 2) rfl (.inl rfl)) ea_nil)))) eax_nil)))
  (es_one (es_set (i := 2) S.nd rfl (.inl rfl) (ex_of (ev_add (ev_varB (i := 2) rfl (.inl rfl)) (EvE.toB (ev_len g.b_len rfl (EvE.toB (ev_ix hu (EvE.toB (ev_ix hu (ev_varB (i := 1) rfl (.inl rfl)) (EvE.toB (ev_neg (EvE.toB ev_int))))) (EvE.toB ev_int)))))))))))))
  (es_cons (es_expr (ex_append (i := 1) rfl (.inl rfl) (eax_cons (ex_of (ev_tup (ea_cons ev_str (ea_cons ev_str (ea_cons (ev_add (EvE.toB (ev_len g.b_len rfl (ev_varB (i := 0) rfl (.inl rfl)))) (EvE.toB ev_int)) ea_nil))))) eax_nil)))
  (es_one (es_ret (ex_of (ev_var (i := 1) rfl (.inl rfl)))))))))), hm, F.kp, (F.bindsN fun _ _ _ _ _ _ us hl => match us, hl with | [_], _ => rfl)⟩
end
/-! ### _law_told -/
abbrev s__law_told : Stmt := top 23
theorem sc__law_told : FnScope ["_law_text", "_law_problem"] ["_law_text"] (defScope s__law_told) := ⟨rfl, rfl, rfl, by decide +kernel, rfl, by decide +kernel, by decide +kernel⟩
def m__law_told : SM := (sTry (sRet (eCallF f_scan (aCons (eVar 0) aNil))) [⟨some 1, [("BadValue", false), ("TextError", true)], (hIf (hIs [("BadValue", true), ("TextError", true)]) (hTup (hCons (hAt ["TextError"] "column") (hCons (hAt ["TextError"] "words") hNil))) (hC .non))⟩, ⟨some 1, [("BadValue", true), ("TextError", false)], (hAt ["BadValue"] "name")⟩])
def f__law_told : FF := fnF 2 m__law_told
section
variable {P : Program} {w : World} {K : PySem.W.Frag} {mg : Str → Option Value} {base : Heap} {a : Addr} {fd : FuncData}
theorem w__law_told (F : FnP K "_law_told" s__law_told a fd) (hm : mg "_law_told" = some (.ref a)) (g : GF P w K mg base) (c_scan : CalF P w K mg base 4 "scan" 1 f_scan) : CalF P w K mg base 5 "_law_told" 1 f__law_told :=
  have S := sc__law_told
  ⟨a, fd, ["_law_text"], rfl, fn_ok F S fun cdv A outer s H E hr => have hu := hr.un65; (es_one (es_try S.nd rfl rfl tk_cx (fun _ _ _ tk po => (es_one (es_ret (ex_of (ev_call (c_scan.mono (by decide)) hr rfl tk (amLen_cons amLen_nil) (ea_cons (ev_var (i := 0) rfl (.inl rfl)) ea_nil)))))) (.consN (i := 1) (names_of rfl g.e_TextError) g.h_TextError rfl rfl (ehs_ret (eh_if (eht_is (i := 1) rfl (.inl rfl) g.b_isinstance rfl (tyOf_ref rfl g.e_BideError) g.i_BideError) (eh_tup (eha_cons (eh_attr (i := 1) rfl (.inl rfl) g.a_column) (eha_cons (eh_attr (i := 1) rfl (.inl rfl) g.a_words) eha_nil))) eh_non)) (.consN (i := 1) (names_of rfl g.e_BadValue) g.h_BadValue rfl rfl (ehs_ret (eh_attr (i := 1) rfl (.inl rfl) g.a_name)) .nil)))), hm, F.kp, (F.bindsN fun _ _ _ _ _ _ us hl => match us, hl with | [_], _ => rfl)⟩
end
/-! ### law -/
abbrev s_law : Stmt := top 24
theorem sc_law : FnScope ["_law_script", "_law_stream_here", "_law_words", "_law_turn", "_law_problem", "_law_strange", "_law_at", "_law_word", "_law_text", "_law_places", "_law_due", "_law_blank", "_law_bad", "_law_k", "_law_sign", "_law_number"] ["_law_script"] (defScope s_law) := ⟨rfl, rfl, rfl, by decide +kernel, rfl, by decide +kernel, by decide +kernel⟩
def m_law : SM := (sSeq (sSet 1 (eCallF f__law_stream (aCons (eVar 0) aNil)))
  (sSeq (sSetO 2 (eLst aNil))
  (sSeq (sFor (iRng1 (eCallF f__law_next (aCons (eVar 1) (aCons (eC (.int 21)) aNil)))) (gNm 3)
  (sExpr (eMut 2 lAppend (aCons (eCallF f__law_pick (aCons (eVar 1) (aCons (eLst (aCons (eC (.str "a")) (aCons (eC (.str "b")) (aCons (eC (.str "c")) (aCons (eC (.str "d")) (aCons (eC (.str "e")) (aCons (eC (.str "f")) (aCons (eC (.str "in")) (aCons (eC (.str "0")) (aCons (eC (.str "12")) (aCons (eC (.str "999999")) (aCons (eC (.str "000345")) (aCons (eC (.str "678")) (aCons (eC (.str ":")) (aCons (eC (.str ";")) (aCons (eC (.str ",")) (aCons (eC (.str "=")) (aCons (eC (.str "-")) (aCons (eC (.str "..")) aNil))))))))))))))))))) aNil))) aNil))) [3])
  (sSeq (sSet 4 (eC .non))
  (sSeq (sIf (eBin dEq (eCallF f__law_next (aCons (eVar 1) (aCons (eC (.int 2)) aNil))) (eC (.int 1))) (sSeq (sSetO 5 (eBin dCat (eLc (iSeq (eLst (aCons (eC (.str "A")) (aCons (eC (.str "_")) (aCons (eC (.str "+")) (aCons (eC (.str "\t")) (aCons (eC (.str "|")) (aCons (eC (.str ".")) (aCons (eC (.str "(")) (aCons (eC (.str "#")) aNil)))))))))) (gNm 14) eYes (eTup (aCons (eVar 14) (aCons (eC (.str "no token begins here")) aNil))) [14]) (eLc (iSeq (eLst (aCons (eC (.str "g")) (aCons (eC (.str "z")) (aCons (eC (.str "ab")) (aCons (eC (.str "i")) (aCons (eC (.str "n")) (aCons (eC (.str "inn")) (aCons (eC (.str "ina")) (aCons (eC (.str "xyz")) aNil)))))))))) (gNm 7) eYes (eTup (aCons (eVar 7) (aCons (eC (.str "there is no such word")) aNil))) [7])))
  (sSeq (sSetO 5 (eBin dCat (eVarB 5) (eLc (iSeq (eLst (aCons (eC (.str "1000000")) (aCons (eC (.str "0000001")) (aCons (eC (.str "123456789")) aNil))))) (gNm 15) eYes (eTup (aCons (eVar 15) (aCons (eC (.str "a number has at most 6 digits")) aNil))) [15])))
  (sSeq (sSet 6 (eCallF f__law_next (aCons (eVar 1) (aCons (eBin dAdd (eUn dLen (eVarB 2)) (eC (.int 1))) aNil))))
  (sSeq (sAsg (eCallF f__law_pick (aCons (eVar 1) (aCons (eVar 5) aNil))) (gTp 2 (gsCons (gNm 7) (gsCons (gNm 4) gsNil))))
  (sSeq (sSetO 2 (eBin dCat (eBin dAdd (eSl dSl (eVarB 2) pNone (pSome (eVarB 6))) (eLst (aCons (eVar 7) aNil))) (eSl dSl (eVarB 2) (pSome (eVarB 6)) pNone)))
  (sIf (eBin dEq (eCallF f__law_next (aCons (eVar 1) (aCons (eC (.int 2)) aNil))) (eC (.int 1))) (sExpr (eMut 2 lAppend (aCons (eBin dIx (eCallF f__law_pick (aCons (eVar 1) (aCons (eVar 5) aNil))) (eC (.int 0))) aNil))) sNil)))))) sNil)
  (sSeq (sAsg (eCallF f__law_laid (aCons (eVar 1) (aCons (eVar 2) aNil))) (gTp 2 (gsCons (gNm 8) (gsCons (gNm 9) gsNil))))
  (sSeq (sIf (eBin dNotN (eVarB 4) (eC .non)) (sRet (eCallF (f__law_equal 8) (aCons (eCallF f__law_told (aCons (eVar 8) aNil)) (aCons (eTup (aCons (eBin dIx (eVarB 9) (eVarB 6)) (aCons (eVar 4) aNil))) aNil)))) sNil)
  (sSeq (sSetO 10 (eBin dCat (eLc (iEnumM (eVarB 2)) (gTp 2 (gsCons (gNm 13) (gsCons (gNm 7) gsNil))) eYes (eTup (aCons (eCallF f__law_kind (aCons (eVar 7) aNil)) (aCons (eVar 7) (aCons (eBin dIx (eVarB 9) (eVarB 13)) aNil)))) [13, 7]) (eLst (aCons (eTup (aCons (eC (.str "end")) (aCons (eC (.str "")) (aCons (eBin dIx (eVarB 9) (eUn dNeg (eC (.int 1)))) aNil)))) aNil))))
  (sSeq (sIf (eNot (eCallF (f__law_equal 8) (aCons (eLst (aCons (eCallF f__law_told (aCons (eVar 8) aNil)) (aCons (eCallF f__law_told (aCons (eVar 8) aNil)) aNil))) (aCons (eLst (aCons (eVar 10) (aCons (eVar 10) aNil))) aNil)))) (sRet (eC (.bl false))) sNil)
  (sSeq (sSet 11 (eBin dMul (eC (.str " ")) (eBin dSub (eC (.int 600)) (eUn dLen (eVarB 8)))))
  (sSeq (sSet 12 (eCallF f__law_pick (aCons (eVar 1) (aCons (eLst (aCons (eC .non) (aCons (eLst (aCons (eVar 8) aNil)) (aCons (eBin dAdd (eVarB 8) (eC (.str "\n"))) (aCons (eC (.str "\n")) (aCons (eBin dAdd (eBin dAdd (eVarB 11) (eVarB 8)) (eC (.str " "))) (aCons (eC (.int 7)) aNil))))))) aNil))))
  (sRet (eAnd (eBin dEq (eCallF f__law_told (aCons (eVar 12) aNil)) (eC (.str "text"))) (eUn (dIs .list) (eCallF f__law_told (aCons (eBin dAdd (eVarB 11) (eVarB 8)) aNil))))))))))))))))
def f_law : FF := fnF 16 m_law
section
variable {P : Program} {w : World} {K : PySem.W.Frag} {mg : Str → Option Value} {base : Heap} {a : Addr} {fd : FuncData}
theorem w_law (F : FnP K "law" s_law a fd) (g : GF P w K mg base) (c__law_equal : CalF P w K mg base 10 "_law_equal" 2 (f__law_equal 8)) (c__law_kind : CalF P w K mg base 1 "_law_kind" 1 f__law_kind) (c__law_laid : CalF P w K mg base 2 "_law_laid" 2 f__law_laid) (c__law_next : CalF P w K mg base 1 "_law_next" 2 f__law_next) (c__law_pick : CalF P w K mg base 2 "_law_pick" 2 f__law_pick) (c__law_stream : CalF P w K mg base 1 "_law_stream" 1 f__law_stream) (c__law_told : CalF P w K mg base 5 "_law_told" 1 f__law_told) : FnOk P w K mg base (L2.CX P w) 11 a fd ["_law_script"] (spF ⟨K, mg⟩ 1 f_law) :=
  have S := sc_law
  fn_ok F S fun cdv A outer s H E hr => have hu := hr.un65; (es_cons (es_set (i := 1) S.nd rfl (.inl rfl) (ex_of (ev_call (c__law_stream.mono (by decide)) hr rfl tk_cx (amLen_cons amLen_nil) (ea_cons (ev_var (i := 0) rfl (.inl rfl)) ea_nil))))
  (es_cons (es_setO (i := 2) S.nd rfl (.inl rfl) (ev_lst ea_nil))
  (es_cons (es_for [3] po_cx rfl (ei_rng1 rfl g.b_range (EvE.toB (ev_call (c__law_next.mono (by decide)) hr rfl tk_cx (amLen_cons (amLen_cons amLen_nil)) (ea_cons (ev_var (i := 1) rfl (.inl rfl)) (ea_cons ev_int ea_nil))))) (eg_name (i := 3) S.nd rfl (.inl rfl))
  (es_one (es_expr (ex_append (i := 2) rfl (.inl rfl) (eax_cons (ex_of (ev_call (c__law_pick.mono (by decide)) hr rfl tk_cx (amLen_cons (amLen_cons amLen_nil)) (ea_cons (ev_var (i := 1) rfl (.inl rfl)) (ea_cons (EvE.fz (ev_lst (ea_cons ev_str (ea_cons ev_str (ea_cons ev_str (ea_cons ev_str (ea_cons ev_str (ea_cons ev_str (ea_cons ev_str (ea_cons ev_str (ea_cons ev_str (ea_cons ev_str (ea_cons ev_str (ea_cons ev_str (ea_cons ev_str (ea_cons ev_str (ea_cons ev_str (ea_cons ev_str (ea_cons ev_str (ea_cons ev_str ea_nil)))))))))))))))))))) ea_nil)))) eax_nil)))))
  (es_cons (es_set (i := 4) S.nd rfl (.inl rfl) (ex_of ev_non))
  (es_cons (es_if (et_eq hu (EvE.toB (ev_call (c__law_next.mono (by decide)) hr rfl tk_cx (amLen_cons (amLen_cons amLen_nil)) (ea_cons (ev_var (i := 1) rfl (.inl rfl)) (ea_cons ev_int ea_nil)))) (EvE.toB ev_int)) (es_cons (es_setO (i := 5) S.nd rfl (.inl rfl) (ev_cat (EvE.fzb (ev_lc (own := [("_law_sign", 14)]) rfl S.nd (ei_seq (.inr rfl) (EvE.fzb (ev_lst (ea_cons ev_str (ea_cons ev_str (ea_cons ev_str (ea_cons ev_str (ea_cons ev_str (ea_cons ev_str (ea_cons ev_str (ea_cons ev_str ea_nil))))))))))) (blkOk_of (by kernel_rfl)) (fun _ _ _ _ _ => (eg_name (i := 14) S.nd rfl (.inl rfl))) (fun _ _ _ _ _ => ets_nil) (fun _ _ _ _ _ => (ev_tup (ea_cons (ev_var (i := 14) rfl (.inl rfl)) (ea_cons ev_str ea_nil)))))) (EvE.fzb (ev_lc (own := [("_law_word", 7)]) rfl S.nd (ei_seq (.inr rfl) (EvE.fzb (ev_lst (ea_cons ev_str (ea_cons ev_str (ea_cons ev_str (ea_cons ev_str (ea_cons ev_str (ea_cons ev_str (ea_cons ev_str (ea_cons ev_str ea_nil))))))))))) (blkOk_of (by kernel_rfl)) (fun _ _ _ _ _ => (eg_name (i := 7) S.nd rfl (.inl rfl))) (fun _ _ _ _ _ => ets_nil) (fun _ _ _ _ _ => (ev_tup (ea_cons (ev_var (i := 7) rfl (.inl rfl)) (ea_cons ev_str ea_nil))))))))
  (es_cons (es_setO (i := 5) S.nd rfl (.inl rfl) (ev_cat (ev_varB (i := 5) rfl (.inl rfl)) (EvE.fzb (ev_lc (own := [("_law_number", 15)]) rfl S.nd (ei_seq (.inr rfl) (EvE.fzb (ev_lst (ea_cons ev_str (ea_cons ev_str (ea_cons ev_str ea_nil)))))) (blkOk_of (by kernel_rfl)) (fun _ _ _ _ _ => (eg_name (i := 15) S.nd rfl (.inl rfl))) (fun _ _ _ _ _ => ets_nil) (fun _ _ _ _ _ => (ev_tup (ea_cons (ev_var (i := 15) rfl (.inl rfl)) (ea_cons ev_str ea_nil))))))))
  (es_cons (es_set (i := 6) S.nd rfl (.inl rfl) (ex_of (ev_call (c__law_next.mono (by decide)) hr rfl tk_cx (amLen_cons (amLen_cons amLen_nil)) (ea_cons (ev_var (i := 1) rfl (.inl rfl)) (ea_cons (ev_add (EvE.toB (ev_len g.b_len rfl (ev_varB (i := 2) rfl (.inl rfl)))) (EvE.toB ev_int)) ea_nil)))))
  (es_cons (es_asg (ex_of (ev_call (c__law_pick.mono (by decide)) hr rfl tk_cx (amLen_cons (amLen_cons amLen_nil)) (ea_cons (ev_var (i := 1) rfl (.inl rfl)) (ea_cons (ev_var (i := 5) rfl (.inl rfl)) ea_nil)))) (eg_tup rfl (egs_cons (eg_name (i := 7) S.nd rfl (.inl rfl)) (egs_cons (eg_name (i := 4) S.nd rfl (.inl rfl)) egs_nil))))
  (es_cons (es_setO (i := 2) S.nd rfl (.inl rfl) (ev_cat (EvE.toB (ev_add (EvE.toB (ev_sl (ev_varB (i := 2) rfl (.inl rfl)) ep_none (ep_some (ev_varB (i := 6) rfl (.inl rfl))))) (EvE.fzb (ev_lst (ea_cons (ev_var (i := 7) rfl (.inl rfl)) ea_nil))))) (EvE.toB (ev_sl (ev_varB (i := 2) rfl (.inl rfl)) (ep_some (ev_varB (i := 6) rfl (.inl rfl))) ep_none))))
  (es_one (es_if (et_eq hu (EvE.toB (ev_call (c__law_next.mono (by decide)) hr rfl tk_cx (amLen_cons (amLen_cons amLen_nil)) (ea_cons (ev_var (i := 1) rfl (.inl rfl)) (ea_cons ev_int ea_nil)))) (EvE.toB ev_int)) (es_one (es_expr (ex_append (i := 2) rfl (.inl rfl) (eax_cons (ex_of (ev_ix hu (EvE.toB (ev_call (c__law_pick.mono (by decide)) hr rfl tk_cx (amLen_cons (amLen_cons amLen_nil)) (ea_cons (ev_var (i := 1) rfl (.inl rfl)) (ea_cons (ev_var (i := 5) rfl (.inl rfl)) ea_nil)))) (EvE.toB ev_int))) eax_nil)))) es_nil))))))) es_nil)
  (es_cons (es_asg (ex_of (ev_call (c__law_laid.mono (by decide)) hr rfl tk_cx (amLen_cons (amLen_cons amLen_nil)) (ea_cons (ev_var (i := 1) rfl (.inl rfl)) (ea_cons (ev_var (i := 2) rfl (.inl rfl)) ea_nil)))) (eg_tup rfl (egs_cons (eg_name (i := 8) S.nd rfl (.inl rfl)) (egs_cons (eg_name (i := 9) S.nd rfl (.inr rfl)) egs_nil))))
  (es_cons (es_if (et_notN (ev_varB (i := 4) rfl (.inl rfl)) (EvE.toB ev_non)) (es_one (es_ret (ex_of (ev_call (c__law_equal.mono (by decide)) hr rfl tk_cx (amLen_cons (amLen_cons amLen_nil)) (ea_cons (ev_call (c__law_told.mono (by decide)) hr rfl tk_cx (amLen_cons amLen_nil) (ea_cons (ev_var (i := 8) rfl (.inl rfl)) ea_nil)) (ea_cons (ev_tup (ea_cons (ev_ix hu (ev_varB (i := 9) rfl (.inr (.inl rfl))) (ev_varB (i := 6) rfl (.inl rfl))) (ea_cons (ev_var (i := 4) rfl (.inl rfl)) ea_nil))) ea_nil)))))) es_nil)
  (es_cons (es_setO (i := 10) S.nd rfl (.inl rfl) (ev_cat (EvE.fzb (ev_lc (own := [("_law_k", 13), ("_law_word", 7)]) rfl S.nd (ei_enum (.inr rfl) rfl g.b_enumerate (ev_varB (i := 2) rfl (.inl rfl))) (blkOk_of (by kernel_rfl)) (fun _ _ _ _ _ => (eg_tup rfl (egs_cons (eg_name (i := 13) S.nd rfl (.inl rfl)) (egs_cons (eg_name (i := 7) S.nd rfl (.inl rfl)) egs_nil)))) (fun _ _ _ _ _ => ets_nil) (fun _ _ _ _ _ => (ev_tup (ea_cons (ev_call (c__law_kind.mono (by decide)) hr rfl takes_no (amLen_cons amLen_nil) (ea_cons (ev_var (i := 7) rfl (.inl rfl)) ea_nil)) (ea_cons (ev_var (i := 7) rfl (.inl rfl)) (ea_cons (ev_ix hu (ev_varB (i := 9) rfl (.inr (.inl rfl))) (ev_varB (i := 13) rfl (.inl rfl))) ea_nil))))))) (EvE.fzb (ev_lst (ea_cons (ev_tup (ea_cons ev_str (ea_cons ev_str (ea_cons (ev_ix hu (ev_varB (i := 9) rfl (.inr (.inl rfl))) (EvE.toB (ev_neg (EvE.toB ev_int)))) ea_nil)))) ea_nil)))))
  (es_cons (es_if (et_not (et_val (EvE.toB (ev_call (c__law_equal.mono (by decide)) hr rfl tk_cx (amLen_cons (amLen_cons amLen_nil)) (ea_cons (EvE.fz (ev_lst (ea_cons (ev_call (c__law_told.mono (by decide)) hr rfl tk_cx (amLen_cons amLen_nil) (ea_cons (ev_var (i := 8) rfl (.inl rfl)) ea_nil)) (ea_cons (ev_call (c__law_told.mono (by decide)) hr rfl tk_cx (amLen_cons amLen_nil) (ea_cons (ev_var (i := 8) rfl (.inl rfl)) ea_nil)) ea_nil)))) (ea_cons (EvE.fz (ev_lst (ea_cons (ev_var (i := 10) rfl (.inl rfl)) (ea_cons (ev_var (i := 10) rfl (.inl rfl)) ea_nil)))) ea_nil)))))) (es_one (es_ret (ex_of ev_bl))) es_nil)
  (es_cons (es_set (i := 11) S.nd rfl (.inl rfl) (ex_of (ev_mul (EvE.toB ev_str) (EvE.toB (ev_sub (EvE.toB ev_int) (EvE.toB (ev_len g.b_len rfl (ev_varB (i := 8) rfl (.inl rfl)))))))))
  (es_cons (es_set (i := 12) S.nd rfl (.inl rfl) (ex_of (ev_call (c__law_pick.mono (by decide)) hr rfl tk_cx (amLen_cons (amLen_cons amLen_nil)) (ea_cons (ev_var (i := 1) rfl (.inl rfl)) (ea_cons (EvE.fz (ev_lst (ea_cons ev_non (ea_cons (EvE.fz (ev_lst (ea_cons (ev_var (i := 8) rfl (.inl rfl)) ea_nil))) (ea_cons (ev_add (ev_varB (i := 8) rfl (.inl rfl)) (EvE.toB ev_str)) (ea_cons ev_str (ea_cons (ev_add (EvE.toB (ev_add (ev_varB (i := 11) rfl (.inl rfl)) (ev_varB (i := 8) rfl (.inl rfl)))) (EvE.toB ev_str)) (ea_cons ev_int ea_nil)))))))) ea_nil)))))
  (es_one (es_ret (ex_of (ev_and (ev_eq hu (EvE.toB (ev_call (c__law_told.mono (by decide)) hr rfl tk_cx (amLen_cons amLen_nil) (ea_cons (ev_var (i := 12) rfl (.inl rfl)) ea_nil))) (EvE.toB ev_str)) (ev_one (ev_is .list rfl g.b_isinstance rfl g.b_list rfl (EvE.toB (ev_call (c__law_told.mono (by decide)) hr rfl tk_cx (amLen_cons amLen_nil) (ea_cons (ev_add (ev_varB (i := 11) rfl (.inl rfl)) (ev_varB (i := 8) rfl (.inl rfl))) ea_nil))))))))))))))))))))
end
end K72
set_option Elab.async false
set_option linter.all false
set_option maxRecDepth 100000
set_option maxHeartbeats 2000000
namespace K72
open PySem PySem.Spec PyProof.Rows L2 Mv
def LOW : List Nat := [97, 98, 99, 100, 101, 102, 103, 104, 105, 106, 107, 108, 109, 110, 111, 112, 113, 114, 115, 116, 117, 118, 119, 120, 121, 122]
def DIG : List Nat := [48, 49, 50, 51, 52, 53, 54, 55, 56, 57]
def EVS : List Nat := [97, 98, 99, 100, 101, 102]
theorem low_eq : ("abcdefghijklmnopqrstuvwxyz" : Str) = tx LOW := by decide +kernel
theorem dig_eq : ("0123456789" : Str) = tx DIG := by decide +kernel
theorem evs_eq : ("abcdef" : Str) = tx EVS := by decide +kernel
abbrev vS (l : List Nat) : Option SV := some (.val false (.str (tx l)))
abbrev vI (n : Nat) : Option SV := some (.val false (.int (n : Int)))
def pIn (ch : List Nat) (c : Nat) : Bool := decide (c ∈ ch)
theorem chars_loop (l ch : List Nat) (x1 x2 : Option SV) (cs : List Cell) (hl : l.length ≤ 900) : ∀ (n e : Nat), e ≤ l.length → l.length - e < n →
    whileL (eAnd (eBin dLt (eVarB 3) (eUn dLen (eVarB 0))) (eBin dIn (eBin dIx (eVarB 0) (eVarB 3)) (eVarB 2))) (sSet 3 (eBin dAdd (eVarB 3) (eC (.int 1)))) [] n ⟨[vS l, x1, vS ch, vI e], cs⟩ =
      .nx ⟨[vS l, x1, vS ch, vI (e + ((l.drop e).takeWhile (pIn ch)).length)], cs⟩
  | 0, e, h1, h2 => by omega
  | n + 1, e, h1, h2 => by
    rw [while_succ]
    have hl2 : l.length ≤ 100000 := by omega
    by_cases hlt : e < l.length
    · have hc : l[e]? = some l[e] := by simp [hlt]
      have hd : l.drop e = l[e] :: l.drop (e + 1) := (List.drop_eq_getElem_cons hlt)
      by_cases hin : l[e] ∈ ch
      · simp [dLen_tx hl2, hlt, dIx_tx hl2 hc, dIn_tx, hin]
        have ih := chars_loop l ch x1 x2 cs hl n (e + 1) hlt (by omega)
        have e1 : ((e : Int) + 1) = ((e + 1 : Nat) : Int) := by omega
        rw [e1, ih, hd, List.takeWhile_cons]
        have : pIn ch l[e] = true := decide_eq_true hin
        rw [this]
        simp
        omega
      · simp [dLen_tx hl2, hlt, dIx_tx hl2 hc, dIn_tx, hin]
        rw [hd, List.takeWhile_cons]
        have : pIn ch l[e] = false := decide_eq_false hin
        rw [this]
        simp
    · have : e = l.length := by omega
      subst this
      simp [dLen_tx hl2]
theorem chars_at_ok (l ch : List Nat) (a : Nat) (cs : List Cell) (hl : l.length ≤ 900) (ha : a ≤ l.length) : f_chars_at [.str (tx l), .int a, .str (tx ch)] cs = .ret (.str (tx ((l.drop a).takeWhile (pIn ch)))) cs := by
  unfold f_chars_at
  rw [fnF_at]
  unfold m_chars_at
  have e0 : startS 4 [.str (tx l), .int a, .str (tx ch)] cs = ⟨[vS l, vI a, vS ch, none], cs⟩ := rfl
  rw [e0, sSeq_at]
  simp only [sSet_at, eVar_at, eVar1_f, bindS_ok, set1_at, seq1_nx, List.getElem?_cons_zero, List.getElem?_cons_succ, List.set_cons_succ, List.set_cons_zero]
  rw [sSeq_at]
  have := chars_loop l ch (vI a) none cs hl 1000 a ha (by omega)
  rw [this]
  have hle : a + ((l.drop a).takeWhile (pIn ch)).length ≤ l.length := by
    have := (List.takeWhile_sublist (pIn ch) (l := l.drop a)).length_le
    rw [List.length_drop] at this
    omega
  have hl2 : l.length ≤ 100000 := by omega
  simp [dSl_tx hl2]
  rw [← Int.natCast_add, cut_tx (Nat.le_add_right _ _) hle]
  have ht : List.take ((l.drop a).takeWhile (pIn ch)).length (l.drop a) = (l.drop a).takeWhile (pIn ch) := by
    have := List.takeWhile_prefix (pIn ch) (l := l.drop a)
    exact (List.prefix_iff_eq_take.mp this).symm
  rw [Nat.add_sub_cancel_left, ht]

theorem cut_rest {l : List Nat} {a k : Nat} (h : a ≤ l.length) : cutS (tx l) (some (a : Int)) (some ((a : Int) + (k : Int))) = tx ((l.drop a).take k) := by
  rw [← Int.natCast_add, cut_tx', Nat.min_eq_left h, tx_inj]
  by_cases h2 : a + k ≤ l.length
  · rw [Nat.min_eq_left h2, Nat.add_sub_cancel_left]
  · rw [Nat.min_eq_right (by omega), List.take_of_length_le (by rw [List.length_drop]; omega), List.take_of_length_le (by rw [List.length_drop]; omega)]
def ok1 (l : List Nat) : Prop := l.all (· < 0x110000) = true
theorem ok1_sub {l m : List Nat} (h : ok1 l) (hs : ∀ c ∈ m, c ∈ l) : ok1 m := by
  unfold ok1 at *
  rw [List.all_eq_true] at *
  exact fun c hc => h c (hs c hc)
theorem ok1_rest {l : List Nat} {a k : Nat} (h : ok1 l) : ok1 ((l.drop a).take k) := ok1_sub h fun c hc => List.mem_of_mem_drop (List.mem_of_mem_take hc)
def signBody : SM := (sIf (eBin dEq (eSl dSl (eVarB 0) (pSome (eVarB 1)) (pSome (eBin dAdd (eVarB 1) (eUn dLen (eVarB 2))))) (eVarB 2)) (sRet (eTup (aCons (eC (.str "sign")) (aCons (eVar 2) (aCons (eBin dAdd (eVarB 1) (eC (.int 1))) aNil))))) sNil)
theorem sign_body {l s : List Nat} {a : Nat} {y z : Option SV} {cs : List Cell} (hl : l.length ≤ 900) (ha : a ≤ l.length) (hk : ok1 l) (hs : ok1 s) (hs2 : s.length ≤ 10) :
    signBody ⟨[vS l, vI a, vS s, y, z], cs⟩ = if (l.drop a).take s.length = s then .rt (.tup [.str "sign", .str (tx s), .int ((a : Int) + 1)]) ⟨[vS l, vI a, vS s, y, z], cs⟩ else .nx ⟨[vS l, vI a, vS s, y, z], cs⟩ := by
  unfold signBody
  have hl2 : l.length ≤ 100000 := by omega
  simp [dLen_tx (show s.length ≤ 100000 by omega), dSl_tx hl2, cut_rest ha, dEq_tx (ok1_rest (a := a) (k := s.length) hk) hs, sIf1_b]
theorem sign_loop {l : List Nat} {a : Nat} {y z : Option SV} {cs : List Cell} (hl : l.length ≤ 900) (ha : a ≤ l.length) (hk : ok1 l) : ∀ (ss : List (List Nat)) (x : Option SV), (∀ s ∈ ss, ok1 s ∧ s.length ≤ 10) →
    (∀ s ∈ ss, (l.drop a).take s.length ≠ s) → forL (gNm 2) signBody [2] (ss.map fun s => .str (tx s)) ⟨[vS l, vI a, x, y, z], cs⟩ = .nx ⟨[vS l, vI a, none, y, z], cs⟩
  | [], x, h1, h2 => by simp [forL_nil]
  | s :: ss, x, h1, h2 => by
    obtain ⟨k1, k2⟩ := h1 s (by simp)
    rw [List.map_cons, forL_cons]
    simp only [wipeS_cons, wipeS_nil, gNm_at, forT_some, List.set_cons_succ, List.set_cons_zero]
    rw [sign_body hl ha hk k1 k2, if_neg (h2 s (by simp)), forS_nx]
    exact sign_loop hl ha hk ss _ (fun q hq => h1 q (by simp [hq])) (fun q hq => h2 q (by simp [hq]))
theorem sign_hit {l s0 : List Nat} {a : Nat} {y z : Option SV} {cs : List Cell} (hl : l.length ≤ 900) (ha : a ≤ l.length) (hk : ok1 l) (h0 : (l.drop a).take s0.length = s0) : ∀ (ss : List (List Nat)) (x : Option SV), (∀ s ∈ ss, ok1 s ∧ s.length ≤ 10) →
    s0 ∈ ss → (∀ s ∈ ss, s ≠ s0 → (l.drop a).take s.length ≠ s) → ∃ s', forL (gNm 2) signBody [2] (ss.map fun s => .str (tx s)) ⟨[vS l, vI a, x, y, z], cs⟩ = .rt (.tup [.str "sign", .str (tx s0), .int ((a : Int) + 1)]) s' ∧ s'.cs = cs
  | [], x, h1, hm, h2 => by simp at hm
  | s :: ss, x, h1, hm, h2 => by
    obtain ⟨k1, k2⟩ := h1 s (by simp)
    rw [List.map_cons, forL_cons]
    simp only [wipeS_cons, wipeS_nil, gNm_at, forT_some, List.set_cons_succ, List.set_cons_zero]
    rw [sign_body hl ha hk k1 k2]
    by_cases e : s = s0
    · subst e
      rw [if_pos h0]
      exact ⟨_, rfl, rfl⟩
    · rw [if_neg (h2 s (by simp) e), forS_nx]
      exact sign_hit hl ha hk h0 ss _ (fun q hq => h1 q (by simp [hq])) (by
        rcases List.mem_cons.mp hm with h | h
        · exact absurd h.symm e
        · exact h) (fun q hq => h2 q (by simp [hq]))
/-- the signs -/
def SGN : List (List Nat) := [[58], [59], [44], [61], [45], [46, 46]]
theorem sgn_eq : [D.str ":", .str ";", .str ",", .str "=", .str "-", .str ".."] = SGN.map fun s => .str (tx s) := by
  have h1 : (":" : Str) = tx [58] := by decide +kernel
  have h2 : (";" : Str) = tx [59] := by decide +kernel
  have h3 : ("," : Str) = tx [44] := by decide +kernel
  have h4 : ("=" : Str) = tx [61] := by decide +kernel
  have h5 : ("-" : Str) = tx [45] := by decide +kernel
  have h6 : (".." : Str) = tx [46, 46] := by decide +kernel
  rw [h1, h2, h3, h4, h5, h6]
  rfl
theorem sgn_ok : ∀ s ∈ SGN, ok1 s ∧ s.length ≤ 10 := by
  unfold ok1
  decide

/-! ### the tokens -/
def errW (m : Str) (a : Nat) : Exn := ⟨"TextError", [("words", .str m), ("column", .int ((a : Int) + 1))]⟩
def mOne : Str := "no token begins here"
def mWord : Str := "there is no such word"
def mNum : Str := "a number has at most 6 digits"
inductive Tk where
  | good (k : Str)
  | bad (m : Str)
def tkRes (w : List Nat) (a : Nat) (cs : List Cell) : Tk → RF
  | .good k => .ret (.tup [.str k, .str (tx w), .int ((a : Int) + 1)]) cs
  | .bad m => .exc (errW m a) cs
/-- the token of w, whatever follows that does not go on with it -/
inductive Tok : List Nat → Tk → Prop
  | sign {w} : w ∈ SGN → Tok w (.good "sign")
  | word : Tok [105, 110] (.good "word")
  | event {c} : c ∈ EVS → Tok [c] (.good "event")
  | nword {c w} : (∀ x ∈ c :: w, x ∈ LOW) → c :: w ≠ [105, 110] → (w ≠ [] ∨ c ∉ EVS) → Tok (c :: w) (.bad mWord)
  | num {c w} : (∀ x ∈ c :: w, x ∈ DIG) → (c :: w).length ≤ 6 → Tok (c :: w) (.good "number")
  | nnum {c w} : (∀ x ∈ c :: w, x ∈ DIG) → 6 < (c :: w).length → Tok (c :: w) (.bad mNum)
  | one {c} : c ∉ LOW → c ∉ DIG → (∀ s ∈ SGN, s.head? = some c → s = [46, 46]) → Tok [c] (.bad mOne)
/-- r does not go on with w -/
def Sep (w r : List Nat) : Prop := ∀ k ∈ [DIG, LOW, [46]], ∀ c, w.getLast? = some c → c ∈ k → ∀ x, r.head? = some x → x ∉ k
theorem tok_ok1 {w : List Nat} {t : Tk} (h : Tok w t) : w ≠ [] := by
  cases h with
  | sign h => intro e; subst e; revert h; decide
  | _ => simp
theorem getLast_mem {w : List Nat} {c : Nat} (h : w.getLast? = some c) : c ∈ w := List.mem_of_getLast? h
theorem last_of {c : Nat} {w : List Nat} : ∃ x, (c :: w).getLast? = some x := ⟨_, List.getLast?_eq_some_getLast (by simp)⟩
theorem no_sign {r : List Nat} (c : Nat) (h1 : ∀ s ∈ SGN, s.head? ≠ some c) : ∀ s ∈ SGN, (c :: r).take s.length ≠ s := by
  intro s hs e
  cases s with
  | nil => revert hs; decide
  | cons x s =>
    simp only [List.length_cons, List.take_succ_cons, List.cons.injEq] at e
    exact h1 _ hs (by rw [e.1]; rfl)
theorem mOut : ("no token begins here" : Str) = mOne := rfl
def mTail1 : SM := (sSeq (sSet 3 (eCallF f_chars_at (aCons (eVar 0) (aCons (eVar 1) (aCons (eC (.str "abcdefghijklmnopqrstuvwxyz")) aNil)))))
  (sSeq (sIf (eBin dEq (eVarB 3) (eC (.str "in"))) (sRet (eTup (aCons (eC (.str "word")) (aCons (eVar 3) (aCons (eBin dAdd (eVarB 1) (eC (.int 1))) aNil))))) sNil)
  (sSeq (sIf (eOr (eBin dGt (eUn dLen (eVarB 3)) (eC (.int 1))) (eBin dNotIn (eVarB 3) (eC (.str "abcdef")))) (sRaise "TextError" ["column", "words"] (aCons (eBin dAdd (eVarB 1) (eC (.int 1))) (aCons (eC (.str "there is no such word")) aNil))) sNil)
  (sRet (eTup (aCons (eC (.str "event")) (aCons (eVar 3) (aCons (eBin dAdd (eVarB 1) (eC (.int 1))) aNil))))))))
def mTail2 : SM := (sSeq (sSet 4 (eCallF f_chars_at (aCons (eVar 0) (aCons (eVar 1) (aCons (eC (.str "0123456789")) aNil)))))
  (sSeq (sIf (eBin dEq (eVarB 4) (eC (.str ""))) (sRaise "TextError" ["column", "words"] (aCons (eBin dAdd (eVarB 1) (eC (.int 1))) (aCons (eC (.str "no token begins here")) aNil))) sNil)
  (sSeq (sIf (eBin dGt (eUn dLen (eVarB 4)) (eC (.int (6)))) (sRaise "TextError" ["column", "words"] (aCons (eBin dAdd (eVarB 1) (eC (.int 1))) (aCons (eC (.str "a number has at most 6 digits")) aNil))) sNil)
  (sRet (eTup (aCons (eC (.str "number")) (aCons (eVar 4) (aCons (eBin dAdd (eVarB 1) (eC (.int 1))) aNil))))))))
theorem m_token_eq : m_token_at = sSeq (sFor (iSeq (eC (.ktp [.str ":", .str ";", .str ",", .str "=", .str "-", .str ".."]))) (gNm 2) signBody [2])
    (sSeq (sIf (eBin dIn (eBin dIx (eVarB 0) (eVarB 1)) (eC (.str "abcdefghijklmnopqrstuvwxyz"))) mTail1 sNil) mTail2) := rfl
theorem in_eq : ("in" : Str) = tx [105, 110] := by decide +kernel
theorem nil_eq : ("" : Str) = tx [] := by decide +kernel
/-- behind the signs: a letter -/
theorem tail1 {l w : List Nat} {a : Nat} {x y z : Option SV} {cs : List Cell} {t : Tk} (ht : (w = [105, 110] ∧ t = .good "word") ∨ (w ≠ [105, 110] ∧ 1 < w.length ∧ t = .bad mWord) ∨ (∃ c, w = [c] ∧ c ∉ EVS ∧ t = .bad mWord) ∨ (∃ c, w = [c] ∧ c ∈ EVS ∧ t = .good "event")) (hl : l.length ≤ 900) (ha : a ≤ l.length) (hk : ok1 l) (hr : (l.drop a).takeWhile (pIn LOW) = w) (hw : ok1 w) :
    fin1 (mTail1 ⟨[vS l, vI a, x, y, z], cs⟩) = tkRes w a cs t := by
  have hwl : w.length ≤ 900 := by
    have := (List.takeWhile_sublist (pIn LOW) (l := l.drop a)).length_le
    rw [hr, List.length_drop] at this
    omega
  unfold mTail1
  simp only [low_eq, evs_eq, in_eq]
  rw [sSeq_at]
  simp only [sSet_at, eCallF_at, aCons_at, aNil_at, eVar_at, eVar1_f, eC_at, aCons1_ok, aCons2_ok, rl_ok, eCallF1_at, List.getElem?_cons_zero, List.getElem?_cons_succ, chars_at_ok l LOW a cs hl ha, hr, eCallF2_ret, bindS_ok, set1_at, seq1_nx, List.set_cons_succ, List.set_cons_zero]
  rw [sSeq_at]
  have h2 : ok1 [105, 110] := by unfold ok1; decide
  simp only [sIf_at, eBin_at, eVarB_at, eVarB1_v, bind_ok, eBin1_at, eC_at, eBin2_at, deref_str, dEq_tx hw h2, lift_some, bindS_ok, List.getElem?_cons_zero, List.getElem?_cons_succ]
  rcases ht with ⟨e, rfl⟩ | ⟨e, h1, rfl⟩ | ⟨c, rfl, hc, rfl⟩ | ⟨c, rfl, hc, rfl⟩
  · simp [e, tkRes]
  · simp only [e, decide_false, sIf1_f, sNil_at, seq1_nx, if_neg, not_false_eq_true]
    rw [sSeq_at]
    have hI : (1 : Int) < (w.length : Int) := by omega
    simp [dLen_tx (show w.length ≤ 100000 by omega), hI, tkRes, errW, mWord]
  · simp [dLen_tx (show [c].length ≤ 100000 by simp), dNotIn_tx, hc, tkRes, errW, mWord]
  · simp [dLen_tx (show [c].length ≤ 100000 by simp), dNotIn_tx, hc, tkRes]
theorem tail2 {l w : List Nat} {a : Nat} {x y z : Option SV} {cs : List Cell} (hl : l.length ≤ 900) (ha : a ≤ l.length) (hk : ok1 l) (hr : (l.drop a).takeWhile (pIn DIG) = w) (hw : ok1 w) :
    fin1 (mTail2 ⟨[vS l, vI a, x, y, z], cs⟩) = tkRes w a cs (if w = [] then .bad mOne else if w.length > 6 then .bad mNum else .good "number") := by
  have hwl : w.length ≤ 900 := by
    have := (List.takeWhile_sublist (pIn DIG) (l := l.drop a)).length_le
    rw [hr, List.length_drop] at this
    omega
  unfold mTail2
  simp only [dig_eq, nil_eq]
  rw [sSeq_at]
  simp only [sSet_at, eCallF_at, aCons_at, aNil_at, eVar_at, eVar1_f, eC_at, aCons1_ok, aCons2_ok, rl_ok, eCallF1_at, List.getElem?_cons_zero, List.getElem?_cons_succ, chars_at_ok l DIG a cs hl ha, hr, eCallF2_ret, bindS_ok, set1_at, seq1_nx, List.set_cons_succ, List.set_cons_zero]
  rw [sSeq_at]
  have h2 : ok1 [] := by unfold ok1; decide
  simp only [sIf_at, eBin_at, eVarB_at, eVarB1_v, bind_ok, eBin1_at, eC_at, eBin2_at, deref_str, dEq_tx hw h2, lift_some, bindS_ok, List.getElem?_cons_zero, List.getElem?_cons_succ]
  by_cases e : w = []
  · simp [e, tkRes, errW, mOne]
  · simp only [e, decide_false, sIf1_f, sNil_at, seq1_nx, if_neg, not_false_eq_true]
    rw [sSeq_at]
    by_cases h1 : w.length > 6
    · have hI : (6 : Int) < (w.length : Int) := by omega
      simp [dLen_tx (show w.length ≤ 100000 by omega), h1, hI, tkRes, errW, mNum]
    · have hI : ¬ (6 : Int) < (w.length : Int) := by omega
      simp [dLen_tx (show w.length ≤ 100000 by omega), h1, hI, tkRes]

theorem pIn_t {ch : List Nat} {c : Nat} (h : c ∈ ch) : pIn ch c = true := decide_eq_true h
theorem pIn_f {ch : List Nat} {c : Nat} (h : c ∉ ch) : pIn ch c = false := decide_eq_false h
theorem low_nosign : ∀ c ∈ LOW, ∀ s ∈ SGN, s.head? ≠ some c := by decide
theorem dig_nosign : ∀ c ∈ DIG, ∀ s ∈ SGN, s.head? ≠ some c := by decide
theorem dig_nolow : ∀ c ∈ DIG, c ∉ LOW := by decide
theorem evs_low : ∀ c ∈ EVS, c ∈ LOW := by decide
theorem fin_seq {r : RS} {m : SM} {w : List Nat} {a : Nat} {cs : List Cell} {t : Tk} (h : fin1 r = tkRes w a cs t) : fin1 (seq1 m r) = tkRes w a cs t := by
  cases r with
  | nx s => cases t <;> (simp only [fin1_nx, tkRes] at h; cases h)
  | rt d s => exact h
  | ex e s => exact h
  | bk s => cases t <;> (simp only [fin1, tkRes] at h; cases h)
  | ct s => cases t <;> (simp only [fin1, tkRes] at h; cases h)
  | stuck => cases t <;> (simp only [fin1, tkRes] at h; cases h)
theorem sgn_heads : ∀ s ∈ SGN, ∀ w ∈ SGN, s ≠ w → s.head? ≠ w.head? := by decide
theorem head_take {u s : List Nat} (hs : s ≠ []) (h : u.take s.length = s) : u.head? = s.head? := by
  cases s with
  | nil => exact absurd rfl hs
  | cons x s =>
    cases u with
    | nil => simp at h
    | cons y u =>
      simp only [List.length_cons, List.take_succ_cons, List.cons.injEq] at h
      simp [h.1]
theorem sgn_ne : ∀ s ∈ SGN, s ≠ [] := by decide
theorem token_ok {l w r : List Nat} {a : Nat} {cs : List Cell} {t : Tk} (hl : l.length ≤ 900) (hk : ok1 l) (hd : l.drop a = w ++ r) (ht : Tok w t) (hs : Sep w r) : f_token_at [.str (tx l), .int a] cs = tkRes w a cs t := by
  have hw0 := tok_ok1 ht
  have ha : a ≤ l.length := by
    by_cases h : a ≤ l.length
    · exact h
    · rw [List.drop_eq_nil_of_le (by omega)] at hd
      cases w with
      | nil => exact absurd rfl hw0
      | cons c q => cases hd
  have hwo : ok1 w := ok1_sub hk fun c hc => List.mem_of_mem_drop (i := a) (by rw [hd]; simp [hc])
  have hl2 : l.length ≤ 100000 := by omega
  unfold f_token_at
  rw [fnF_at, m_token_eq, sgn_eq]
  have e0 : startS 5 [.str (tx l), .int a] cs = ⟨[vS l, vI a, none, none, none], cs⟩ := rfl
  rw [e0, sSeq_at]
  simp only [sFor_at, iSeq_at, eC_at, iSeq1_ok, seqD_ktp, iSeq2_some, for1_ok]
  -- by no sign
  have rest : ∀ (c : Nat) (q : List Nat), w = c :: q → (∀ s ∈ SGN, (l.drop a).take s.length ≠ s) → fin1 (seq1 (sSeq (sIf (eBin dIn (eBin dIx (eVarB 0) (eVarB 1)) (eC (.str "abcdefghijklmnopqrstuvwxyz"))) mTail1 sNil) mTail2) (forL (gNm 2) signBody [2] (SGN.map fun s => .str (tx s)) ⟨[vS l, vI a, none, none, none], cs⟩)) =
      if c ∈ LOW then fin1 (seq1 mTail2 (mTail1 ⟨[vS l, vI a, none, none, none], cs⟩)) else fin1 (mTail2 ⟨[vS l, vI a, none, none, none], cs⟩) := by
    intro c q hw hno
    rw [sign_loop hl ha hk SGN none sgn_ok hno, seq1_nx, sSeq_at]
    have hc : l[a]? = some c := by
      have : (l.drop a)[0]? = some c := by rw [hd, hw]; rfl
      rw [List.getElem?_drop] at this
      simpa using this
    simp only [low_eq, sIf_at, eBin_at, eVarB_at, eVarB1_v, bind_ok, eBin1_at, eC_at, eBin2_at, deref_str, deref_int, dIx_tx hl2 hc, dIn_tx, lift_some, bindS_ok, List.getElem?_cons_zero, List.getElem?_cons_succ, sIf1_b]
    by_cases hcl : c ∈ LOW
    · simp only [hcl, decide_true, if_true]
    · simp only [hcl, decide_false, if_false, sNil_at, seq1_nx]
      rfl
  have sepK : ∀ k ∈ [DIG, LOW, [46]], (∀ c ∈ w, c ∈ k) → ∀ x, r.head? = some x → pIn k x = false := fun k hk hall x hx => by
    obtain ⟨c, q, hw⟩ : ∃ c q, w = c :: q := by
      cases w with
      | nil => exact absurd rfl hw0
      | cons c q => exact ⟨c, q, rfl⟩
    obtain ⟨z, hz⟩ := last_of (c := c) (w := q)
    rw [← hw] at hz
    exact pIn_f (hs k hk z hz (hall z (getLast_mem hz)) x hx)
  have noRet : ∀ {q : List Nat} {t : Tk}, (tkRes q a cs t) = (tkRes q a cs t) := rfl
  have tailA : ∀ (hall : ∀ c ∈ w, c ∈ LOW) (t : Tk), ((w = [105, 110] ∧ t = .good "word") ∨ (w ≠ [105, 110] ∧ 1 < w.length ∧ t = .bad mWord) ∨ (∃ c, w = [c] ∧ c ∉ EVS ∧ t = .bad mWord) ∨ (∃ c, w = [c] ∧ c ∈ EVS ∧ t = .good "event")) →
      fin1 (mTail1 ⟨[vS l, vI a, none, none, none], cs⟩) = tkRes w a cs t := fun hall t h =>
    tail1 h hl ha hk (by rw [hd]; exact takeWhile_app (fun c hc => pIn_t (hall c hc)) (sepK LOW (by simp) hall)) hwo
  have take0 : (l.drop a).take w.length = w := by rw [hd]; simp
  have headw : (l.drop a).head? = w.head? := head_take hw0 take0
  cases ht with
  | sign h =>
    obtain ⟨s', e1, e2⟩ := sign_hit (y := none) (z := none) (cs := cs) hl ha hk take0 SGN none sgn_ok h (fun s hs ne e => by
      have := head_take (sgn_ne s hs) e
      exact sgn_heads s hs w h ne (this.symm.trans headw))
    rw [e1, seq1_rt, fin1_rt, e2]
    rfl
  | word =>
    rw [rest 105 [110] rfl (fun s hs e => low_nosign 105 (by decide) s hs ((head_take (sgn_ne s hs) e).symm.trans headw)), if_pos (by decide)]
    exact fin_seq (tailA (by decide) _ (.inl ⟨rfl, rfl⟩))
  | @event c hc =>
    rw [rest c [] rfl (fun s hs e => low_nosign c (evs_low c hc) s hs ((head_take (sgn_ne s hs) e).symm.trans headw)), if_pos (evs_low c hc)]
    exact fin_seq (tailA (fun x hx => by rw [List.mem_singleton] at hx; subst hx; exact evs_low x hc) _ (.inr (.inr (.inr ⟨c, rfl, hc, rfl⟩))))
  | @nword c q hall hne hor =>
    have hcl := hall c (by simp)
    rw [rest c q rfl (fun s hs e => low_nosign c hcl s hs ((head_take (sgn_ne s hs) e).symm.trans headw)), if_pos hcl]
    refine fin_seq (tailA hall _ ?_)
    cases q with
    | nil =>
      rcases hor with h | h
      · exact absurd rfl h
      · exact .inr (.inr (.inl ⟨c, rfl, h, rfl⟩))
    | cons d q => exact .inr (.inl ⟨hne, by simp, rfl⟩)
  | @num c q hall hle =>
    have hcd := hall c (by simp)
    rw [rest c q rfl (fun s hs e => dig_nosign c hcd s hs ((head_take (sgn_ne s hs) e).symm.trans headw)), if_neg (dig_nolow c hcd)]
    rw [tail2 hl ha hk (by rw [hd]; exact takeWhile_app (fun c hc => pIn_t (hall c hc)) (sepK DIG (by simp) hall)) hwo, if_neg (by simp), if_neg (by omega)]
  | @nnum c q hall hle =>
    have hcd := hall c (by simp)
    rw [rest c q rfl (fun s hs e => dig_nosign c hcd s hs ((head_take (sgn_ne s hs) e).symm.trans headw)), if_neg (dig_nolow c hcd)]
    rw [tail2 hl ha hk (by rw [hd]; exact takeWhile_app (fun c hc => pIn_t (hall c hc)) (sepK DIG (by simp) hall)) hwo, if_neg (by simp), if_pos (by omega)]
  | @one c h1 h2 h3 =>
    rw [rest c [] rfl (fun s hs e => by
      have hh : s.head? = some c := (head_take (sgn_ne s hs) e).symm.trans headw
      have es := h3 s hs hh
      subst es
      have ec : c = 46 := by simpa using hh.symm
      subst ec
      rw [hd] at e
      cases r with
      | nil => simp at e
      | cons x r =>
        have ex : x = 46 := by simpa using e
        exact (‹Sep [46] (x :: r)› [46] (by simp) 46 rfl (by simp) x rfl) (by simp [ex])), if_neg h1]
    rw [tail2 (w := []) hl ha hk (by rw [hd]; simp [List.takeWhile_cons, pIn_f h2]) (by unfold ok1; decide), if_pos rfl]
    rfl

/-! ### the scan -/
abbrev Pc := Nat × List Nat × Tk
def rnd : List Pc → Nat → List Nat
  | [], fb => List.replicate fb 32
  | (n, w, _) :: ps, fb => List.replicate n 32 ++ (w ++ rnd ps fb)
def PsOk : List Pc → Nat → Prop
  | [], _ => True
  | (_, w, t) :: ps, fb => Tok w t ∧ 32 ∉ w ∧ Sep w (rnd ps fb) ∧ PsOk ps fb
inductive SR where
  | ok (acc : List D)
  | err (e : Exn)
def scanR : List Pc → Nat → List D → SR
  | [], _, acc => .ok acc
  | (n, w, .good k) :: ps, a, acc => scanR ps (a + n + w.length) (acc ++ [.tup [.str k, .str (tx w), .int ((a + n : Nat) + 1)]])
  | (n, _, .bad m) :: _, a, _ => .err (errW m (a + n))
def mScanC : EM := (eBin dLt (eVarB 2) (eUn dLen (eVarB 0)))
def mScanB : SM := (sIf (eBin dEq (eBin dIx (eVarB 0) (eVarB 2)) (eC (.str " "))) (sSet 2 (eBin dAdd (eVarB 2) (eC (.int 1)))) (sSeq (sExpr (eMut 1 lAppend (aCons (eCallF f_token_at (aCons (eVar 0) (aCons (eVar 2) aNil))) aNil)))
  (sSet 2 (eBin dAdd (eVarB 2) (eUn dLen (eBin dIx (eBin dIx (eVarB 1) (eUn dNeg (eC (.int 1)))) (eC (.int 1))))))))
abbrev vO (l : List D) : Option SV := some (.val true (.lst l))
theorem sp_eq : (" " : Str) = tx [32] := by decide +kernel
theorem blank_step {l : List Nat} {acc : List D} {a n : Nat} {cs : List Cell} (hl : l.length ≤ 900) (hc : l[a]? = some 32) :
    whileL mScanC mScanB [] (n + 1) ⟨[vS l, vO acc, vI a], cs⟩ = whileL mScanC mScanB [] n ⟨[vS l, vO acc, vI (a + 1)], cs⟩ := by
  have hl2 : l.length ≤ 100000 := by omega
  have hlt := (List.getElem?_eq_some_iff.mp hc).1
  rw [while_succ]
  have h1 : ok1 [32] := by unfold ok1; decide
  unfold mScanC
  simp only [wipeS_nil, eBin_at, eVarB_at, eVarB1_v, bind_ok, eBin1_at, eUn_at, eUn1_at, deref_str, deref_int, dLen_tx hl2, lift_some, eBin2_at, dLt_int, bindS_ok, List.getElem?_cons_zero, List.getElem?_cons_succ]
  have hlI : (a : Int) < (l.length : Int) := by omega
  simp only [hlI, decide_true, whC_t]
  unfold mScanB
  simp [dIx_tx hl2 hc, sp_eq, dEq_tx h1 h1]
  have e1 : ((a : Int) + 1) = ((a + 1 : Nat) : Int) := by omega
  rw [e1]
theorem blanks_run {l : List Nat} {acc : List D} {cs : List Cell} (hl : l.length ≤ 900) : ∀ (n a f : Nat) (rest : List Nat), l.drop a = List.replicate n 32 ++ rest → n ≤ f →
    whileL mScanC mScanB [] f ⟨[vS l, vO acc, vI a], cs⟩ = whileL mScanC mScanB [] (f - n) ⟨[vS l, vO acc, vI (a + n)], cs⟩
  | 0, a, f, rest, hd, hf => by simp
  | n + 1, a, 0, rest, hd, hf => by omega
  | n + 1, a, f + 1, rest, hd, hf => by
    have hc : l[a]? = some 32 := by
      have : (l.drop a)[0]? = some 32 := by rw [hd]; rfl
      rw [List.getElem?_drop] at this
      simpa using this
    rw [blank_step hl hc, blanks_run hl n (a + 1) f rest (by
      rw [← List.drop_drop, hd]
      rfl) (by omega)]
    have e1 : f + 1 - (n + 1) = f - n := by omega
    have e2 : a + 1 + n = a + (n + 1) := by omega
    rw [e1, e2]
theorem atI_neg1 {acc : List D} {d : D} : atI (acc ++ [d]) (-1) = some d := by
  unfold atI ixN
  rw [if_neg (by decide), if_pos (by simp; omega)]
  simp
  have : ((-1 : Int) + ((acc.length : Int) + 1)).toNat = acc.length := by omega
  rw [this]
  simp
theorem word_step {l w r : List Nat} {acc : List D} {a n : Nat} {cs : List Cell} {t : Tk} (hl : l.length ≤ 900) (hk : ok1 l) (hd : l.drop a = w ++ r) (ht : Tok w t) (hs : Sep w r) (h32 : 32 ∉ w) (hacc : acc.length ≤ 2000) :
    match t with
    | .good k => whileL mScanC mScanB [] (n + 1) ⟨[vS l, vO acc, vI a], cs⟩ = whileL mScanC mScanB [] n ⟨[vS l, vO (acc ++ [.tup [.str k, .str (tx w), .int ((a : Int) + 1)]]), vI (a + w.length)], cs⟩
    | .bad m => ∃ s', whileL mScanC mScanB [] (n + 1) ⟨[vS l, vO acc, vI a], cs⟩ = .ex (errW m a) s' ∧ s'.cs = cs := by
  have hw0 := tok_ok1 ht
  obtain ⟨c, q, hw⟩ : ∃ c q, w = c :: q := by
    cases w with
    | nil => exact absurd rfl hw0
    | cons c q => exact ⟨c, q, rfl⟩
  have hc : l[a]? = some c := by
    have : (l.drop a)[0]? = some c := by rw [hd, hw]; rfl
    rw [List.getElem?_drop] at this
    simpa using this
  have hl2 : l.length ≤ 100000 := by omega
  have hlt := (List.getElem?_eq_some_iff.mp hc).1
  have hne : c ≠ 32 := fun e => h32 (by rw [hw, e]; simp)
  have htok := token_ok (cs := cs) hl hk hd ht hs
  have h1 : ok1 [32] := by unfold ok1; decide
  have hc1 : ok1 [c] := ok1_sub hk fun x hx => by
    rw [List.mem_singleton] at hx
    subst hx
    exact List.mem_of_getElem? hc
  have hwl : w.length ≤ 100000 := by
    have := congrArg List.length hd
    rw [List.length_drop, List.length_append] at this
    omega
  have key : whileL mScanC mScanB [] (n + 1) ⟨[vS l, vO acc, vI a], cs⟩ = whS mScanC mScanB [] n (mScanB ⟨[vS l, vO acc, vI a], cs⟩) := by
    rw [while_succ]
    unfold mScanC
    have hlI : (a : Int) < (l.length : Int) := by omega
    simp only [wipeS_nil, eBin_at, eVarB_at, eVarB1_v, bind_ok, eBin1_at, eUn_at, eUn1_at, deref_str, deref_int, dLen_tx hl2, lift_some, eBin2_at, dLt_int, bindS_ok, List.getElem?_cons_zero, List.getElem?_cons_succ, hlI, decide_true, whC_t]
  rw [key]
  have body : mScanB ⟨[vS l, vO acc, vI a], cs⟩ = (sSeq (sExpr (eMut 1 lAppend (aCons (eCallF f_token_at (aCons (eVar 0) (aCons (eVar 2) aNil))) aNil)))
      (sSet 2 (eBin dAdd (eVarB 2) (eUn dLen (eBin dIx (eBin dIx (eVarB 1) (eUn dNeg (eC (.int 1)))) (eC (.int 1))))))) ⟨[vS l, vO acc, vI a], cs⟩ := by
    unfold mScanB
    simp [dIx_tx hl2 hc, sp_eq, dEq_tx hc1 h1, hne]
  rw [body, sSeq_at]
  cases t with
  | bad m =>
    simp [htok, tkRes]
  | good k =>
    have hap : ∀ d, lAppend acc [d] = some (.non, acc ++ [d]) := fun d => lAppend_at (by rw [sizeLine_eq]; omega)
    simp [htok, tkRes, hap, atI_neg1, dLen_tx hwl]
    have e1 : ((a : Int) + (w.length : Int)) = ((a + w.length : Nat) : Int) := by omega
    rw [e1]
theorem scan_run {l : List Nat} {cs : List Cell} (hl : l.length ≤ 900) (hk : ok1 l) {fb : Nat} : ∀ (ps : List Pc) (a f : Nat) (acc : List D), l.drop a = rnd ps fb → PsOk ps fb → a ≤ l.length → l.length - a < f → acc.length + (l.length - a) ≤ 2000 →
    match scanR ps a acc with
    | .ok acc' => whileL mScanC mScanB [] f ⟨[vS l, vO acc, vI a], cs⟩ = .nx ⟨[vS l, vO acc', vI l.length], cs⟩
    | .err e => ∃ s', whileL mScanC mScanB [] f ⟨[vS l, vO acc, vI a], cs⟩ = .ex e s' ∧ s'.cs = cs
  | [], a, f, acc, hd, ho, ha, hf, hacc => by
    have hn : l.length - a = fb := by
      have := congrArg List.length hd
      simpa [rnd] using this
    unfold scanR
    dsimp only
    rw [blanks_run hl fb a f [] (by rw [hd]; simp [rnd]) (by omega)]
    obtain ⟨g, hg⟩ : ∃ g, f - fb = g + 1 := ⟨f - fb - 1, by omega⟩
    have e : a + fb = l.length := by omega
    rw [hg, e, while_succ]
    have hl2 : l.length ≤ 100000 := by omega
    unfold mScanC
    simp [dLen_tx hl2]
  | (n, w, t) :: ps, a, f, acc, hd, ho, ha, hf, hacc => by
    obtain ⟨h1, h2, h3, h4⟩ := ho
    have hlen : l.length - a = n + (w.length + (rnd ps fb).length) := by
      have := congrArg List.length hd
      simpa [rnd] using this
    have hw0 : 0 < w.length := List.length_pos_iff.mpr (tok_ok1 h1)
    rw [blanks_run hl n a f (w ++ rnd ps fb) (by rw [hd]; rfl) (by omega)]
    have hd2 : l.drop (a + n) = w ++ rnd ps fb := by
      rw [← List.drop_drop, hd]
      show List.drop n (List.replicate n 32 ++ (w ++ rnd ps fb)) = _
      rw [List.drop_append_of_le_length (by simp)]
      simp
    obtain ⟨g, hg⟩ : ∃ g, f - n = g + 1 := ⟨f - n - 1, by omega⟩
    rw [hg]
    have ws := word_step (n := g) (cs := cs) (acc := acc) hl hk hd2 h1 h3 h2 (by omega)
    cases t with
    | bad m => exact ws
    | good k =>
      unfold scanR
      dsimp only at ws
      rw [ws]
      have hd3 : l.drop (a + n + w.length) = rnd ps fb := by
        rw [← List.drop_drop, hd2]
        simp
      exact scan_run hl hk ps (a + n + w.length) g _ hd3 h4 (by omega) (by omega) (by simp; omega)

/-! ### scan, told -/
def bvText : Exn := ⟨"BadValue", [("name", .str "text")]⟩
theorem nl_eq : ("\n" : Str) = tx [10] := by decide +kernel
@[simp] theorem dIs_str_str {z : Str} : dIs .str (.str z) = some (.bl true) := rfl
@[simp] theorem dIs_str_non : dIs .str .non = some (.bl false) := rfl
@[simp] theorem dIs_str_int {i : Int} : dIs .str (.int i) = some (.bl false) := rfl
@[simp] theorem dIs_str_lst {ds : List D} : dIs .str (.lst ds) = some (.bl false) := rfl
theorem startS1 {N : Nat} {d : D} {cs : List Cell} (h : N = 1) : startS N [d] cs = ⟨[some (.val false d)], cs⟩ := by subst h; rfl
theorem check_good {l : List Nat} {cs : List Cell} (h1 : l.length ≤ 600) (h2 : 10 ∉ l) : f_check_text [.str (tx l)] cs = .ret .non cs := by
  unfold f_check_text
  rw [fnF_at, startS1 rfl]
  unfold m_check_text
  have hI : ¬ (600 : Int) < (l.length : Int) := by omega
  simp [nl_eq, dLen_tx (show l.length ≤ 100000 by omega), hI, dIn_tx, h2]
theorem check_no {d : D} {cs : List Cell} (h : dIs .str (deref cs d) = some (.bl false)) : f_check_text [d] cs = .exc bvText cs := by
  unfold f_check_text
  rw [fnF_at, startS1 rfl]
  unfold m_check_text
  simp [h, bvText]
theorem check_long {l : List Nat} {cs : List Cell} (h0 : l.length ≤ 100000) (h1 : 600 < l.length) : f_check_text [.str (tx l)] cs = .exc bvText cs := by
  unfold f_check_text
  rw [fnF_at, startS1 rfl]
  unfold m_check_text
  have hI : (600 : Int) < (l.length : Int) := by omega
  simp [nl_eq, dLen_tx h0, hI, bvText]
theorem check_nl {l : List Nat} {cs : List Cell} (h0 : l.length ≤ 600) (h1 : 10 ∈ l) : f_check_text [.str (tx l)] cs = .exc bvText cs := by
  unfold f_check_text
  rw [fnF_at, startS1 rfl]
  unfold m_check_text
  have hI : ¬ (600 : Int) < (l.length : Int) := by omega
  simp [nl_eq, dLen_tx (show l.length ≤ 100000 by omega), hI, dIn_tx, h1, bvText]
theorem m_scan_eq : m_scan = sSeq (sExpr (eCallF f_check_text (aCons (eVar 0) aNil))) (sSeq (sSetO 1 (eLst aNil)) (sSeq (sSet 2 (eC (.int 0))) (sSeq (whileL mScanC mScanB [] 1000)
    (sSeq (sExpr (eMut 1 lAppend (aCons (eTup (aCons (eC (.str "end")) (aCons (eC (.str "")) (aCons (eBin dAdd (eUn dLen (eVarB 0)) (eC (.int 1))) aNil)))) aNil))) (sRet (eVar 1)))))) := rfl
def endT (n : Nat) : D := .tup [.str "end", .str "", .int ((n : Int) + 1)]
def scanF (cs : List Cell) (n : Nat) : SR → RF
  | .ok acc => .ret (.lst (acc ++ [endT n])) cs
  | .err e => .exc e cs
theorem scanR_len : ∀ (ps : List Pc) (a : Nat) (acc acc' : List D), scanR ps a acc = .ok acc' → acc'.length = acc.length + ps.length
  | [], _, acc, acc', h => by
    unfold scanR at h
    cases h
    simp
  | (n, w, .good k) :: ps, a, acc, acc', h => by
    unfold scanR at h
    have := scanR_len ps _ _ _ h
    simp at this ⊢
    omega
  | (n, w, .bad m) :: ps, a, acc, acc', h => by
    unfold scanR at h
    cases h
theorem scan_ok {l : List Nat} {cs : List Cell} {ps : List Pc} {fb : Nat} (hl : l.length ≤ 600) (hk : ok1 l) (hn : 10 ∉ l) (hd : l = rnd ps fb) (ho : PsOk ps fb) (hp : ps.length ≤ 1000) : f_scan [.str (tx l)] cs = scanF cs l.length (scanR ps 0 []) := by
  unfold f_scan
  rw [fnF_at, m_scan_eq]
  have e0 : startS 3 [.str (tx l)] cs = ⟨[vS l, none, none], cs⟩ := rfl
  rw [e0, sSeq_at]
  simp only [sExpr_at, eCallF_at, aCons_at, aNil_at, eVar_at, eVar1_f, aCons1_ok, aCons2_ok, rl_ok, eCallF1_at, List.getElem?_cons_zero, check_good hl hn, eCallF2_ret, bindS_ok, drop1_at, seq1_nx]
  rw [sSeq_at]
  simp only [sSetO_at, eLst_at, aNil_at, rl_ok, eLst1_0, bindS_ok, setO1_at, seq1_nx, List.set_cons_succ, List.set_cons_zero]
  rw [sSeq_at]
  simp only [sSet_at, eC_at, bindS_ok, set1_at, seq1_nx, List.set_cons_succ, List.set_cons_zero]
  rw [sSeq_at]
  have run := scan_run (cs := cs) (fb := fb) (show l.length ≤ 900 by omega) hk ps 0 1000 [] (by rw [List.drop_zero]; exact hd) ho (Nat.zero_le _) (by omega) (by simp; omega)
  cases e : scanR ps 0 [] with
  | ok acc =>
    rw [e] at run
    dsimp only at run
    have e1 : whileL mScanC mScanB [] 1000 ⟨[vS l, some (.val true (.lst [])), some (.val false (.int 0))], cs⟩ = .nx ⟨[vS l, vO acc, vI l.length], cs⟩ := run
    rw [e1, seq1_nx, sSeq_at]
    have hacc := scanR_len ps 0 [] acc e
    have hap : ∀ d, lAppend acc [d] = some (.non, acc ++ [d]) := fun d => lAppend_at (by rw [sizeLine_eq]; simp at hacc; omega)
    simp [dLen_tx (show l.length ≤ 100000 by omega), hap, scanF, endT]
  | err ex =>
    rw [e] at run
    dsimp only at run
    obtain ⟨s', e1, e2⟩ := run
    have e3 : whileL mScanC mScanB [] 1000 ⟨[vS l, some (.val true (.lst [])), some (.val false (.int 0))], cs⟩ = .ex ex s' := e1
    rw [e3, seq1_ex, fin1_ex, e2]
    rfl
theorem scan_no {d : D} {cs : List Cell} (h : f_check_text [d] cs = .exc bvText cs) : f_scan [d] cs = .exc bvText cs := by
  unfold f_scan
  rw [fnF_at, m_scan_eq]
  have e0 : startS 3 [d] cs = ⟨[some (.val false d), none, none], cs⟩ := rfl
  rw [e0, sSeq_at]
  simp [h]
abbrev hT1 : HdM := ⟨some 1, [("BadValue", false), ("TextError", true)], (hIf (hIs [("BadValue", true), ("TextError", true)]) (hTup (hCons (hAt ["TextError"] "column") (hCons (hAt ["TextError"] "words") hNil))) (hC .non))⟩
abbrev hT2 : HdM := ⟨some 1, [("BadValue", true), ("TextError", false)], (hAt ["BadValue"] "name")⟩
theorem hand_te (m : Str) (a : Nat) (s : S) (hs : s.sl.length = 2) : handle [hT1, hT2] (errW m a) s = .rt (.tup [.int ((a : Int) + 1), .str m]) s := by
  have h1 : hT1.tb.lookup (errW m a).cls = some true := by
    show List.lookup ("TextError" : Str) [("BadValue", false), ("TextError", true)] = some true
    decide +kernel
  have h2 : slotIn hT1.slot s = true := by
    show decide (1 < s.sl.length) = true
    rw [hs]
    rfl
  have h3 : hT1.h (errW m a) = some (.tup [.int ((a : Int) + 1), .str m]) := by kernel_rfl
  unfold handle
  rw [h1]
  dsimp only
  rw [if_pos h2]
  show (match hT1.h (errW m a) with | some d => RS.rt d s | none => RS.stuck) = _
  rw [h3]
theorem hand_bv (s : S) (hs : s.sl.length = 2) : handle [hT1, hT2] bvText s = .rt (.str "text") s := by
  have h1 : hT1.tb.lookup bvText.cls = some false := by
    show List.lookup ("BadValue" : Str) [("BadValue", false), ("TextError", true)] = some false
    decide +kernel
  have h1' : hT2.tb.lookup bvText.cls = some true := by
    show List.lookup ("BadValue" : Str) [("BadValue", true), ("TextError", false)] = some true
    decide +kernel
  have h2 : slotIn hT2.slot s = true := by
    show decide (1 < s.sl.length) = true
    rw [hs]
    rfl
  have h3 : hT2.h bvText = some (.str "text") := by kernel_rfl
  unfold handle
  rw [h1]
  dsimp only
  unfold handle
  rw [h1']
  dsimp only
  rw [if_pos h2]
  show (match hT2.h bvText with | some d => RS.rt d s | none => RS.stuck) = _
  rw [h3]
def toldF (cs : List Cell) (n : Nat) : SR → RF
  | .ok acc => .ret (.lst (acc ++ [endT n])) cs
  | .err e => match e.fs with
    | [(_, m), (_, c)] => .ret (.tup [c, m]) cs
    | _ => .stuck
theorem scanR_err : ∀ (ps : List Pc) (a : Nat) (acc : List D) (e : Exn), scanR ps a acc = .err e → ∃ m b, e = errW m b
  | [], _, _, _, h => by unfold scanR at h; cases h
  | (n, w, .good k) :: ps, a, acc, e, h => by
    unfold scanR at h
    exact scanR_err ps _ _ _ h
  | (n, w, .bad m) :: ps, a, acc, e, h => by
    unfold scanR at h
    cases h
    exact ⟨m, _, rfl⟩
theorem told_ok {l : List Nat} {cs : List Cell} {ps : List Pc} {fb : Nat} (hl : l.length ≤ 600) (hk : ok1 l) (hn : 10 ∉ l) (hd : l = rnd ps fb) (ho : PsOk ps fb) (hp : ps.length ≤ 1000) : f__law_told [.str (tx l)] cs = toldF cs l.length (scanR ps 0 []) := by
  unfold f__law_told
  rw [fnF_at]
  unfold m__law_told
  have e0 : startS 2 [.str (tx l)] cs = ⟨[vS l, none], cs⟩ := rfl
  rw [e0, sTry_at]
  simp only [sRet_at, eCallF_at, aCons_at, aNil_at, eVar_at, eVar1_f, aCons1_ok, aCons2_ok, rl_ok, eCallF1_at, List.getElem?_cons_zero, scan_ok hl hk hn hd ho hp]
  cases e : scanR ps 0 [] with
  | ok acc => simp [scanF, toldF]
  | err ex =>
    obtain ⟨m, b, rfl⟩ := scanR_err ps 0 [] ex e
    simp only [scanF, eCallF2_exc, bindS_exc, try1_ex]
    have := hand_te m b ⟨[vS l, none], cs⟩ rfl
    rw [this]
    rfl
theorem told_no {d : D} {cs : List Cell} (h : f_check_text [d] cs = .exc bvText cs) : f__law_told [d] cs = .ret (.str "text") cs := by
  unfold f__law_told
  rw [fnF_at]
  unfold m__law_told
  have e0 : startS 2 [d] cs = ⟨[some (.val false d), none], cs⟩ := rfl
  rw [e0, sTry_at]
  simp only [sRet_at, eCallF_at, aCons_at, aNil_at, eVar_at, eVar1_f, aCons1_ok, aCons2_ok, rl_ok, eCallF1_at, List.getElem?_cons_zero, scan_no h, eCallF2_exc, bindS_exc, try1_ex]
  rw [hand_bv ⟨[some (.val false d), none], cs⟩ rfl]
  rfl

end K72
set_option Elab.async false
set_option linter.all false
set_option maxRecDepth 100000
set_option maxHeartbeats 2000000
namespace K72
open PySem PySem.Spec PyProof.Rows L2 Mv
/-! ### comprehensions that change nothing -/
theorem lcL_fm {t : TgM} {mt me : EM} {wp : List Nat} {σ0 : S} {p : D → Bool} {f : D → D} : ∀ (ds acc : List D) (s : S), wipeS wp s = σ0 → acc.length + ds.length ≤ sizeLine →
    (∀ d ∈ ds, ∃ s1 s2, t d σ0 = some s1 ∧ mt s1 = .ok (.bl (p d)) s2 ∧ (p d = false → wipeS wp s2 = σ0) ∧ (p d = true → ∃ s3, me s2 = .ok (f d) s3 ∧ wipeS wp s3 = σ0)) →
    lcL t mt me wp ds acc s = .ok (.lst (acc ++ (ds.filter p).map f)) σ0
  | [], acc, s, hs, hl, h => by rw [lcL_nil, hs]; simp
  | d :: ds, acc, s, hs, hl, h => by
    obtain ⟨s1, s2, e1, e2, e3, e4⟩ := h d (by simp)
    rw [lcL_cons, hs, e1, lcG_some, e2]
    cases hp : p d with
    | false =>
      rw [lcT_f, lcL_fm ds acc s2 (e3 hp) (by simp at hl; omega) (fun x hx => h x (by simp [hx]))]
      simp [hp]
    | true =>
      obtain ⟨s3, e5, e6⟩ := e4 hp
      rw [lcT_t, e5, lcE_at (by simp at hl; omega), lcL_fm ds (acc ++ [f d]) s3 e6 (by simp at hl ⊢; omega) (fun x hx => h x (by simp [hx]))]
      simp [hp]
theorem lcL_map {t : TgM} {mt me : EM} {wp : List Nat} {σ0 : S} {f : D → D} (ds acc : List D) (s : S) (hs : wipeS wp s = σ0) (hl : acc.length + ds.length ≤ sizeLine)
    (h : ∀ d ∈ ds, ∃ s1 s2 s3, t d σ0 = some s1 ∧ mt s1 = .ok (.bl true) s2 ∧ me s2 = .ok (f d) s3 ∧ wipeS wp s3 = σ0) : lcL t mt me wp ds acc s = .ok (.lst (acc ++ ds.map f)) σ0 := by
  have := lcL_fm (t := t) (mt := mt) (me := me) (wp := wp) (σ0 := σ0) (p := fun _ => true) (f := f) ds acc s hs hl fun d hd => by
    obtain ⟨s1, s2, s3, e1, e2, e3, e4⟩ := h d hd
    exact ⟨s1, s2, e1, e2, (fun z => nomatch z), fun _ => ⟨s3, e3, e4⟩⟩
  rw [this, List.filter_eq_self.mpr (fun _ _ => rfl)]
theorem blsD_t : ∀ (n : Nat), blsD (List.replicate n (.bl true)) = some (List.replicate n true)
  | 0 => rfl
  | n + 1 => by simp [List.replicate_succ, blsD, blsD_t n]
theorem dAll_t (n : Nat) : dAll (.lst (List.replicate n (.bl true))) = some (.bl true) := by
  simp only [dAll, blsD_t, Option.map_some]
  congr 2
  simp
theorem map_const_t {α : Type} (l : List α) (f : α → D) (h : ∀ x ∈ l, f x = .bl true) : l.map f = List.replicate l.length (.bl true) := by
  induction l with
  | nil => rfl
  | cons x l ih => simp [List.replicate_succ, h x (by simp), ih (fun y hy => h y (by simp [hy]))]
/-! ### equal -/
@[simp] theorem isN_non : dIsN .non .non = some (.bl true) := rfl
@[simp] theorem isN_bl {b : Bool} : dIsN (.bl b) .non = some (.bl false) := rfl
@[simp] theorem isN_int {b : Int} : dIsN (.int b) .non = some (.bl false) := rfl
@[simp] theorem isN_str {b : Str} : dIsN (.str b) .non = some (.bl false) := rfl
@[simp] theorem isN_tup {b : List D} : dIsN (.tup b) .non = some (.bl false) := rfl
@[simp] theorem isN_lst {b : List D} : dIsN (.lst b) .non = some (.bl false) := rfl
@[simp] theorem notN_non : dNotN .non .non = some (.bl false) := rfl
@[simp] theorem notN_bl {b : Bool} : dNotN (.bl b) .non = some (.bl true) := rfl
@[simp] theorem notN_int {b : Int} : dNotN (.int b) .non = some (.bl true) := rfl
@[simp] theorem notN_str {b : Str} : dNotN (.str b) .non = some (.bl true) := rfl
@[simp] theorem notN_tup {b : List D} : dNotN (.tup b) .non = some (.bl true) := rfl
@[simp] theorem notN_lst {b : List D} : dNotN (.lst b) .non = some (.bl true) := rfl
@[simp] theorem is_non {t : Ty} : dIs t .non = some (.bl false) := rfl
@[simp] theorem is_bl {t : Ty} {b : Bool} : dIs t (.bl b) = some (.bl (t = .int || t = .bool)) := rfl
@[simp] theorem is_int {t : Ty} {b : Int} : dIs t (.int b) = some (.bl (decide (t = .int))) := rfl
@[simp] theorem is_str {t : Ty} {b : Str} : dIs t (.str b) = some (.bl (decide (t = .str))) := rfl
@[simp] theorem is_tup {t : Ty} {b : List D} : dIs t (.tup b) = some (.bl (decide (t = .tuple))) := rfl
@[simp] theorem is_lst {t : Ty} {b : List D} : dIs t (.lst b) = some (.bl (decide (t = .list))) := rfl
inductive Plain : Nat → D → Prop
  | int {n : Nat} (i : Int) : Plain (n + 1) (.int i)
  | str {n : Nat} (l : List Nat) : ok1 l → Plain (n + 1) (.str (tx l))
  | tup {n : Nat} (ds : List D) : (∀ d ∈ ds, Plain n d) → ds.length ≤ 100000 → Plain (n + 1) (.tup ds)
  | lst {n : Nat} (ds : List D) : (∀ d ∈ ds, Plain n d) → ds.length ≤ 100000 → Plain (n + 1) (.lst ds)
theorem atI_nat {α : Type} {ds : List α} {i : Nat} : atI ds (i : Int) = ds[i]? := by
  unfold atI ixN
  rw [if_pos (by omega)]
  by_cases h : i < ds.length
  · rw [if_pos (by omega)]
    simp
  · rw [if_neg (by omega)]
    simp at h
    simp [h]
theorem isint_ok {i : Int} {cs : List Cell} : f__law_is_integer [.int i] cs = .ret (.bl true) cs := by
  unfold f__law_is_integer
  rw [fnF_at, startS1 rfl]
  unfold m__law_is_integer
  simp
theorem rgF_len {lo : Int} {n : Nat} : (rgF lo n).length = n := by simp [rgF]
theorem plain_step (self : FF) (n : Nat) (hself : ∀ d cs, Plain n d → self [d, d] cs = .ret (.bl true) cs) (d : D) (cs : List Cell) (h : Plain (n + 1) d) : fnF 3 (m__law_equal self) [d, d] cs = .ret (.bl true) cs := by
  rw [fnF_at]
  have e0 : startS 3 [d, d] cs = ⟨[some (.val false d), some (.val false d), none], cs⟩ := rfl
  rw [e0]
  unfold m__law_equal
  cases h with
  | int i => simp [isint_ok]
  | str l hl => simp [dEq_tx hl hl]
  | tup ds hds hlen =>
    have hlc : lcL (gNm 2) eYes (eCallF self (aCons (eBin dIx (eVarB 0) (eVarB 2)) (aCons (eBin dIx (eVarB 1) (eVarB 2)) aNil))) [2] (rgF 0 ds.length) [] ⟨[some (.val false (.tup ds)), some (.val false (.tup ds)), none], cs⟩ =
        .ok (.lst (List.replicate ds.length (.bl true))) ⟨[some (.val false (.tup ds)), some (.val false (.tup ds)), none], cs⟩ := by
      rw [lcL_map (σ0 := ⟨[some (.val false (.tup ds)), some (.val false (.tup ds)), none], cs⟩) (f := fun _ => .bl true) (rgF 0 ds.length) [] _ rfl (by rw [rgF_len]; simp; exact len_le hlen) (fun d hd => ?_)]
      · rw [map_const_t _ _ (fun _ _ => rfl), rgF_len]
        rfl
      · unfold rgF at hd
        obtain ⟨i, hi, rfl⟩ := List.mem_map.mp hd
        have hi2 : i < ds.length := by simpa using hi
        have hget : ds[i]? = some ds[i] := by simp [hi2]
        refine ⟨⟨[some (.val false (.tup ds)), some (.val false (.tup ds)), some (.val false (.int (0 + (i : Int))))], cs⟩, ⟨[some (.val false (.tup ds)), some (.val false (.tup ds)), some (.val false (.int (0 + (i : Int))))], cs⟩, ⟨[some (.val false (.tup ds)), some (.val false (.tup ds)), some (.val false (.int (0 + (i : Int))))], cs⟩, rfl, rfl, ?_, rfl⟩
        have ih := hself ds[i] cs (hds _ (List.getElem_mem hi2))
        simp [atI_nat, hget, ih]
    have last : (sRet (eUn dAll (eLc (iRng1 (eUn dLen (eVarB 1))) (gNm 2) eYes (eCallF self (aCons (eBin dIx (eVarB 0) (eVarB 2)) (aCons (eBin dIx (eVarB 1) (eVarB 2)) aNil))) [2]))) ⟨[some (.val false (.tup ds)), some (.val false (.tup ds)), none], cs⟩ = .rt (.bl true) ⟨[some (.val false (.tup ds)), some (.val false (.tup ds)), none], cs⟩ := by
      simp only [sRet_at, eUn_at, eLc_at, iRng1_at, eVarB_at, List.getElem?_cons_succ, List.getElem?_cons_zero, eVarB1_v, bind_ok, eUn1_at, deref_tup, dLen_tup, lift_some, iRng11_nat (show ds.length ≤ 16777216 by omega), lc1_ok, hlc, deref_lst, dAll_t, bindS_ok, ret1_at]
    have c1 : (eBin dIsN (eVarB 1) (eC .non)) ⟨[some (.val false (.tup ds)), some (.val false (.tup ds)), none], cs⟩ = .ok (.bl false) ⟨[some (.val false (.tup ds)), some (.val false (.tup ds)), none], cs⟩ := by simp
    have c2 : (eUn (dIs .bool) (eVarB 1)) ⟨[some (.val false (.tup ds)), some (.val false (.tup ds)), none], cs⟩ = .ok (.bl false) ⟨[some (.val false (.tup ds)), some (.val false (.tup ds)), none], cs⟩ := by simp
    have c3 : (eUn (dIs .int) (eVarB 1)) ⟨[some (.val false (.tup ds)), some (.val false (.tup ds)), none], cs⟩ = .ok (.bl false) ⟨[some (.val false (.tup ds)), some (.val false (.tup ds)), none], cs⟩ := by simp
    have c4 : (eUn (dIs .str) (eVarB 1)) ⟨[some (.val false (.tup ds)), some (.val false (.tup ds)), none], cs⟩ = .ok (.bl false) ⟨[some (.val false (.tup ds)), some (.val false (.tup ds)), none], cs⟩ := by simp
    have c5 : (eAnd (eUn (dIs .tuple) (eVarB 1)) (eNot (eUn (dIs .tuple) (eVarB 0)))) ⟨[some (.val false (.tup ds)), some (.val false (.tup ds)), none], cs⟩ = .ok (.bl false) ⟨[some (.val false (.tup ds)), some (.val false (.tup ds)), none], cs⟩ := by simp
    have c6 : (eAnd (eUn (dIs .list) (eVarB 1)) (eNot (eUn (dIs .list) (eVarB 0)))) ⟨[some (.val false (.tup ds)), some (.val false (.tup ds)), none], cs⟩ = .ok (.bl false) ⟨[some (.val false (.tup ds)), some (.val false (.tup ds)), none], cs⟩ := by simp
    have c7 : (eBin dNe (eUn dLen (eVarB 0)) (eUn dLen (eVarB 1))) ⟨[some (.val false (.tup ds)), some (.val false (.tup ds)), none], cs⟩ = .ok (.bl false) ⟨[some (.val false (.tup ds)), some (.val false (.tup ds)), none], cs⟩ := by simp
    rw [sSeq_at, sIf_at, c1, bindS_ok, sIf1_f, sNil_at, seq1_nx, sSeq_at, sIf_at, c2, bindS_ok, sIf1_f, sNil_at, seq1_nx, sSeq_at, sIf_at, c3, bindS_ok, sIf1_f, sNil_at, seq1_nx, sSeq_at, sIf_at, c4, bindS_ok, sIf1_f, sNil_at, seq1_nx, sSeq_at, sIf_at, c5, bindS_ok, sIf1_f, sNil_at, seq1_nx, sSeq_at, sIf_at, c6, bindS_ok, sIf1_f, sNil_at, seq1_nx, sSeq_at, sIf_at, c7, bindS_ok, sIf1_f, sNil_at, seq1_nx, last, fin1_rt]
  | lst ds hds hlen =>
    have hlc : lcL (gNm 2) eYes (eCallF self (aCons (eBin dIx (eVarB 0) (eVarB 2)) (aCons (eBin dIx (eVarB 1) (eVarB 2)) aNil))) [2] (rgF 0 ds.length) [] ⟨[some (.val false (.lst ds)), some (.val false (.lst ds)), none], cs⟩ =
        .ok (.lst (List.replicate ds.length (.bl true))) ⟨[some (.val false (.lst ds)), some (.val false (.lst ds)), none], cs⟩ := by
      rw [lcL_map (σ0 := ⟨[some (.val false (.lst ds)), some (.val false (.lst ds)), none], cs⟩) (f := fun _ => .bl true) (rgF 0 ds.length) [] _ rfl (by rw [rgF_len]; simp; exact len_le hlen) (fun d hd => ?_)]
      · rw [map_const_t _ _ (fun _ _ => rfl), rgF_len]
        rfl
      · unfold rgF at hd
        obtain ⟨i, hi, rfl⟩ := List.mem_map.mp hd
        have hi2 : i < ds.length := by simpa using hi
        have hget : ds[i]? = some ds[i] := by simp [hi2]
        refine ⟨⟨[some (.val false (.lst ds)), some (.val false (.lst ds)), some (.val false (.int (0 + (i : Int))))], cs⟩, ⟨[some (.val false (.lst ds)), some (.val false (.lst ds)), some (.val false (.int (0 + (i : Int))))], cs⟩, ⟨[some (.val false (.lst ds)), some (.val false (.lst ds)), some (.val false (.int (0 + (i : Int))))], cs⟩, rfl, rfl, ?_, rfl⟩
        have ih := hself ds[i] cs (hds _ (List.getElem_mem hi2))
        simp [atI_nat, hget, ih]
    have last : (sRet (eUn dAll (eLc (iRng1 (eUn dLen (eVarB 1))) (gNm 2) eYes (eCallF self (aCons (eBin dIx (eVarB 0) (eVarB 2)) (aCons (eBin dIx (eVarB 1) (eVarB 2)) aNil))) [2]))) ⟨[some (.val false (.lst ds)), some (.val false (.lst ds)), none], cs⟩ = .rt (.bl true) ⟨[some (.val false (.lst ds)), some (.val false (.lst ds)), none], cs⟩ := by
      simp only [sRet_at, eUn_at, eLc_at, iRng1_at, eVarB_at, List.getElem?_cons_succ, List.getElem?_cons_zero, eVarB1_v, bind_ok, eUn1_at, deref_lst, dLen_lst, lift_some, iRng11_nat (show ds.length ≤ 16777216 by omega), lc1_ok, hlc, deref_lst, dAll_t, bindS_ok, ret1_at]
    have c1 : (eBin dIsN (eVarB 1) (eC .non)) ⟨[some (.val false (.lst ds)), some (.val false (.lst ds)), none], cs⟩ = .ok (.bl false) ⟨[some (.val false (.lst ds)), some (.val false (.lst ds)), none], cs⟩ := by simp
    have c2 : (eUn (dIs .bool) (eVarB 1)) ⟨[some (.val false (.lst ds)), some (.val false (.lst ds)), none], cs⟩ = .ok (.bl false) ⟨[some (.val false (.lst ds)), some (.val false (.lst ds)), none], cs⟩ := by simp
    have c3 : (eUn (dIs .int) (eVarB 1)) ⟨[some (.val false (.lst ds)), some (.val false (.lst ds)), none], cs⟩ = .ok (.bl false) ⟨[some (.val false (.lst ds)), some (.val false (.lst ds)), none], cs⟩ := by simp
    have c4 : (eUn (dIs .str) (eVarB 1)) ⟨[some (.val false (.lst ds)), some (.val false (.lst ds)), none], cs⟩ = .ok (.bl false) ⟨[some (.val false (.lst ds)), some (.val false (.lst ds)), none], cs⟩ := by simp
    have c5 : (eAnd (eUn (dIs .tuple) (eVarB 1)) (eNot (eUn (dIs .tuple) (eVarB 0)))) ⟨[some (.val false (.lst ds)), some (.val false (.lst ds)), none], cs⟩ = .ok (.bl false) ⟨[some (.val false (.lst ds)), some (.val false (.lst ds)), none], cs⟩ := by simp
    have c6 : (eAnd (eUn (dIs .list) (eVarB 1)) (eNot (eUn (dIs .list) (eVarB 0)))) ⟨[some (.val false (.lst ds)), some (.val false (.lst ds)), none], cs⟩ = .ok (.bl false) ⟨[some (.val false (.lst ds)), some (.val false (.lst ds)), none], cs⟩ := by simp
    have c7 : (eBin dNe (eUn dLen (eVarB 0)) (eUn dLen (eVarB 1))) ⟨[some (.val false (.lst ds)), some (.val false (.lst ds)), none], cs⟩ = .ok (.bl false) ⟨[some (.val false (.lst ds)), some (.val false (.lst ds)), none], cs⟩ := by simp
    rw [sSeq_at, sIf_at, c1, bindS_ok, sIf1_f, sNil_at, seq1_nx, sSeq_at, sIf_at, c2, bindS_ok, sIf1_f, sNil_at, seq1_nx, sSeq_at, sIf_at, c3, bindS_ok, sIf1_f, sNil_at, seq1_nx, sSeq_at, sIf_at, c4, bindS_ok, sIf1_f, sNil_at, seq1_nx, sSeq_at, sIf_at, c5, bindS_ok, sIf1_f, sNil_at, seq1_nx, sSeq_at, sIf_at, c6, bindS_ok, sIf1_f, sNil_at, seq1_nx, sSeq_at, sIf_at, c7, bindS_ok, sIf1_f, sNil_at, seq1_nx, last, fin1_rt]
theorem plain_eq (n : Nat) : ∀ (d : D) (cs : List Cell), Plain n d → f__law_equal n [d, d] cs = .ret (.bl true) cs := by
  induction n with
  | zero => intro d cs h; cases h
  | succ n ih => exact fun d cs h => plain_step (f__law_equal n) n ih d cs h
/-! ### pick -/
theorem next_eq : f__law_next = fNext := rfl
theorem pick_ok {ds : List D} {cs : List Cell} {k : Nat} (hs : StAt cs k) (h0 : ds ≠ []) (h1 : ds.length ≤ 100000) : ∃ d c, f__law_pick [.cell k, .lst ds] cs = .ret d (cs.set k c) ∧ d ∈ ds ∧ StAt (cs.set k c) k := by
  have hpos : 0 < ds.length := List.length_pos_iff.mpr h0
  obtain ⟨n, c, e, g0, g1, g2⟩ := next_ok (many := (ds.length : Int)) hs (by omega) (by omega)
  obtain ⟨m, rfl⟩ : ∃ m : Nat, n = m := ⟨n.toNat, by omega⟩
  have hm : m < ds.length := by omega
  refine ⟨ds[m], c, ?_, List.getElem_mem hm, g2⟩
  unfold f__law_pick
  rw [fnF_at]
  have e0 : startS 2 [D.cell k, .lst ds] cs = ⟨[some (.val false (.cell k)), some (.val false (.lst ds))], cs⟩ := rfl
  rw [e0]
  unfold m__law_pick
  have hget : ds[m]? = some ds[m] := by simp [hm]
  rw [← next_eq] at e
  simp [e, atI_nat, hget]
end K72
set_option Elab.async false
set_option linter.all false
set_option maxRecDepth 100000
set_option maxHeartbeats 2000000
namespace K72
open PySem PySem.Spec PyProof.Rows L2 Mv
theorem dIx_tx0 {c : Nat} {q : List Nat} (h : (c :: q).length ≤ 100000) : dIx (.str (tx (c :: q))) (.int 0) = some (.str (tx [c])) := by
  have := dIx_tx (i := 0) h (show (c :: q)[0]? = some c from rfl)
  simpa using this
theorem dNe_tx {a b : List Nat} (h1 : a.all (· < 0x110000) = true) (h2 : b.all (· < 0x110000) = true) : dNe (.str (tx a)) (.str (tx b)) = some (.bl (!decide (a = b))) := by
  rw [dNe_str (by rw [strOk_tx]; exact h1) (by rw [strOk_tx]; exact h2)]
  simp
theorem sgn_no : ∀ s ∈ SGN, s ≠ [105, 110] ∧ ∃ c q, s = c :: q ∧ c ∉ EVS ∧ c ∉ DIG := by
  intro s hs
  simp only [SGN, List.mem_cons, List.mem_nil_iff, or_false] at hs
  rcases hs with rfl | rfl | rfl | rfl | rfl | rfl
  · exact ⟨by decide, 58, [], rfl, by decide, by decide⟩
  · exact ⟨by decide, 59, [], rfl, by decide, by decide⟩
  · exact ⟨by decide, 44, [], rfl, by decide, by decide⟩
  · exact ⟨by decide, 61, [], rfl, by decide, by decide⟩
  · exact ⟨by decide, 45, [], rfl, by decide, by decide⟩
  · exact ⟨by decide, 46, [46], rfl, by decide, by decide⟩
theorem dig_noevs : ∀ c ∈ DIG, c ∉ EVS := by decide
theorem dig_no105 : (105 : Nat) ∉ DIG := by decide
theorem kind_ok {w : List Nat} {k : Str} {cs : List Cell} (h : Tok w (.good k)) (hk : ok1 w) (hl : w.length ≤ 9) : f__law_kind [.str (tx w)] cs = .ret (.str k) cs := by
  unfold f__law_kind
  rw [fnF_at, startS1 rfl]
  unfold m__law_kind
  simp only [in_eq, evs_eq, dig_eq]
  have h2 : ok1 [105, 110] := by unfold ok1; decide
  have c1 : (eBin dEq (eVarB 0) (eC (.str (tx [105, 110])))) ⟨[vS w], cs⟩ = .ok (.bl (decide (w = [105, 110]))) ⟨[vS w], cs⟩ := by
    simp [dEq_tx hk h2]
  rw [sSeq_at, sIf_at, c1, bindS_ok]
  have nxt : ∀ (c : Nat) (q : List Nat), w = c :: q → (eBin dIn (eBin dIx (eVarB 0) (eC (.int 0))) (eC (.str (tx EVS)))) ⟨[vS w], cs⟩ = .ok (.bl (decide (c ∈ EVS))) ⟨[vS w], cs⟩ ∧
      (eBin dIn (eBin dIx (eVarB 0) (eC (.int 0))) (eC (.str (tx DIG)))) ⟨[vS w], cs⟩ = .ok (.bl (decide (c ∈ DIG))) ⟨[vS w], cs⟩ := by
    intro c q e
    subst e
    have hx := dIx_tx0 (c := c) (q := q) (by omega)
    constructor
    · simp [hx, dIn_tx]
    · simp [hx, dIn_tx]
  cases h with
  | sign hs =>
    obtain ⟨h1, c, q, e, h3, h4⟩ := sgn_no w hs
    obtain ⟨n1, n2⟩ := nxt c q e
    rw [decide_eq_false h1, sIf1_f, sNil_at, seq1_nx, sSeq_at, sIf_at, n1, bindS_ok, decide_eq_false h3, sIf1_f, sNil_at, seq1_nx, sRet_at, eIf_at, n2, bind_ok, decide_eq_false h4, eIf1_f, eC_at, bindS_ok, ret1_at, fin1_rt]
  | word => 
    rw [decide_eq_true rfl, sIf1_t, sRet_at, eC_at, bindS_ok, ret1_at, seq1_rt, fin1_rt]
  | @event c hc =>
    obtain ⟨n1, n2⟩ := nxt c [] rfl
    rw [decide_eq_false (by simp), sIf1_f, sNil_at, seq1_nx, sSeq_at, sIf_at, n1, bindS_ok, decide_eq_true hc, sIf1_t, sRet_at, eC_at, bindS_ok, ret1_at, seq1_rt, fin1_rt]
  | @num c q hall hle =>
    obtain ⟨n1, n2⟩ := nxt c q rfl
    have hcd := hall c (by simp)
    rw [decide_eq_false (by intro e; cases e; exact dig_no105 hcd), sIf1_f, sNil_at, seq1_nx, sSeq_at, sIf_at, n1, bindS_ok, decide_eq_false (dig_noevs c hcd), sIf1_f, sNil_at, seq1_nx, sRet_at, eIf_at, n2, bind_ok, decide_eq_true hcd, eIf1_t, eC_at, bindS_ok, ret1_at, fin1_rt]

/-! ### laid -/
def KND : List (List Nat) := [DIG, LOW, [46]]
def SepW (p w : List Nat) : Prop := ∀ k ∈ KND, ∀ c, p.getLast? = some c → c ∈ k → ∀ x, w.head? = some x → x ∉ k
def AdjOk : Option (List Nat) → List Pc → Prop
  | _, [] => True
  | none, (_, w, _) :: ps => AdjOk (some w) ps
  | some p, (n, w, _) :: ps => (n = 0 → SepW p w) ∧ AdjOk (some w) ps
def placesOf : List Pc → Nat → List D
  | [], _ => []
  | (n, w, _) :: ps, a => .int ((a + n : Nat) + 1) :: placesOf ps (a + n + w.length)
structure WOk (w : List Nat) (t : Tk) : Prop where
  tok : Tok w t
  b : 32 ∉ w
  nl : 10 ∉ w
  ok : ok1 w
  len : w.length ≤ 9
theorem blank_kind : ∀ k ∈ KND, 32 ∉ k := by decide
theorem psOk_of {fb : Nat} : ∀ (ps : List Pc) (o : Option (List Nat)), AdjOk o ps → (∀ q ∈ ps, WOk q.2.1 q.2.2) → PsOk ps fb
  | [], _, _, _ => trivial
  | (n, w, t) :: ps, o, ha, hw => by
    have h1 := hw (n, w, t) (by simp)
    have ha2 : AdjOk (some w) ps := by
      cases o with
      | none => exact ha
      | some p => exact ha.2
    refine ⟨h1.tok, h1.b, fun k hk c hc hck x hx => ?_, psOk_of ps (some w) ha2 fun q hq => hw q (by simp [hq])⟩
    have kb : 32 ∉ k := blank_kind k hk
    cases ps with
    | nil =>
      cases fb with
      | zero => simp [rnd] at hx
      | succ fb =>
        simp [rnd, List.replicate_succ] at hx
        subst hx
        exact kb
    | cons q ps =>
      obtain ⟨m, u, s⟩ := q
      cases m with
      | zero =>
        have h2 := hw (0, u, s) (by simp)
        have hu := tok_ok1 h2.tok
        have ex : u.head? = some x := by
          cases u with
          | nil => exact absurd rfl hu
          | cons y u => simpa [rnd] using hx
        exact ha2.1 rfl k hk c hc hck x ex
      | succ m =>
        simp [rnd, List.replicate_succ] at hx
        subst hx
        exact kb
theorem cut_last {p : List Nat} {c : Nat} (h : p.getLast? = some c) : cutS (tx p) (some (-1)) none = tx [c] := by
  obtain ⟨q, rfl⟩ : ∃ q, p = q ++ [c] := List.getLast?_eq_some_iff.mp h
  unfold cutS
  rw [tx_len, HT.sIx_none]
  have e : HT.sIx (q ++ [c]).length 0 (some (-1)) = q.length := by
    unfold HT.sIx
    dsimp only
    rw [if_pos (by decide)]
    simp
    omega
  rw [e]
  simp
theorem cut_first {c : Nat} {q : List Nat} : cutS (tx (c :: q)) none (some 1) = tx [c] := by
  have e : (1 : Int) = ((1 : Nat) : Int) := rfl
  unfold cutS
  rw [tx_len, HT.sIx_none, e, HT.sIx_nat]
  simp
def nearB : SM := (sSet 6 (eBin dMax2 (eVarB 6) (eUn dInt (eAnd (eBin dIn (eSl dSl (eBin dIx (eVarB 1) (eBin dSub (eVarB 4) (eC (.int 1)))) (pSome (eUn dNeg (eC (.int 1)))) pNone) (eVarB 7)) (eBin dIn (eSl dSl (eVarB 5) pNone (pSome (eC (.int 1)))) (eVarB 7))))))
theorem near_body {W : List D} {p q : List Nat} {j : Nat} {c x v : Nat} {k : List Nat} {T : Option SV} {P x0 : Option SV} {cs : List Cell} (hW : W[j]? = some (.str (tx p))) (hp : p.getLast? = some c) (hpl : p.length ≤ 9) (hql : (x :: q).length ≤ 9) (hv : v ≤ 1) :
    ∃ v', nearB ⟨[x0, some (.val false (.lst W)), T, P, vI (j + 1), vS (x :: q), vI v, vS k], cs⟩ = .nx ⟨[x0, some (.val false (.lst W)), T, P, vI (j + 1), vS (x :: q), vI v', vS k], cs⟩ ∧ v' ≤ 1 ∧ (v' = 0 → v = 0 ∧ (c ∈ k → x ∉ k)) := by
  have e1 : (((j + 1 : Nat) : Int) - 1) = (j : Int) := by omega
  have val : (eUn dInt (eAnd (eBin dIn (eSl dSl (eBin dIx (eVarB 1) (eBin dSub (eVarB 4) (eC (.int 1)))) (pSome (eUn dNeg (eC (.int 1)))) pNone) (eVarB 7)) (eBin dIn (eSl dSl (eVarB 5) pNone (pSome (eC (.int 1)))) (eVarB 7)))) ⟨[x0, some (.val false (.lst W)), T, P, vI (j + 1), vS (x :: q), vI v, vS k], cs⟩ =
      .ok (.int (if c ∈ k ∧ x ∈ k then 1 else 0)) ⟨[x0, some (.val false (.lst W)), T, P, vI (j + 1), vS (x :: q), vI v, vS k], cs⟩ := by
    have a1 : (eBin dIn (eSl dSl (eBin dIx (eVarB 1) (eBin dSub (eVarB 4) (eC (.int 1)))) (pSome (eUn dNeg (eC (.int 1)))) pNone) (eVarB 7)) ⟨[x0, some (.val false (.lst W)), T, P, vI (j + 1), vS (x :: q), vI v, vS k], cs⟩ = .ok (.bl (decide (c ∈ k))) ⟨[x0, some (.val false (.lst W)), T, P, vI (j + 1), vS (x :: q), vI v, vS k], cs⟩ := by
      have e2 : ((j : Int) + 1 - 1) = (j : Int) := by omega
      simp [e2, atI_nat, hW, dSl_tx (show p.length ≤ 100000 by omega), cut_last hp, dIn_tx]
    have a2 : (eBin dIn (eSl dSl (eVarB 5) pNone (pSome (eC (.int 1)))) (eVarB 7)) ⟨[x0, some (.val false (.lst W)), T, P, vI (j + 1), vS (x :: q), vI v, vS k], cs⟩ = .ok (.bl (decide (x ∈ k))) ⟨[x0, some (.val false (.lst W)), T, P, vI (j + 1), vS (x :: q), vI v, vS k], cs⟩ := by
      simp [dSl_tx (show (x :: q).length ≤ 100000 by omega), cut_first, dIn_tx]
    rw [eUn_at, eAnd_at, a1, bind_ok]
    by_cases h1 : c ∈ k
    · rw [decide_eq_true h1, eAnd1_t, a2]
      by_cases h2 : x ∈ k
      · simp [h1, h2]
      · simp [h1, h2]
    · rw [decide_eq_false h1, eAnd1_f]
      simp [h1]
  unfold nearB
  rw [sSet_at, eBin_at, eVarB_at]
  by_cases h : c ∈ k ∧ x ∈ k
  · refine ⟨1, ?_, Nat.le_refl _, fun z => by cases z⟩
    rw [if_pos h] at val
    have hm : dMax2 (.int (v : Int)) (.int 1) = some (.int 1) := by
      unfold dMax2
      dsimp only
      split
      · rfl
      · have : v = 1 := by omega
        subst this
        rfl
    simp only [List.getElem?_cons_succ, List.getElem?_cons_zero, eVarB1_v, bind_ok, eBin1_at, val, eBin2_at, deref_int, hm, lift_some, bindS_ok, set1_at, List.set_cons_succ, List.set_cons_zero]
    rfl
  · refine ⟨v, ?_, hv, fun z => ⟨z, fun a b => h ⟨a, b⟩⟩⟩
    rw [if_neg h] at val
    have hm : dMax2 (.int (v : Int)) (.int 0) = some (.int (v : Int)) := by
      unfold dMax2
      dsimp only
      rw [if_neg (by omega)]
    simp only [List.getElem?_cons_succ, List.getElem?_cons_zero, eVarB1_v, bind_ok, eBin1_at, val, eBin2_at, deref_int, hm, lift_some, bindS_ok, set1_at, List.set_cons_succ, List.set_cons_zero]
theorem near_loop {W : List D} {p q : List Nat} {j c x : Nat} {T : Option SV} {P x0 : Option SV} {cs : List Cell} (hW : W[j]? = some (.str (tx p))) (hp : p.getLast? = some c) (hpl : p.length ≤ 9) (hql : (x :: q).length ≤ 9) : ∀ (ks : List (List Nat)) (v : Nat) (y : Option SV), v ≤ 1 →
    ∃ v', forL (gNm 7) nearB [7] (ks.map fun k => .str (tx k)) ⟨[x0, some (.val false (.lst W)), T, P, vI (j + 1), vS (x :: q), vI v, y], cs⟩ = .nx ⟨[x0, some (.val false (.lst W)), T, P, vI (j + 1), vS (x :: q), vI v', none], cs⟩ ∧ v' ≤ 1 ∧ (v' = 0 → v = 0 ∧ ∀ k ∈ ks, c ∈ k → x ∉ k)
  | [], v, y, hv => ⟨v, by simp [forL_nil], hv, fun z => ⟨z, fun k hk => by simp at hk⟩⟩
  | k :: ks, v, y, hv => by
    obtain ⟨v1, e1, h1, h2⟩ := near_body (W := W) (T := T) (P := P) (x0 := x0) (cs := cs) (k := k) hW hp hpl hql hv
    obtain ⟨v2, e2, h3, h4⟩ := near_loop (T := T) (P := P) (x0 := x0) (cs := cs) hW hp hpl hql ks v1 (vS k) h1
    refine ⟨v2, ?_, h3, fun z => ?_⟩
    · rw [List.map_cons, forL_cons]
      simp only [wipeS_cons, wipeS_nil, gNm_at, forT_some, List.set_cons_succ, List.set_cons_zero]
      rw [e1, forS_nx, e2]
    · obtain ⟨z1, z2⟩ := h4 z
      obtain ⟨z3, z4⟩ := h2 z1
      refine ⟨z3, fun k' hk' => ?_⟩
      rcases List.mem_cons.mp hk' with rfl | hk'
      · exact z4
      · exact z2 k' hk'
end K72
set_option Elab.async false
set_option linter.all false
set_option maxRecDepth 100000
set_option maxHeartbeats 2000000
namespace K72
open PySem PySem.Spec PyProof.Rows L2 Mv
theorem dot_eq : ("." : Str) = tx [46] := by decide +kernel
theorem bl2_eq : ("  " : Str) = tx [32, 32] := by decide +kernel
theorem bl3_eq : ("   " : Str) = tx [32, 32, 32] := by decide +kernel
def tgL : TgM := (gTp 2 (gsCons (gNm 4) (gsCons (gNm 5) gsNil)))
def laid2 : SM := (sIf (eBin dGt (eVarB 4) (eC (.int 0))) (sFor (iSeq (eLst (aCons (eC (.str "0123456789")) (aCons (eC (.str "abcdefghijklmnopqrstuvwxyz")) (aCons (eC (.str ".")) aNil))))) (gNm 7) nearB [7]) sNil)
def laid3 : SM := (sSet 2 (eBin dAdd (eVarB 2) (eBin dIx (eLst (aCons (eC (.str "")) (aCons (eC (.str " ")) (aCons (eC (.str "  ")) (aCons (eC (.str "   ")) aNil))))) (eBin dMax2 (eVarB 6) (eCallF f__law_next (aCons (eVar 0) (aCons (eC (.int 4)) aNil)))))))
def laidB : SM := (sSeq (sSet 6 (eC (.int 0))) (sSeq laid2 (sSeq laid3
  (sSeq (sExpr (eMut 3 lAppend (aCons (eBin dAdd (eUn dLen (eVarB 2)) (eC (.int 1))) aNil))) (sSet 2 (eBin dAdd (eVarB 2) (eVarB 5)))))))
theorem m_laid_eq : m__law_laid = sSeq (sSet 2 (eC (.str ""))) (sSeq (sSetO 3 (eLst aNil)) (sSeq (sFor (iEnumM (eVar 1)) tgL laidB [4, 5, 6, 7])
    (sSeq (sSet 2 (eBin dAdd (eVarB 2) (eBin dIx (eLst (aCons (eC (.str "")) (aCons (eC (.str " ")) (aCons (eC (.str "  ")) aNil)))) (eCallF f__law_next (aCons (eVar 0) (aCons (eC (.int 3)) aNil))))))
    (sRet (eTup (aCons (eVar 2) (aCons (eBin dAdd (eVarB 3) (eLst (aCons (eBin dAdd (eUn dLen (eVarB 2)) (eC (.int 1))) aNil))) aNil))))))) := rfl
theorem laid2_0 {x0 x1 x2 x3 x5 x6 x7 : Option SV} {cs : List Cell} : laid2 ⟨[x0, x1, x2, x3, some (.val false (.int 0)), x5, x6, x7], cs⟩ = .nx ⟨[x0, x1, x2, x3, some (.val false (.int 0)), x5, x6, x7], cs⟩ := by
  unfold laid2
  simp
theorem knd_eq : [D.str "0123456789", .str "abcdefghijklmnopqrstuvwxyz", .str "."] = KND.map fun k => .str (tx k) := by
  rw [dig_eq, low_eq, dot_eq]
  rfl
theorem laid2_s {W : List D} {p q : List Nat} {j c x : Nat} {T : Option SV} {P x0 y : Option SV} {cs : List Cell} (hW : W[j]? = some (.str (tx p))) (hp : p.getLast? = some c) (hpl : p.length ≤ 9) (hql : (x :: q).length ≤ 9) :
    ∃ v' y', laid2 ⟨[x0, some (.val false (.lst W)), T, P, vI (j + 1), vS (x :: q), some (.val false (.int 0)), y], cs⟩ = .nx ⟨[x0, some (.val false (.lst W)), T, P, vI (j + 1), vS (x :: q), vI v', y'], cs⟩ ∧ v' ≤ 1 ∧ (v' = 0 → ∀ k ∈ KND, c ∈ k → x ∉ k) := by
  obtain ⟨v', e, h1, h2⟩ := near_loop (T := T) (P := P) (x0 := x0) (cs := cs) hW hp hpl hql KND 0 y (Nat.zero_le _)
  refine ⟨v', none, ?_, h1, fun z => (h2 z).2⟩
  unfold laid2
  have hgt : ((0 : Int) < ((j + 1 : Nat) : Int)) := by omega
  rw [sIf_at]
  have c1 : (eBin dGt (eVarB 4) (eC (.int 0))) ⟨[x0, some (.val false (.lst W)), T, P, vI (j + 1), vS (x :: q), some (.val false (.int 0)), y], cs⟩ = .ok (.bl true) ⟨[x0, some (.val false (.lst W)), T, P, vI (j + 1), vS (x :: q), some (.val false (.int 0)), y], cs⟩ := by
    rw [eBin_at, eVarB_at]
    simp only [List.getElem?_cons_succ, List.getElem?_cons_zero, eVarB1_v, bind_ok, eBin1_at, eC_at, eBin2_at, deref_int, dGt_int, hgt, decide_true, lift_some]
  rw [c1, bindS_ok, sIf1_t, sFor_at, iSeq_at]
  simp only [eLst_at, aCons_at, eC_at, aNil_at, aCons1_ok, aCons2_ok, rl_ok, eLst1_3, iSeq1_ok, seqD_lst, iSeq2_some, for1_ok, knd_eq]
  exact e
theorem laid3_ok {x1 x3 x4 x5 x7 : Option SV} {T : List Nat} {v : Nat} {cs : List Cell} (hs : StAt cs 0) (hv : v ≤ 1) (hT : T.length ≤ 50000) :
    ∃ n cs', laid3 ⟨[some (.val false (.cell 0)), x1, vS T, x3, x4, x5, vI v, x7], cs⟩ = .nx ⟨[some (.val false (.cell 0)), x1, vS (T ++ List.replicate n 32), x3, x4, x5, vI v, x7], cs'⟩ ∧ StAt cs' 0 ∧ v ≤ n ∧ n ≤ 3 := by
  obtain ⟨d, c, e, g0, g1, g2⟩ := next_ok (many := 4) hs (by omega) (by omega)
  obtain ⟨m, rfl⟩ : ∃ m : Nat, d = m := ⟨d.toNat, by omega⟩
  have hm : m ≤ 3 := by omega
  rw [← next_eq] at e
  have key : ∃ n : Nat, dMax2 (.int (v : Int)) (.int (m : Int)) = some (.int (n : Int)) ∧ v ≤ n ∧ n ≤ 3 := by
    unfold dMax2
    dsimp only
    by_cases h : (m : Int) > (v : Int)
    · exact ⟨m, by rw [if_pos h], by omega, hm⟩
    · exact ⟨v, by rw [if_neg h], by omega, by omega⟩
  obtain ⟨n, hmax, hn1, hn2⟩ := key
  refine ⟨n, cs.set 0 c, ?_, g2, hn1, hn2⟩
  unfold laid3
  have ix : dIx (.lst [.str "", .str " ", .str "  ", .str "   "]) (.int (n : Int)) = some (.str (tx (List.replicate n 32))) := by
    rw [nil_eq, sp_eq, bl2_eq, bl3_eq]
    have : n = 0 ∨ n = 1 ∨ n = 2 ∨ n = 3 := by omega
    rcases this with rfl | rfl | rfl | rfl
    · simp
    · simp
    · simp
    · simp
  have ad := dAdd_tx (a := T) (b := List.replicate n 32) (by rw [List.length_replicate]; omega)
  rw [sSet_at, eBin_at, eVarB_at]
  simp only [List.getElem?_cons_succ, List.getElem?_cons_zero, eVarB1_v, bind_ok, eBin1_at, eBin_at, eLst_at, aCons_at, eC_at, aNil_at, aCons1_ok, aCons2_ok, rl_ok, eLst1_4, eVarB_at, eCallF_at, eVar_at, eVar1_f, eCallF1_at, e, eCallF2_ret, eBin2_at, deref_int, hmax, lift_some, deref_lst, ix, deref_str, ad, bindS_ok, set1_at, List.set_cons_succ, List.set_cons_zero]
theorem laid_turn {W : List D} {w : List Nat} {j : Nat} {P : List D} {T : List Nat} {x4 x5 x6 x7 : Option SV} {cs : List Cell} {prev : Option (List Nat)} (hs : StAt cs 0) (hw0 : w ≠ []) (hwl : w.length ≤ 9) (hT : T.length ≤ 20000) (hP : P.length ≤ 20000)
    (hp : (j = 0 ∧ prev = none) ∨ ∃ i p, j = i + 1 ∧ prev = some p ∧ W[i]? = some (.str (tx p)) ∧ p ≠ [] ∧ p.length ≤ 9) :
    ∃ n cs' y6 y7, laidB ⟨[some (.val false (.cell 0)), some (.val false (.lst W)), vS T, vO P, vI j, vS w, x6, x7], cs⟩ =
      .nx ⟨[some (.val false (.cell 0)), some (.val false (.lst W)), vS (T ++ (List.replicate n 32 ++ w)), vO (P ++ [.int ((T.length + n : Nat) + 1)]), vI j, vS w, y6, y7], cs'⟩ ∧ StAt cs' 0 ∧ n ≤ 3 ∧ (∀ p, prev = some p → n = 0 → SepW p w) := by
  obtain ⟨x, q, rfl⟩ : ∃ x q, w = x :: q := by
    cases w with
    | nil => exact absurd rfl hw0
    | cons x q => exact ⟨x, q, rfl⟩
  -- the second statement
  have st2 : ∃ v y, laid2 ⟨[some (.val false (.cell 0)), some (.val false (.lst W)), vS T, vO P, vI j, vS (x :: q), some (.val false (.int 0)), x7], cs⟩ = .nx ⟨[some (.val false (.cell 0)), some (.val false (.lst W)), vS T, vO P, vI j, vS (x :: q), vI v, y], cs⟩ ∧ v ≤ 1 ∧ (∀ p, prev = some p → v = 0 → SepW p (x :: q)) := by
    rcases hp with ⟨rfl, rfl⟩ | ⟨i, p, rfl, rfl, hW, hp0, hpl⟩
    · exact ⟨0, x7, laid2_0, Nat.zero_le _, fun p z => by cases z⟩
    · obtain ⟨c, hc⟩ : ∃ c, p.getLast? = some c := by
        cases p with
        | nil => exact absurd rfl hp0
        | cons a p => exact last_of
      obtain ⟨v, y, e, h1, h2⟩ := laid2_s (T := vS T) (P := vO P) (x0 := some (.val false (.cell 0))) (y := x7) (cs := cs) hW hc hpl hwl
      refine ⟨v, y, e, h1, fun p' z hv k hk c' hc' hck x' hx' => ?_⟩
      cases z
      rw [hc] at hc'
      cases hc'
      cases hx'
      exact h2 hv k hk hck
  obtain ⟨v, y, e2, hv, hsep⟩ := st2
  obtain ⟨n, cs', e3, hst, hn1, hn2⟩ := laid3_ok (x1 := some (.val false (.lst W))) (x3 := vO P) (x4 := vI j) (x5 := vS (x :: q)) (x7 := y) hs hv (show T.length ≤ 50000 by omega)
  refine ⟨n, cs', vI v, y, ?_, hst, hn2, fun p z hn => hsep p z (by omega)⟩
  unfold laidB
  rw [sSeq_at, sSet_at, eC_at, bindS_ok, set1_at, seq1_nx, sSeq_at]
  simp only [List.set_cons_succ, List.set_cons_zero]
  rw [e2, seq1_nx, sSeq_at, e3, seq1_nx, sSeq_at]
  have hlen : (T ++ List.replicate n 32).length ≤ 100000 := by rw [List.length_append, List.length_replicate]; omega
  have hap : ∀ d, lAppend P [d] = some (.non, P ++ [d]) := fun d => lAppend_at (by rw [sizeLine_eq]; omega)
  have ad := dAdd_tx (a := T ++ List.replicate n 32) (b := x :: q) (by rw [List.length_append, List.length_replicate]; omega)
  have hl2 : (((T ++ List.replicate n 32).length : Nat) : Int) + 1 = ((T.length + n : Nat) : Int) + 1 := by rw [List.length_append, List.length_replicate]
  simp only [sExpr_at, eMut_at, List.getElem?_cons_succ, List.getElem?_cons_zero, eMut1_at, aCons_at, eBin_at, eUn_at, eVarB_at, eVarB1_v, bind_ok, eUn1_at, deref_str, dLen_tx hlen, lift_some, eBin1_at, eC_at, eBin2_at, deref_int, dAdd_int, aNil_at, aCons1_ok, aCons2_ok, rl_ok, eMutA_at, eMut2_at, hap, eMut3_at, bindS_ok, drop1_at, seq1_nx, List.set_cons_succ, List.set_cons_zero, sSet_at, ad, set1_at, hl2, List.append_assoc]
def wD (q : List Nat × Tk) : D := .str (tx q.1)
theorem laid_loop {W : List D} : ∀ (ws : List (List Nat × Tk)) (j : Nat) (prev : Option (List Nat)) (T : List Nat) (P : List D) (x4 x5 x6 x7 : Option SV) (cs : List Cell), StAt cs 0 → W.drop j = ws.map wD → (∀ q ∈ ws, WOk q.1 q.2) →
    ((j = 0 ∧ prev = none) ∨ ∃ i p, j = i + 1 ∧ prev = some p ∧ W[i]? = some (.str (tx p)) ∧ p ≠ [] ∧ p.length ≤ 9) → T.length + 12 * ws.length ≤ 10000 → P.length + ws.length ≤ 10000 →
    ∃ ps cs', forL tgL laidB [4, 5, 6, 7] ((ws.map wD).zipIdx j |>.map fun (p : D × Nat) => .tup [.int (p.2 : Nat), p.1]) ⟨[some (.val false (.cell 0)), some (.val false (.lst W)), vS T, vO P, x4, x5, x6, x7], cs⟩ =
      .nx ⟨[some (.val false (.cell 0)), some (.val false (.lst W)), vS (T ++ rnd ps 0), vO (P ++ placesOf ps T.length), none, none, none, none], cs'⟩ ∧ StAt cs' 0 ∧ ps.map (·.2) = ws ∧ AdjOk prev ps ∧ ∀ q ∈ ps, q.1 ≤ 3
  | [], j, prev, T, P, x4, x5, x6, x7, cs, hs, hd, hw, hp, hT, hP => by
    refine ⟨[], cs, ?_, hs, rfl, ?_, fun q hq => by simp at hq⟩
    · simp [forL_nil, rnd, placesOf]
    · cases prev <;> trivial
  | (w, t) :: ws, j, prev, T, P, x4, x5, x6, x7, cs, hs, hd, hw, hp, hT, hP => by
    have h1 := hw (w, t) (by simp)
    have hw0 := tok_ok1 h1.tok
    simp only [List.length_cons] at hT hP
    obtain ⟨n, cs1, y6, y7, e1, hst, hn, hsep⟩ := laid_turn (W := W) (w := w) (j := j) (P := P) (T := T) (x4 := none) (x5 := none) (x6 := none) (x7 := none) (prev := prev) hs hw0 h1.len (by omega) (by omega) hp
    have hWj : W[j]? = some (.str (tx w)) := by
      have : (W.drop j)[0]? = some (.str (tx w)) := by rw [hd]; rfl
      rw [List.getElem?_drop] at this
      simpa using this
    have hl : w.length ≤ 9 := h1.len
    obtain ⟨ps, cs2, e2, hst2, hm, ha, hn3⟩ := laid_loop ws (j + 1) (some w) (T ++ (List.replicate n 32 ++ w)) (P ++ [.int ((T.length + n : Nat) + 1)]) (vI j) (vS w) y6 y7 cs1 hst (by rw [← List.drop_drop, hd]; rfl) (fun q hq => hw q (by simp [hq]))
      (.inr ⟨j, w, rfl, rfl, hWj, hw0, h1.len⟩) (by simp; omega) (by simp; omega)
    refine ⟨(n, w, t) :: ps, cs2, ?_, hst2, by simp [hm], ?_, fun q hq => ?_⟩
    · rw [List.map_cons, List.zipIdx_cons, List.map_cons, forL_cons]
      have tg : tgL (.tup [.int (j : Nat), wD (w, t)]) (wipeS [4, 5, 6, 7] ⟨[some (.val false (.cell 0)), some (.val false (.lst W)), vS T, vO P, x4, x5, x6, x7], cs⟩) = some ⟨[some (.val false (.cell 0)), some (.val false (.lst W)), vS T, vO P, vI j, vS w, none, none], cs⟩ := by
        unfold tgL wD
        simp
      rw [tg, forT_some, e1, forS_nx, e2]
      have r1 : T ++ (List.replicate n 32 ++ w) ++ rnd ps 0 = T ++ rnd ((n, w, t) :: ps) 0 := by
        simp [rnd]
      have r2 : P ++ [D.int ((T.length + n : Nat) + 1)] ++ placesOf ps (T ++ (List.replicate n 32 ++ w)).length = P ++ placesOf ((n, w, t) :: ps) T.length := by
        simp [placesOf, Nat.add_assoc]
      rw [r1, r2]
    · cases prev with
      | none => exact ha
      | some p => exact ⟨fun z => hsep p rfl z, ha⟩
    · rcases List.mem_cons.mp hq with rfl | hq
      · exact hn
      · exact hn3 q hq
end K72
set_option Elab.async false
set_option linter.all false
set_option maxRecDepth 100000
set_option maxHeartbeats 2000000
namespace K72
open PySem PySem.Spec PyProof.Rows L2 Mv
theorem rnd_fb {fb : Nat} : ∀ ps : List Pc, rnd ps fb = rnd ps 0 ++ List.replicate fb 32
  | [] => by simp [rnd]
  | (n, w, t) :: ps => by
    show List.replicate n 32 ++ (w ++ rnd ps fb) = (List.replicate n 32 ++ (w ++ rnd ps 0)) ++ List.replicate fb 32
    rw [rnd_fb ps]
    simp [List.append_assoc]
theorem rnd_len {fb : Nat} : ∀ ps : List Pc, (∀ q ∈ ps, q.1 ≤ 3 ∧ q.2.1.length ≤ 9) → (rnd ps fb).length ≤ 12 * ps.length + fb
  | [], _ => by simp [rnd]
  | (n, w, t) :: ps, h => by
    have h1 := h (n, w, t) (by simp)
    have ih := rnd_len (fb := fb) ps fun q hq => h q (by simp [hq])
    simp [rnd]
    dsimp only at h1
    omega
theorem rnd_mem {fb : Nat} {c : Nat} : ∀ ps : List Pc, c ∈ rnd ps fb → c = 32 ∨ ∃ q ∈ ps, c ∈ q.2.1
  | [], h => by
    simp only [rnd] at h
    exact .inl (List.eq_of_mem_replicate h)
  | (n, w, t) :: ps, h => by
    rcases List.mem_append.mp (show c ∈ List.replicate n 32 ++ (w ++ rnd ps fb) from h) with h | h
    · exact .inl (List.eq_of_mem_replicate h)
    · rcases List.mem_append.mp h with h | h
      · exact .inr ⟨(n, w, t), by simp, h⟩
      · rcases rnd_mem ps h with h | ⟨q, hq, h⟩
        · exact .inl h
        · exact .inr ⟨q, by simp [hq], h⟩
theorem rnd_ok {fb : Nat} {ps : List Pc} (h : ∀ q ∈ ps, WOk q.2.1 q.2.2) : ok1 (rnd ps fb) ∧ 10 ∉ rnd ps fb := by
  constructor
  · unfold ok1
    rw [List.all_eq_true]
    intro c hc
    rcases rnd_mem ps hc with rfl | ⟨q, hq, hc⟩
    · decide
    · have := (h q hq).ok
      unfold ok1 at this
      exact List.all_eq_true.mp this c hc
  · intro hc
    rcases rnd_mem ps hc with h' | ⟨q, hq, hc⟩
    · cases h'
    · exact (h q hq).nl hc
theorem laid_ok {ws : List (List Nat × Tk)} {cs : List Cell} (hs : StAt cs 0) (hw : ∀ q ∈ ws, WOk q.1 q.2) (hn : ws.length ≤ 100) :
    ∃ ps fb cs', f__law_laid [.cell 0, .lst (ws.map wD)] cs = .ret (.tup [.str (tx (rnd ps fb)), .lst (placesOf ps 0 ++ [.int (((rnd ps fb).length : Nat) + 1)])]) cs' ∧ StAt cs' 0 ∧ ps.map (·.2) = ws ∧ AdjOk none ps ∧ fb ≤ 2 ∧ ∀ q ∈ ps, q.1 ≤ 3 := by
  obtain ⟨ps, cs1, e, hst, hm, ha, h3⟩ := laid_loop (W := ws.map wD) ws 0 none [] [] none none none none cs hs (by simp) hw (.inl ⟨rfl, rfl⟩) (by simp; omega) (by simp; omega)
  obtain ⟨d, c, en, g0, g1, g2⟩ := next_ok (many := 3) hst (by omega) (by omega)
  obtain ⟨m, rfl⟩ : ∃ m : Nat, d = m := ⟨d.toNat, by omega⟩
  rw [← next_eq] at en
  have hlen : (rnd ps 0).length ≤ 12 * ps.length + 0 := rnd_len ps fun q hq => ⟨h3 q hq, by
    have : q.2 ∈ ws := by rw [← hm]; exact List.mem_map_of_mem hq
    exact (hw q.2 this).len⟩
  have hps : ps.length = ws.length := by rw [← hm]; simp
  refine ⟨ps, m, cs1.set 0 c, ?_, g2, hm, ha, by omega, h3⟩
  unfold f__law_laid
  rw [fnF_at, m_laid_eq]
  have e0 : startS 8 [.cell 0, .lst (ws.map wD)] cs = ⟨[some (.val false (.cell 0)), some (.val false (.lst (ws.map wD))), none, none, none, none, none, none], cs⟩ := rfl
  rw [e0, sSeq_at, sSet_at, eC_at, bindS_ok, set1_at, seq1_nx, sSeq_at]
  simp only [List.set_cons_succ, List.set_cons_zero, sSetO_at, eLst_at, aNil_at, rl_ok, eLst1_0, bindS_ok, setO1_at, seq1_nx]
  rw [sSeq_at, nil_eq]
  simp only [sFor_at, iEnumM_at, eVar_at, List.getElem?_cons_succ, List.getElem?_cons_zero, eVar1_f, iEnum1_ok, seqD_lst, Option.map_some, iSeq2_some, for1_ok]
  have e' : forL tgL laidB [4, 5, 6, 7] (enumD (ws.map wD)) ⟨[some (.val false (.cell 0)), some (.val false (.lst (ws.map wD))), vS [], vO [], none, none, none, none], cs⟩ = _ := e
  rw [e', seq1_nx, sSeq_at]
  simp only [List.nil_append, List.length_nil]
  have ix : dIx (.lst [.str "", .str " ", .str "  "]) (.int (m : Int)) = some (.str (tx (List.replicate m 32))) := by
    rw [nil_eq, sp_eq, bl2_eq]
    have : m = 0 ∨ m = 1 ∨ m = 2 := by omega
    rcases this with rfl | rfl | rfl
    · simp
    · simp
    · simp
  rw [nil_eq] at ix
  have ad := dAdd_tx (a := rnd ps 0) (b := List.replicate m 32) (by rw [List.length_replicate]; omega)
  have hrl : (rnd ps 0 ++ List.replicate m 32).length ≤ 100000 := by rw [List.length_append, List.length_replicate]; omega
  have hpl : (placesOf ps 0).length = ps.length := by
    have : ∀ (ps : List Pc) (a : Nat), (placesOf ps a).length = ps.length := by
      intro ps
      induction ps with
      | nil => intro a; rfl
      | cons q ps ih => intro a; obtain ⟨n, w, t⟩ := q; simp [placesOf, ih]
    exact this ps 0
  have al : ∀ d, dAdd (.lst (placesOf ps 0)) (.lst [d]) = some (.lst (placesOf ps 0 ++ [d])) := fun d => by
    unfold dAdd
    dsimp only
    rw [if_pos (by rw [sizeLine_eq]; simp; omega)]
  simp only [sSet_at, eBin_at, eVarB_at, List.getElem?_cons_succ, List.getElem?_cons_zero, eVarB1_v, bind_ok, eBin1_at, eLst_at, aCons_at, eC_at, aNil_at, aCons1_ok, aCons2_ok, rl_ok, eLst1_3, eCallF_at, eVar_at, eVar1_f, eCallF1_at, en, eCallF2_ret, eBin2_at, deref_lst, deref_int, ix, lift_some, deref_str, ad, bindS_ok, set1_at, seq1_nx, List.set_cons_succ, List.set_cons_zero]
  simp only [sRet_at, eTup_at, aCons_at, eVar_at, List.getElem?_cons_succ, List.getElem?_cons_zero, eVar1_f, eBin_at, eVarB_at, eVarB1_v, bind_ok, eBin1_at, eLst_at, eUn_at, eUn1_at, deref_str, dLen_tx hrl, lift_some, eC_at, eBin2_at, deref_int, dAdd_int, aNil_at, aCons1_ok, aCons2_ok, rl_ok, eLst1_1, deref_lst, al, eTup1_2, bindS_ok, ret1_at, fin1_rt]
  rw [rnd_fb (fb := m) ps]
/-! ### what the scan gives of the pieces -/
def tokD : List Pc → Nat → List D
  | [], _ => []
  | (n, w, .good k) :: ps, a => .tup [.str k, .str (tx w), .int ((a + n : Nat) + 1)] :: tokD ps (a + n + w.length)
  | (_, _, .bad _) :: _, _ => []
def AllGood (ps : List Pc) : Prop := ∀ q ∈ ps, ∃ k, q.2.2 = .good k
theorem scan_good : ∀ (ps : List Pc) (a : Nat) (acc : List D), AllGood ps → scanR ps a acc = .ok (acc ++ tokD ps a)
  | [], a, acc, h => by simp [scanR, tokD]
  | (n, w, t) :: ps, a, acc, h => by
    obtain ⟨k, rfl⟩ : ∃ k, t = .good k := h (n, w, t) (by simp)
    unfold scanR tokD
    rw [scan_good ps _ _ fun q hq => h q (by simp [hq])]
    simp
theorem scan_bad : ∀ (g : List Pc) (n : Nat) (w : List Nat) (m : Str) (r : List Pc) (a : Nat) (acc : List D), AllGood g → ∃ p : Nat, scanR (g ++ (n, w, .bad m) :: r) a acc = .err (errW m p) ∧ (placesOf (g ++ (n, w, .bad m) :: r) a)[g.length]? = some (.int ((p : Int) + 1))
  | [], n, w, m, r, a, acc, h => ⟨a + n, rfl, rfl⟩
  | (n', w', t) :: g, n, w, m, r, a, acc, h => by
    obtain ⟨k, rfl⟩ : ∃ k, t = .good k := h (n', w', t) (by simp)
    obtain ⟨p, e1, e2⟩ := scan_bad g n w m r (a + n' + w'.length) (acc ++ [.tup [.str k, .str (tx w'), .int ((a + n' : Nat) + 1)]]) fun q hq => h q (by simp [hq])
    exact ⟨p, e1, by simpa [placesOf] using e2⟩
theorem tok_at : ∀ (ps : List Pc) (a i : Nat) (d : D), (tokD ps a)[i]? = some d → ∃ n w k p, ps[i]? = some (n, w, .good k) ∧ d = .tup [.str k, .str (tx w), .int p] ∧ (placesOf ps a)[i]? = some (.int p)
  | [], a, i, d, h => by simp [tokD] at h
  | (n, w, .good k) :: ps, a, 0, d, h => by
    simp [tokD] at h
    exact ⟨n, w, k, _, rfl, h.symm, by simp [placesOf]⟩
  | (n, w, .good k) :: ps, a, i + 1, d, h => by
    have h' : (tokD ps (a + n + w.length))[i]? = some d := by simpa [tokD] using h
    obtain ⟨n', w', k', p, e1, e2, e3⟩ := tok_at ps _ i d h'
    exact ⟨n', w', k', p, by simpa using e1, e2, by simpa [placesOf] using e3⟩
  | (n, w, .bad m) :: ps, a, i, d, h => by simp [tokD] at h
theorem tokD_len : ∀ (ps : List Pc) (a : Nat), AllGood ps → (tokD ps a).length = ps.length
  | [], _, _ => rfl
  | (n, w, t) :: ps, a, h => by
    obtain ⟨k, rfl⟩ : ∃ k, t = .good k := h (n, w, t) (by simp)
    simp [tokD, tokD_len ps _ fun q hq => h q (by simp [hq])]
theorem lcL_pairs {t : TgM} {mt me : EM} {wp : List Nat} {σ0 : S} : ∀ (L : List (D × D)) (acc : List D) (s : S), wipeS wp s = σ0 → acc.length + L.length ≤ sizeLine →
    (∀ p ∈ L, ∃ s1 s2 s3, t p.1 σ0 = some s1 ∧ mt s1 = .ok (.bl true) s2 ∧ me s2 = .ok p.2 s3 ∧ wipeS wp s3 = σ0) →
    lcL t mt me wp (L.map (·.1)) acc s = .ok (.lst (acc ++ L.map (·.2))) σ0
  | [], acc, s, hs, hl, h => by
    show lcL t mt me wp [] acc s = _
    rw [lcL_nil, hs]
    simp
  | (x, y) :: L, acc, s, hs, hl, h => by
    obtain ⟨s1, s2, s3, e1, e2, e3, e4⟩ := h (x, y) (by simp)
    rw [List.map_cons, lcL_cons, hs, e1, lcG_some, e2, lcT_t, e3, lcE_at (by simp at hl; omega), lcL_pairs L (acc ++ [y]) s3 e4 (by simp at hl ⊢; omega) (fun p hp => h p (by simp [hp]))]
    simp
end K72
set_option Elab.async false
set_option linter.all false
set_option maxRecDepth 100000
set_option maxHeartbeats 2000000
namespace K72
open PySem PySem.Spec PyProof.Rows L2 Mv
/-! ### the words -/
def numsL : List (List Nat) := [[48], [49, 50], [57, 57, 57, 57, 57, 57], [48, 48, 48, 51, 52, 53], [54, 55, 56]]
def goodsL : List (List Nat × Tk) := (EVS.map fun c => ([c], Tk.good "event")) ++ ([([105, 110], Tk.good "word")] ++ ((numsL.map fun w => (w, Tk.good "number")) ++ (SGN.map fun w => (w, Tk.good "sign"))))
theorem goods_eq : [D.str "a", .str "b", .str "c", .str "d", .str "e", .str "f", .str "in", .str "0", .str "12", .str "999999", .str "000345", .str "678", .str ":", .str ";", .str ",", .str "=", .str "-", .str ".."] = goodsL.map wD := by
  kernel_rfl
theorem nums_ok : ∀ w ∈ numsL, w ≠ [] ∧ (∀ x ∈ w, x ∈ DIG) ∧ w.length ≤ 6 ∧ 32 ∉ w ∧ 10 ∉ w ∧ w.all (· < 0x110000) = true := by decide
theorem sgn_ok2 : ∀ w ∈ SGN, 32 ∉ w ∧ 10 ∉ w ∧ w.all (· < 0x110000) = true ∧ w.length ≤ 9 := by decide
theorem evs_ok2 : ∀ c ∈ EVS, c ≠ 32 ∧ c ≠ 10 ∧ c < 0x110000 := by decide
theorem goods_ok : ∀ q ∈ goodsL, WOk q.1 q.2 ∧ ∃ k, q.2 = .good k := by
  intro q hq
  unfold goodsL at hq
  rcases List.mem_append.mp hq with h | h
  · obtain ⟨c, hc, rfl⟩ := List.mem_map.mp h
    obtain ⟨h1, h2, h3⟩ := evs_ok2 c hc
    exact ⟨⟨.event hc, by simp [Ne.symm h1], by simp [Ne.symm h2], by unfold ok1; simp [h3], by simp⟩, _, rfl⟩
  · rcases List.mem_append.mp h with h | h
    · rw [List.mem_singleton] at h
      subst h
      exact ⟨⟨.word, by decide, by decide, by unfold ok1; decide, by decide⟩, _, rfl⟩
    · rcases List.mem_append.mp h with h | h
      · obtain ⟨w, hw, rfl⟩ := List.mem_map.mp h
        obtain ⟨h1, h2, h3, h4, h5, h6⟩ := nums_ok w hw
        cases w with
        | nil => exact absurd rfl h1
        | cons c w => exact ⟨⟨.num h2 h3, h4, h5, h6, by dsimp only; omega⟩, _, rfl⟩
      · obtain ⟨w, hw, rfl⟩ := List.mem_map.mp h
        obtain ⟨h1, h2, h3, h4⟩ := sgn_ok2 w hw
        exact ⟨⟨.sign hw, h1, h2, h3, h4⟩, _, rfl⟩
def onesL : List Nat := [65, 95, 43, 9, 124, 46, 40, 35]
def bwL : List (List Nat) := [[103], [122], [97, 98], [105], [110], [105, 110, 110], [105, 110, 97], [120, 121, 122]]
def bnL : List (List Nat) := [[49, 48, 48, 48, 48, 48, 48], [48, 48, 48, 48, 48, 48, 49], [49, 50, 51, 52, 53, 54, 55, 56, 57]]
def badsL : List (List Nat × Str) := (onesL.map fun c => ([c], mOne)) ++ ((bwL.map fun w => (w, mWord)) ++ (bnL.map fun w => (w, mNum)))
def sD (q : List Nat × Str) : D := .tup [.str (tx q.1), .str q.2]
theorem ones_ok : ∀ c ∈ onesL, c ∉ LOW ∧ c ∉ DIG ∧ (∀ s ∈ SGN, s.head? = some c → s = [46, 46]) ∧ c ≠ 32 ∧ c ≠ 10 ∧ c < 0x110000 := by decide
theorem bw_ok : ∀ w ∈ bwL, w ≠ [] ∧ (∀ x ∈ w, x ∈ LOW) ∧ w ≠ [105, 110] ∧ (w.tail ≠ [] ∨ ∀ c, w.head? = some c → c ∉ EVS) ∧ 32 ∉ w ∧ 10 ∉ w ∧ w.all (· < 0x110000) = true ∧ w.length ≤ 9 := by
  intro w hw
  simp only [bwL, List.mem_cons, List.mem_nil_iff, or_false] at hw
  rcases hw with rfl | rfl | rfl | rfl | rfl | rfl | rfl | rfl
  · exact ⟨by decide, by decide, by decide, .inr (fun c h => by cases h; decide), by decide, by decide, by decide, by decide⟩
  · exact ⟨by decide, by decide, by decide, .inr (fun c h => by cases h; decide), by decide, by decide, by decide, by decide⟩
  · exact ⟨by decide, by decide, by decide, .inl (by decide), by decide, by decide, by decide, by decide⟩
  · exact ⟨by decide, by decide, by decide, .inr (fun c h => by cases h; decide), by decide, by decide, by decide, by decide⟩
  · exact ⟨by decide, by decide, by decide, .inr (fun c h => by cases h; decide), by decide, by decide, by decide, by decide⟩
  · exact ⟨by decide, by decide, by decide, .inl (by decide), by decide, by decide, by decide, by decide⟩
  · exact ⟨by decide, by decide, by decide, .inl (by decide), by decide, by decide, by decide, by decide⟩
  · exact ⟨by decide, by decide, by decide, .inl (by decide), by decide, by decide, by decide, by decide⟩
theorem bn_ok : ∀ w ∈ bnL, w ≠ [] ∧ (∀ x ∈ w, x ∈ DIG) ∧ 6 < w.length ∧ 32 ∉ w ∧ 10 ∉ w ∧ w.all (· < 0x110000) = true ∧ w.length ≤ 9 := by decide
theorem bads_ok : ∀ q ∈ badsL, WOk q.1 (.bad q.2) ∧ PyData.strOk q.2 = true := by
  intro q hq
  unfold badsL at hq
  rcases List.mem_append.mp hq with h | h
  · obtain ⟨c, hc, rfl⟩ := List.mem_map.mp h
    obtain ⟨h1, h2, h3, h4, h5, h6⟩ := ones_ok c hc
    exact ⟨⟨.one h1 h2 h3, by simp [Ne.symm h4], by simp [Ne.symm h5], by unfold ok1; simp [h6], by simp⟩, show PyData.strOk mOne = true by decide +kernel⟩
  · rcases List.mem_append.mp h with h | h
    · obtain ⟨w, hw, rfl⟩ := List.mem_map.mp h
      obtain ⟨h1, h2, h3, h4, h5, h6, h7, h8⟩ := bw_ok w hw
      cases w with
      | nil => exact absurd rfl h1
      | cons c w => exact ⟨⟨.nword h2 h3 (h4.imp (fun z => z) (fun z => z c rfl)), h5, h6, h7, h8⟩, show PyData.strOk mWord = true by decide +kernel⟩
    · obtain ⟨w, hw, rfl⟩ := List.mem_map.mp h
      obtain ⟨h1, h2, h3, h5, h6, h7, h8⟩ := bn_ok w hw
      cases w with
      | nil => exact absurd rfl h1
      | cons c w => exact ⟨⟨.nnum h2 h3, h5, h6, h7, h8⟩, show PyData.strOk mNum = true by decide +kernel⟩
/-! ### the parts of the law -/
def lLoopB : SM := (sExpr (eMut 2 lAppend (aCons (eCallF f__law_pick (aCons (eVar 1) (aCons (eLst (aCons (eC (.str "a")) (aCons (eC (.str "b")) (aCons (eC (.str "c")) (aCons (eC (.str "d")) (aCons (eC (.str "e")) (aCons (eC (.str "f")) (aCons (eC (.str "in")) (aCons (eC (.str "0")) (aCons (eC (.str "12")) (aCons (eC (.str "999999")) (aCons (eC (.str "000345")) (aCons (eC (.str "678")) (aCons (eC (.str ":")) (aCons (eC (.str ";")) (aCons (eC (.str ",")) (aCons (eC (.str "=")) (aCons (eC (.str "-")) (aCons (eC (.str "..")) aNil))))))))))))))))))) aNil))) aNil)))
def lLoop : SM := (sFor (iRng1 (eCallF f__law_next (aCons (eVar 1) (aCons (eC (.int 21)) aNil)))) (gNm 3) lLoopB [3])
def lSt1 : SM := (sSetO 5 (eBin dCat (eLc (iSeq (eLst (aCons (eC (.str "A")) (aCons (eC (.str "_")) (aCons (eC (.str "+")) (aCons (eC (.str "\t")) (aCons (eC (.str "|")) (aCons (eC (.str ".")) (aCons (eC (.str "(")) (aCons (eC (.str "#")) aNil)))))))))) (gNm 14) eYes (eTup (aCons (eVar 14) (aCons (eC (.str "no token begins here")) aNil))) [14]) (eLc (iSeq (eLst (aCons (eC (.str "g")) (aCons (eC (.str "z")) (aCons (eC (.str "ab")) (aCons (eC (.str "i")) (aCons (eC (.str "n")) (aCons (eC (.str "inn")) (aCons (eC (.str "ina")) (aCons (eC (.str "xyz")) aNil)))))))))) (gNm 7) eYes (eTup (aCons (eVar 7) (aCons (eC (.str "there is no such word")) aNil))) [7])))
def lSt2 : SM := (sSetO 5 (eBin dCat (eVarB 5) (eLc (iSeq (eLst (aCons (eC (.str "1000000")) (aCons (eC (.str "0000001")) (aCons (eC (.str "123456789")) aNil))))) (gNm 15) eYes (eTup (aCons (eVar 15) (aCons (eC (.str "a number has at most 6 digits")) aNil))) [15])))
def lBad : SM := (sSeq lSt1 (sSeq lSt2
  (sSeq (sSet 6 (eCallF f__law_next (aCons (eVar 1) (aCons (eBin dAdd (eUn dLen (eVarB 2)) (eC (.int 1))) aNil))))
  (sSeq (sAsg (eCallF f__law_pick (aCons (eVar 1) (aCons (eVar 5) aNil))) (gTp 2 (gsCons (gNm 7) (gsCons (gNm 4) gsNil))))
  (sSeq (sSetO 2 (eBin dCat (eBin dAdd (eSl dSl (eVarB 2) pNone (pSome (eVarB 6))) (eLst (aCons (eVar 7) aNil))) (eSl dSl (eVarB 2) (pSome (eVarB 6)) pNone)))
  (sIf (eBin dEq (eCallF f__law_next (aCons (eVar 1) (aCons (eC (.int 2)) aNil))) (eC (.int 1))) (sExpr (eMut 2 lAppend (aCons (eBin dIx (eCallF f__law_pick (aCons (eVar 1) (aCons (eVar 5) aNil))) (eC (.int 0))) aNil))) sNil))))))
def lAsg : SM := (sAsg (eCallF f__law_laid (aCons (eVar 1) (aCons (eVar 2) aNil))) (gTp 2 (gsCons (gNm 8) (gsCons (gNm 9) gsNil))))
def lProb : SM := (sIf (eBin dNotN (eVarB 4) (eC .non)) (sRet (eCallF (f__law_equal 8) (aCons (eCallF f__law_told (aCons (eVar 8) aNil)) (aCons (eTup (aCons (eBin dIx (eVarB 9) (eVarB 6)) (aCons (eVar 4) aNil))) aNil)))) sNil)
def lDueC : EM := (eLc (iEnumM (eVarB 2)) (gTp 2 (gsCons (gNm 13) (gsCons (gNm 7) gsNil))) eYes (eTup (aCons (eCallF f__law_kind (aCons (eVar 7) aNil)) (aCons (eVar 7) (aCons (eBin dIx (eVarB 9) (eVarB 13)) aNil)))) [13, 7])
def lDue : SM := (sSetO 10 (eBin dCat lDueC (eLst (aCons (eTup (aCons (eC (.str "end")) (aCons (eC (.str "")) (aCons (eBin dIx (eVarB 9) (eUn dNeg (eC (.int 1)))) aNil)))) aNil))))
def lCmp : SM := (sIf (eNot (eCallF (f__law_equal 8) (aCons (eLst (aCons (eCallF f__law_told (aCons (eVar 8) aNil)) (aCons (eCallF f__law_told (aCons (eVar 8) aNil)) aNil))) (aCons (eLst (aCons (eVar 10) (aCons (eVar 10) aNil))) aNil)))) (sRet (eC (.bl false))) sNil)
def lBlank : SM := (sSet 11 (eBin dMul (eC (.str " ")) (eBin dSub (eC (.int 600)) (eUn dLen (eVarB 8)))))
def lPick : SM := (sSet 12 (eCallF f__law_pick (aCons (eVar 1) (aCons (eLst (aCons (eC .non) (aCons (eLst (aCons (eVar 8) aNil)) (aCons (eBin dAdd (eVarB 8) (eC (.str "\n"))) (aCons (eC (.str "\n")) (aCons (eBin dAdd (eBin dAdd (eVarB 11) (eVarB 8)) (eC (.str " "))) (aCons (eC (.int 7)) aNil))))))) aNil))))
def lFin : SM := (sRet (eAnd (eBin dEq (eCallF f__law_told (aCons (eVar 12) aNil)) (eC (.str "text"))) (eUn (dIs .list) (eCallF f__law_told (aCons (eBin dAdd (eVarB 11) (eVarB 8)) aNil)))))
def lTail : SM := (sSeq lAsg (sSeq lProb (sSeq lDue (sSeq lCmp (sSeq lBlank (sSeq lPick lFin))))))
theorem m_law_eq : m_law = sSeq (sSet 1 (eCallF f__law_stream (aCons (eVar 0) aNil))) (sSeq (sSetO 2 (eLst aNil)) (sSeq lLoop (sSeq (sSet 4 (eC .non)) (sSeq (sIf (eBin dEq (eCallF f__law_next (aCons (eVar 1) (aCons (eC (.int 2)) aNil))) (eC (.int 1))) lBad sNil) lTail)))) := rfl
abbrev c0 : Option SV := some (.val false (.cell 0))
theorem eLst1_18 {s : S} : eLst1 (goodsL.map wD) s = .ok (.lst (goodsL.map wD)) s := eLst1_at (sizeN _ (by decide))
theorem loop_body {acc : List D} {x0 x3 : Option SV} {r : List (Option SV)} {cs : List Cell} (hs : StAt cs 0) (ha : acc.length ≤ 1000) :
    ∃ q cs', lLoopB ⟨x0 :: c0 :: vO acc :: x3 :: r, cs⟩ = .nx ⟨x0 :: c0 :: vO (acc ++ [wD q]) :: x3 :: r, cs'⟩ ∧ StAt cs' 0 ∧ q ∈ goodsL := by
  obtain ⟨d, c, e, hd, hst⟩ := pick_ok (ds := goodsL.map wD) hs (by decide) (by decide)
  obtain ⟨q, hq, rfl⟩ := List.mem_map.mp hd
  refine ⟨q, cs.set 0 c, ?_, hst, hq⟩
  unfold lLoopB
  have hap : ∀ d, lAppend acc [d] = some (.non, acc ++ [d]) := fun d => lAppend_at (by rw [sizeLine_eq]; omega)
  simp only [sExpr_at, eMut_at, List.getElem?_cons_succ, List.getElem?_cons_zero, eMut1_at, aCons_at, eCallF_at, eVar_at, eVar1_f, eLst_at, eC_at, aNil_at, aCons1_ok, aCons2_ok, rl_ok, goods_eq, eLst1_18, eCallF1_at, e, eCallF2_ret, eMutA_at, eMut2_at, hap, eMut3_at, bindS_ok, drop1_at, List.set_cons_succ, List.set_cons_zero]
theorem loop_run {x0 : Option SV} {r : List (Option SV)} : ∀ (ds : List D) (acc : List D) (x3 : Option SV) (cs : List Cell), StAt cs 0 → acc.length + ds.length ≤ 1000 →
    ∃ (ws : List (List Nat × Tk)) (cs' : List Cell), forL (gNm 3) lLoopB [3] ds ⟨x0 :: c0 :: vO acc :: x3 :: r, cs⟩ = .nx ⟨x0 :: c0 :: vO (acc ++ ws.map wD) :: none :: r, cs'⟩ ∧ StAt cs' 0 ∧ ws.length = ds.length ∧ ∀ q ∈ ws, q ∈ goodsL
  | [], acc, x3, cs, hs, hl => ⟨[], cs, by simp [forL_nil], hs, rfl, fun q hq => by simp at hq⟩
  | d :: ds, acc, x3, cs, hs, hl => by
    simp only [List.length_cons] at hl
    obtain ⟨q, cs1, e1, h1, hq⟩ := loop_body (acc := acc) (x0 := x0) (x3 := some (.val false d)) (r := r) hs (by omega)
    obtain ⟨ws, cs2, e2, h2, h3, h4⟩ := loop_run (x0 := x0) (r := r) ds (acc ++ [wD q]) (some (.val false d)) cs1 h1 (by simp; omega)
    refine ⟨q :: ws, cs2, ?_, h2, by simp [h3], fun p hp => ?_⟩
    · rw [forL_cons]
      simp only [wipeS_cons, wipeS_nil, gNm_at, forT_some, List.set_cons_succ, List.set_cons_zero]
      rw [e1, forS_nx, e2]
      simp
    · rcases List.mem_cons.mp hp with rfl | hp
      · exact hq
      · exact h4 p hp
end K72
set_option Elab.async false
set_option linter.all false
set_option maxRecDepth 100000
set_option maxHeartbeats 2000000
namespace K72
open PySem PySem.Spec PyProof.Rows L2 Mv
def g1L : List D := onesL.map fun c => .str (tx [c])
def g2L : List D := bwL.map fun w => .str (tx w)
def g3L : List D := bnL.map fun w => .str (tx w)
theorem g1_eq : [D.str "A", .str "_", .str "+", .str "\t", .str "|", .str ".", .str "(", .str "#"] = g1L := by kernel_rfl
theorem g2_eq : [D.str "g", .str "z", .str "ab", .str "i", .str "n", .str "inn", .str "ina", .str "xyz"] = g2L := by kernel_rfl
theorem g3_eq : [D.str "1000000", .str "0000001", .str "123456789"] = g3L := by kernel_rfl
theorem bads_eq : (g1L.map fun d => D.tup [d, .str "no token begins here"]) ++ (g2L.map fun d => D.tup [d, .str "there is no such word"]) ++ (g3L.map fun d => D.tup [d, .str "a number has at most 6 digits"]) = badsL.map sD := by
  unfold g1L g2L g3L badsL sD
  simp [mOne, mWord, mNum]
  rfl
theorem eLst_g1 {s : S} : eLst1 g1L s = .ok (.lst g1L) s := eLst1_at (sizeN _ (by decide))
theorem eLst_g2 {s : S} : eLst1 g2L s = .ok (.lst g2L) s := eLst1_at (sizeN _ (by decide))
theorem eLst_g3 {s : S} : eLst1 g3L s = .ok (.lst g3L) s := eLst1_at (sizeN _ (by decide))
theorem dCat_at {xs ys : List D} (h : xs.length + ys.length ≤ 100000) : dCat (.lst xs) (.lst ys) = some (.lst (xs ++ ys)) := if_pos (len_le h)
theorem dAddL_at {xs ys : List D} (h : xs.length + ys.length ≤ 100000) : dAdd (.lst xs) (.lst ys) = some (.lst (xs ++ ys)) := if_pos (len_le h)
abbrev σB (x0 : Option SV) (W : List D) (x4 x5 x6 x7 : Option SV) (cs : List Cell) : S := ⟨[x0, c0, vO W, none, x4, x5, x6, x7, none, none, none, none, none, none, none, none], cs⟩
theorem st1_ok {x0 x4 : Option SV} {W : List D} {cs : List Cell} : lSt1 (σB x0 W x4 none none none cs) = .nx (σB x0 W x4 (vO ((g1L.map fun d => D.tup [d, .str "no token begins here"]) ++ (g2L.map fun d => D.tup [d, .str "there is no such word"]))) none none cs) := by
  unfold lSt1
  have l1 : lcL (gNm 14) eYes (eTup (aCons (eVar 14) (aCons (eC (.str "no token begins here")) aNil))) [14] g1L [] (σB x0 W x4 none none none cs) = .ok (.lst ([] ++ g1L.map fun d => D.tup [d, .str "no token begins here"])) (σB x0 W x4 none none none cs) :=
    lcL_map g1L [] _ rfl (by decide) fun d hd => ⟨⟨[x0, c0, vO W, none, x4, none, none, none, none, none, none, none, none, none, some (.val false d), none], cs⟩, ⟨[x0, c0, vO W, none, x4, none, none, none, none, none, none, none, none, none, some (.val false d), none], cs⟩, ⟨[x0, c0, vO W, none, x4, none, none, none, none, none, none, none, none, none, some (.val false d), none], cs⟩, rfl, rfl, by simp, rfl⟩
  have l2 : lcL (gNm 7) eYes (eTup (aCons (eVar 7) (aCons (eC (.str "there is no such word")) aNil))) [7] g2L [] (σB x0 W x4 none none none cs) = .ok (.lst ([] ++ g2L.map fun d => D.tup [d, .str "there is no such word"])) (σB x0 W x4 none none none cs) :=
    lcL_map g2L [] _ rfl (by decide) fun d hd => ⟨⟨[x0, c0, vO W, none, x4, none, none, some (.val false d), none, none, none, none, none, none, none, none], cs⟩, ⟨[x0, c0, vO W, none, x4, none, none, some (.val false d), none, none, none, none, none, none, none, none], cs⟩, ⟨[x0, c0, vO W, none, x4, none, none, some (.val false d), none, none, none, none, none, none, none, none], cs⟩, rfl, rfl, by simp, rfl⟩
  have hc := dCat_at (xs := g1L.map fun d => D.tup [d, .str "no token begins here"]) (ys := g2L.map fun d => D.tup [d, .str "there is no such word"]) (by decide)
  simp only [List.nil_append] at l1 l2
  simp only [sSetO_at, eBin_at, eLc_at, iSeq_at, eLst_at, aCons_at, eC_at, aNil_at, aCons1_ok, aCons2_ok, rl_ok, g1_eq, g2_eq, eLst_g1, eLst_g2, iSeq1_ok, seqD_lst, iSeq2_some, lc1_ok, l1, bind_ok, eBin1_at, l2, eBin2_at, deref_lst, hc, lift_some, bindS_ok, setO1_at]
  rfl
theorem st2_ok {x0 x4 : Option SV} {W : List D} {cs : List Cell} : lSt2 (σB x0 W x4 (vO ((g1L.map fun d => D.tup [d, .str "no token begins here"]) ++ (g2L.map fun d => D.tup [d, .str "there is no such word"]))) none none cs) = .nx (σB x0 W x4 (vO (badsL.map sD)) none none cs) := by
  unfold lSt2
  rw [← bads_eq]
  generalize hX : ((g1L.map fun d => D.tup [d, .str "no token begins here"]) ++ (g2L.map fun d => D.tup [d, .str "there is no such word"])) = X
  have hXl : X.length = 16 := by rw [← hX]; decide
  have l1 : lcL (gNm 15) eYes (eTup (aCons (eVar 15) (aCons (eC (.str "a number has at most 6 digits")) aNil))) [15] g3L [] (σB x0 W x4 (vO X) none none cs) = .ok (.lst ([] ++ g3L.map fun d => D.tup [d, .str "a number has at most 6 digits"])) (σB x0 W x4 (vO X) none none cs) :=
    lcL_map g3L [] _ rfl (by decide) fun d hd => ⟨⟨[x0, c0, vO W, none, x4, vO X, none, none, none, none, none, none, none, none, none, some (.val false d)], cs⟩, ⟨[x0, c0, vO W, none, x4, vO X, none, none, none, none, none, none, none, none, none, some (.val false d)], cs⟩, ⟨[x0, c0, vO W, none, x4, vO X, none, none, none, none, none, none, none, none, none, some (.val false d)], cs⟩, rfl, rfl, by simp, rfl⟩
  have hc := dCat_at (xs := X) (ys := g3L.map fun d => D.tup [d, .str "a number has at most 6 digits"]) (by rw [hXl]; decide)
  simp only [List.nil_append] at l1
  simp only [sSetO_at, eBin_at, eVarB_at, List.getElem?_cons_succ, List.getElem?_cons_zero, eVarB1_v, bind_ok, eBin1_at, eLc_at, iSeq_at, eLst_at, aCons_at, eC_at, aNil_at, aCons1_ok, aCons2_ok, rl_ok, g3_eq, eLst_g3, iSeq1_ok, seqD_lst, iSeq2_some, lc1_ok, l1, eBin2_at, deref_lst, hc, lift_some, bindS_ok, setO1_at]
  rfl
theorem cutL_take {ds : List D} {a : Nat} (h : a ≤ ds.length) : cutL ds none (some (a : Int)) = ds.take a := by
  unfold cutL
  rw [HT.sIx_none, HT.sIx_nat, Nat.min_eq_left h]
  simp
theorem cutL_drop {ds : List D} {a : Nat} (h : a ≤ ds.length) : cutL ds (some (a : Int)) none = ds.drop a := by
  unfold cutL
  rw [HT.sIx_none, HT.sIx_nat, Nat.min_eq_left h]
  rw [List.take_of_length_le (by simp)]
theorem bad_ok {x0 : Option SV} {ws : List (List Nat × Tk)} {cs : List Cell} (hs : StAt cs 0) (hl : ws.length ≤ 30) :
    ∃ (a : Nat) (q : List Nat × Str) (ex : List (List Nat × Tk)) (y5 y7 : Option SV) (cs' : List Cell), lBad (σB x0 (ws.map wD) (some (.val false .non)) none none none cs) =
      .nx (σB x0 ((ws.take a ++ ((q.1, Tk.bad q.2) :: (ws.drop a ++ ex))).map wD) (some (.val false (.str q.2))) y5 (vI a) y7 cs') ∧ StAt cs' 0 ∧ a ≤ ws.length ∧ q ∈ badsL ∧ ex.length ≤ 1 ∧ ∀ p ∈ ex, WOk p.1 p.2 := by
  obtain ⟨d1, k1, e1, g0, g1, h1⟩ := next_ok (many := ((ws.map wD).length : Int) + 1) hs (by omega) (by simp; omega)
  obtain ⟨a, rfl⟩ : ∃ m : Nat, d1 = m := ⟨d1.toNat, by omega⟩
  have ha : a ≤ ws.length := by simp at g1; omega
  obtain ⟨d2, k2, e2, hd2, h2⟩ := pick_ok (ds := badsL.map sD) h1 (by decide) (by decide)
  obtain ⟨q, hq, rfl⟩ := List.mem_map.mp hd2
  obtain ⟨d3, k3, e3, g3, g4, h3⟩ := next_ok (many := 2) h2 (by omega) (by omega)
  obtain ⟨d4, k4, e4, hd4, h4⟩ := pick_ok (ds := badsL.map sD) h3 (by decide) (by decide)
  obtain ⟨q2, hq2, rfl⟩ := List.mem_map.mp hd4
  rw [← next_eq] at e1 e3
  unfold lBad
  rw [sSeq_at, st1_ok, seq1_nx, sSeq_at, st2_ok, seq1_nx, sSeq_at]
  have s3 : (sSet 6 (eCallF f__law_next (aCons (eVar 1) (aCons (eBin dAdd (eUn dLen (eVarB 2)) (eC (.int 1))) aNil)))) (σB x0 (ws.map wD) (some (.val false .non)) (vO (badsL.map sD)) none none cs) = .nx (σB x0 (ws.map wD) (some (.val false .non)) (vO (badsL.map sD)) (vI a) none (cs.set 0 k1)) := by
    simp only [sSet_at, eCallF_at, aCons_at, eVar_at, List.getElem?_cons_succ, List.getElem?_cons_zero, eVar1_f, eBin_at, eUn_at, eVarB_at, eVarB1_v, bind_ok, eUn1_at, deref_lst, dLen_lst, lift_some, eBin1_at, eC_at, eBin2_at, deref_int, dAdd_int, aNil_at, aCons1_ok, aCons2_ok, rl_ok, eCallF1_at, e1, eCallF2_ret, bindS_ok, set1_at, List.set_cons_succ, List.set_cons_zero]
  rw [s3, seq1_nx, sSeq_at]
  have s4 : (sAsg (eCallF f__law_pick (aCons (eVar 1) (aCons (eVar 5) aNil))) (gTp 2 (gsCons (gNm 7) (gsCons (gNm 4) gsNil)))) (σB x0 (ws.map wD) (some (.val false .non)) (vO (badsL.map sD)) (vI a) none (cs.set 0 k1)) =
      .nx (σB x0 (ws.map wD) (some (.val false (.str q.2))) (some (.val false (.lst (badsL.map sD)))) (vI a) (some (.val false (.str (tx q.1)))) ((cs.set 0 k1).set 0 k2)) := by
    simp only [sAsg_at, eCallF_at, aCons_at, eVar_at, List.getElem?_cons_succ, List.getElem?_cons_zero, eVar1_f, eVar1_t, aNil_at, aCons1_ok, aCons2_ok, rl_ok, eCallF1_at, List.set_cons_succ, List.set_cons_zero, e2, eCallF2_ret, bindS_ok, asg1_at, sD, gTp_2, gsCons_at, gNm_at, Option.bind_some, gsNil_at, asg2_some]
  rw [s4, seq1_nx, sSeq_at]
  have hmt : ((ws.map wD).take a) = (ws.take a).map wD := by simp [List.map_take]
  have hmd : ((ws.map wD).drop a) = (ws.drop a).map wD := by simp [List.map_drop]
  have s5 : (sSetO 2 (eBin dCat (eBin dAdd (eSl dSl (eVarB 2) pNone (pSome (eVarB 6))) (eLst (aCons (eVar 7) aNil))) (eSl dSl (eVarB 2) (pSome (eVarB 6)) pNone))) (σB x0 (ws.map wD) (some (.val false (.str q.2))) (some (.val false (.lst (badsL.map sD)))) (vI a) (some (.val false (.str (tx q.1)))) ((cs.set 0 k1).set 0 k2)) =
      .nx (σB x0 ((ws.take a ++ ((q.1, Tk.bad q.2) :: ws.drop a)).map wD) (some (.val false (.str q.2))) (some (.val false (.lst (badsL.map sD)))) (vI a) (some (.val false (.str (tx q.1)))) ((cs.set 0 k1).set 0 k2)) := by
    have k1 : dSl (.lst (ws.map wD)) none (some (a : Int)) = some (.lst ((ws.take a).map wD)) := by
      show some (D.lst (cutL _ _ _)) = _
      rw [cutL_take (by simpa using ha), hmt]
    have k2 : dSl (.lst (ws.map wD)) (some (a : Int)) none = some (.lst ((ws.drop a).map wD)) := by
      show some (D.lst (cutL _ _ _)) = _
      rw [cutL_drop (by simpa using ha), hmd]
    have k3 : dAdd (.lst ((ws.take a).map wD)) (.lst [.str (tx q.1)]) = some (.lst ((ws.take a).map wD ++ [.str (tx q.1)])) := dAddL_at (by simp; omega)
    have k4 : dCat (.lst ((ws.take a).map wD ++ [.str (tx q.1)])) (.lst ((ws.drop a).map wD)) = some (.lst (((ws.take a).map wD ++ [.str (tx q.1)]) ++ (ws.drop a).map wD)) := dCat_at (by simp; omega)
    have k5 : ((ws.take a).map wD ++ [D.str (tx q.1)]) ++ (ws.drop a).map wD = (ws.take a ++ ((q.1, Tk.bad q.2) :: ws.drop a)).map wD := by simp [wD]
    simp only [sSetO_at, eBin_at, eSl_at, eVarB_at, List.getElem?_cons_succ, List.getElem?_cons_zero, eVarB1_v, bind_ok, eSl1_at, pNone_at, rp_ok, eSl2_at, pSome_at, pSome1_at, eSl3_at, deref_lst, k1, lift_some, eBin1_at, eLst_at, aCons_at, eVar_at, eVar1_f, aNil_at, aCons1_ok, aCons2_ok, rl_ok, eLst1_1, eBin2_at, k3, k2, k4, k5, bindS_ok, setO1_at, List.set_cons_succ, List.set_cons_zero]
  rw [s5, seq1_nx, sIf_at]
  have c1 : (eBin dEq (eCallF f__law_next (aCons (eVar 1) (aCons (eC (.int 2)) aNil))) (eC (.int 1))) (σB x0 ((ws.take a ++ ((q.1, Tk.bad q.2) :: ws.drop a)).map wD) (some (.val false (.str q.2))) (some (.val false (.lst (badsL.map sD)))) (vI a) (some (.val false (.str (tx q.1)))) ((cs.set 0 k1).set 0 k2)) =
      .ok (.bl (decide (d3 = 1))) (σB x0 ((ws.take a ++ ((q.1, Tk.bad q.2) :: ws.drop a)).map wD) (some (.val false (.str q.2))) (some (.val false (.lst (badsL.map sD)))) (vI a) (some (.val false (.str (tx q.1)))) (((cs.set 0 k1).set 0 k2).set 0 k3)) := by
    simp only [eBin_at, eCallF_at, aCons_at, eVar_at, List.getElem?_cons_succ, List.getElem?_cons_zero, eVar1_f, eC_at, aNil_at, aCons1_ok, aCons2_ok, rl_ok, eCallF1_at, e3, eCallF2_ret, bind_ok, eBin1_at, eBin2_at, deref_int, dEq_int, lift_some]
  rw [c1, bindS_ok]
  by_cases hd : d3 = 1
  · rw [decide_eq_true hd, sIf1_t]
    refine ⟨a, q, [(q2.1, Tk.bad q2.2)], some (.val false (.lst (badsL.map sD))), some (.val false (.str (tx q.1))), (((cs.set 0 k1).set 0 k2).set 0 k3).set 0 k4, ?_, h4, ha, hq, by simp, fun p hp => ?_⟩
    · have hap : ∀ d, lAppend ((ws.take a ++ ((q.1, Tk.bad q.2) :: ws.drop a)).map wD) [d] = some (.non, (ws.take a ++ ((q.1, Tk.bad q.2) :: ws.drop a)).map wD ++ [d]) := fun d => lAppend_at (by rw [sizeLine_eq]; simp; omega)
      have k5 : (ws.take a ++ ((q.1, Tk.bad q.2) :: ws.drop a)).map wD ++ [D.str (tx q2.1)] = (ws.take a ++ ((q.1, Tk.bad q.2) :: (ws.drop a ++ [(q2.1, Tk.bad q2.2)]))).map wD := by simp [wD]
      simp only [sExpr_at, eMut_at, List.getElem?_cons_succ, List.getElem?_cons_zero, eMut1_at, aCons_at, eBin_at, eCallF_at, eVar_at, eVar1_f, aNil_at, aCons1_ok, aCons2_ok, rl_ok, eCallF1_at, e4, eCallF2_ret, bind_ok, eBin1_at, eC_at, eBin2_at, sD, deref_tup, deref_int, dIx_tup, atI_0, lift_some, eMutA_at, eMut2_at, hap, eMut3_at, bindS_ok, drop1_at, k5, List.set_cons_succ, List.set_cons_zero]
    · rw [List.mem_singleton] at hp
      subst hp
      exact (bads_ok q2 hq2).1
  · rw [decide_eq_false hd, sIf1_f, sNil_at]
    exact ⟨a, q, [], some (.val false (.lst (badsL.map sD))), some (.val false (.str (tx q.1))), ((cs.set 0 k1).set 0 k2).set 0 k3, by rw [List.append_nil], h3, ha, hq, by simp, fun p hp => by simp at hp⟩
end K72
set_option Elab.async false
set_option linter.all false
set_option maxRecDepth 100000
set_option maxHeartbeats 2000000
namespace K72
open PySem PySem.Spec PyProof.Rows L2 Mv
theorem goods_wok {ws : List (List Nat × Tk)} (h : ∀ q ∈ ws, q ∈ goodsL) : ∀ q ∈ ws, WOk q.1 q.2 := fun q hq => (goods_ok q (h q hq)).1
abbrev σT (x0 x2 x4 x5 x6 x7 x8 x9 x10 x11 x12 : Option SV) (cs : List Cell) : S := ⟨[x0, c0, x2, none, x4, x5, x6, x7, x8, x9, x10, x11, x12, none, none, none], cs⟩
/-- the text, laid -/
theorem asg_ok {x0 x4 x5 x6 x7 : Option SV} {ws : List (List Nat × Tk)} {cs : List Cell} (hs : StAt cs 0) (hw : ∀ q ∈ ws, WOk q.1 q.2) (hn : ws.length ≤ 40) :
    ∃ ps fb cs', lAsg (σB x0 (ws.map wD) x4 x5 x6 x7 cs) = .nx (σT x0 (some (.val false (.lst (ws.map wD)))) x4 x5 x6 x7 (vS (rnd ps fb)) (some (.val false (.lst (placesOf ps 0 ++ [.int (((rnd ps fb).length : Nat) + 1)])))) none none none cs') ∧ StAt cs' 0 ∧ ps.map (·.2) = ws ∧ AdjOk none ps ∧ (rnd ps fb).length ≤ 600 ∧ ps.length ≤ 1000 ∧ (∀ q ∈ ps, WOk q.2.1 q.2.2) := by
  obtain ⟨ps, fb, cs', e, h1, h2, h3, h4, h5⟩ := laid_ok hs hw (by omega)
  have hps : ps.length = ws.length := by rw [← h2]; simp
  have hwp : ∀ q ∈ ps, WOk q.2.1 q.2.2 := fun q hq => hw q.2 (by rw [← h2]; exact List.mem_map_of_mem hq)
  have hl : (rnd ps fb).length ≤ 12 * ps.length + fb := rnd_len ps fun q hq => ⟨h5 q hq, (hwp q hq).len⟩
  refine ⟨ps, fb, cs', ?_, h1, h2, h3, by omega, by omega, hwp⟩
  unfold lAsg
  simp only [sAsg_at, eCallF_at, aCons_at, eVar_at, List.getElem?_cons_succ, List.getElem?_cons_zero, eVar1_f, eVar1_t, aNil_at, aCons1_ok, aCons2_ok, rl_ok, eCallF1_at, e, eCallF2_ret, bindS_ok, asg1_at, gTp_2, gsCons_at, gNm_at, Option.bind_some, gsNil_at, asg2_some, List.set_cons_succ, List.set_cons_zero]
theorem told_ps {ps : List Pc} {fb : Nat} {cs : List Cell} (ha : AdjOk none ps) (hl : (rnd ps fb).length ≤ 600) (hp : ps.length ≤ 1000) (hw : ∀ q ∈ ps, WOk q.2.1 q.2.2) : f__law_told [.str (tx (rnd ps fb))] cs = toldF cs (rnd ps fb).length (scanR ps 0 []) :=
  told_ok hl (rnd_ok hw).1 (rnd_ok hw).2 rfl (psOk_of ps none ha hw) hp
theorem split_at {ps : List Pc} {pre suf : List (List Nat × Tk)} {x : List Nat × Tk} (h : ps.map (·.2) = pre ++ x :: suf) : ∃ g n r, ps = g ++ (n, x.1, x.2) :: r ∧ g.map (·.2) = pre := by
  obtain ⟨a, b, rfl, h1, h2⟩ := List.map_eq_append_iff.mp h
  cases b with
  | nil => simp at h2
  | cons y b =>
    simp at h2
    obtain ⟨n, z⟩ := y
    refine ⟨a, n, b, ?_, h1⟩
    rw [← h2.1]
/-- with a spoilt word -/
theorem tail_bad {x0 y5 y7 : Option SV} {pre suf : List (List Nat × Tk)} {q : List Nat × Str} {cs : List Cell} (hs : StAt cs 0) (hpre : ∀ p ∈ pre, p ∈ goodsL) (hsuf : ∀ p ∈ suf, WOk p.1 p.2) (hq : q ∈ badsL) (hn : (pre ++ (q.1, Tk.bad q.2) :: suf).length ≤ 40) :
    ∃ s', lTail (σB x0 ((pre ++ (q.1, Tk.bad q.2) :: suf).map wD) (some (.val false (.str q.2))) y5 (vI pre.length) y7 cs) = .rt (.bl true) s' := by
  have hq1 := bads_ok q hq
  have hw : ∀ p ∈ pre ++ (q.1, Tk.bad q.2) :: suf, WOk p.1 p.2 := fun p hp => by
    rcases List.mem_append.mp hp with h | h
    · exact (goods_ok p (hpre p h)).1
    · rcases List.mem_cons.mp h with rfl | h
      · exact hq1.1
      · exact hsuf p h
  obtain ⟨ps, fb, cs', e, h1, h2, h3, h4, h5, h6⟩ := asg_ok (x0 := x0) (x4 := some (.val false (.str q.2))) (x5 := y5) (x6 := vI pre.length) (x7 := y7) hs hw hn
  obtain ⟨g, n, r, rfl, hg⟩ := split_at h2
  have hgood : AllGood g := fun p hp => by
    have : p.2 ∈ pre := by rw [← hg]; exact List.mem_map_of_mem hp
    exact (goods_ok p.2 (hpre p.2 this)).2
  have hgl : g.length = pre.length := by rw [← hg]; simp
  obtain ⟨p, e1, e2⟩ := scan_bad g n q.1 q.2 r 0 [] hgood
  have ht := told_ps (cs := cs') h3 h4 h5 h6
  rw [e1] at ht
  have ht2 : f__law_told [.str (tx (rnd (g ++ (n, q.1, Tk.bad q.2) :: r) fb))] cs' = .ret (.tup [.int ((p : Int) + 1), .str q.2]) cs' := ht
  have hq2 : ∃ l, q.2 = tx l ∧ ok1 l := ⟨q.2.cps.toList, tx_of q.2, by
    have := hq1.2
    rw [tx_of q.2, strOk_tx] at this
    exact this⟩
  obtain ⟨l, hl1, hl2⟩ := hq2
  have hpl : Plain 8 (.tup [.int ((p : Int) + 1), .str q.2]) := by
    rw [hl1]
    refine .tup _ (fun d hd => ?_) (by simp)
    simp only [List.mem_cons, List.mem_nil_iff, or_false] at hd
    rcases hd with rfl | rfl
    · exact .int _
    · exact .str _ hl2
  have heq := plain_eq 8 _ cs' hpl
  have hix : atI (placesOf (g ++ (n, q.1, Tk.bad q.2) :: r) 0 ++ [D.int (((rnd (g ++ (n, q.1, Tk.bad q.2) :: r) fb).length : Nat) + 1)]) (pre.length : Int) = some (.int ((p : Int) + 1)) := by
    rw [atI_nat, ← hgl, List.getElem?_append_left (List.getElem?_eq_some_iff.mp e2).1, e2]
  unfold lTail
  rw [sSeq_at, e, seq1_nx, sSeq_at]
  have prob : ∃ s', lProb (σT x0 (some (.val false (.lst ((pre ++ (q.1, Tk.bad q.2) :: suf).map wD)))) (some (.val false (.str q.2))) y5 (vI pre.length) y7 (vS (rnd (g ++ (n, q.1, Tk.bad q.2) :: r) fb)) (some (.val false (.lst (placesOf (g ++ (n, q.1, Tk.bad q.2) :: r) 0 ++ [.int (((rnd (g ++ (n, q.1, Tk.bad q.2) :: r) fb).length : Nat) + 1)])))) none none none cs') = .rt (.bl true) s' := by
    unfold lProb
    rw [sIf_at]
    refine ⟨σT x0 (some (.val false (.lst ((pre ++ (q.1, Tk.bad q.2) :: suf).map wD)))) (some (.val false (.str q.2))) y5 (vI pre.length) y7 (vS (rnd (g ++ (n, q.1, Tk.bad q.2) :: r) fb)) (some (.val false (.lst (placesOf (g ++ (n, q.1, Tk.bad q.2) :: r) 0 ++ [.int (((rnd (g ++ (n, q.1, Tk.bad q.2) :: r) fb).length : Nat) + 1)])))) none none none cs', ?_⟩
    simp only [eBin_at, eVarB_at, List.getElem?_cons_succ, List.getElem?_cons_zero, eVarB1_v, bind_ok, eBin1_at, eC_at, eBin2_at, deref_str, deref_non, notN_str, lift_some, bindS_ok, sIf1_t, sRet_at, eCallF_at, aCons_at, eVar_at, eVar1_f, aNil_at, aCons1_ok, aCons2_ok, rl_ok, eCallF1_at, ht2, eCallF2_ret, eTup_at, deref_lst, deref_int, dIx_lst, hix, eTup1_2, heq, ret1_at]
  obtain ⟨s', e'⟩ := prob
  rw [e', seq1_rt]
  exact ⟨_, rfl⟩
end K72
set_option Elab.async false
set_option linter.all false
set_option maxRecDepth 100000
set_option maxHeartbeats 2000000
namespace K72
open PySem PySem.Spec PyProof.Rows L2 Mv
theorem plain_str {n : Nat} {z : Str} (h : PyData.strOk z = true) : Plain (n + 1) (.str z) := by
  rw [tx_of z] at h ⊢
  exact .str _ (by rw [strOk_tx] at h; exact h)
theorem tok_kind {w : List Nat} {k : Str} (h : Tok w (.good k)) : PyData.strOk k = true := by
  cases h <;> decide +kernel
theorem tokD_plain {n : Nat} {ps : List Pc} {a : Nat} (hw : ∀ q ∈ ps, WOk q.2.1 q.2.2) : ∀ d ∈ tokD ps a, Plain (n + 2) d := by
  intro d hd
  obtain ⟨i, hi, e⟩ := List.mem_iff_getElem.mp hd
  obtain ⟨m, w, k, p, e1, e2, e3⟩ := tok_at ps a i d (by rw [List.getElem?_eq_getElem hi, e])
  have h := hw _ (List.mem_of_getElem? e1)
  subst e2
  refine .tup _ (fun x hx => ?_) (by simp)
  simp only [List.mem_cons, List.mem_nil_iff, or_false] at hx
  rcases hx with rfl | rfl | rfl
  · exact plain_str (tok_kind h.tok)
  · exact .str _ h.ok
  · exact .int _
theorem endT_plain {n m : Nat} : Plain (n + 2) (endT m) := by
  refine .tup _ (fun x hx => ?_) (by simp)
  simp only [List.mem_cons, List.mem_nil_iff, or_false] at hx
  rcases hx with rfl | rfl | rfl
  · exact plain_str (by decide +kernel)
  · exact plain_str (by decide +kernel)
  · exact .int _
theorem dueC_ok {x0 x4 x8 : Option SV} {ws : List (List Nat × Tk)} {ps : List Pc} {fb : Nat} {cs : List Cell} (hm : ps.map (·.2) = ws) (hg : AllGood ps) (hw : ∀ q ∈ ps, WOk q.2.1 q.2.2) (hl : ps.length ≤ 1000) (z : D) :
    lDueC (σT x0 (some (.val false (.lst (ws.map wD)))) x4 none none none x8 (some (.val false (.lst (placesOf ps 0 ++ [z])))) none none none cs) = .ok (.lst (tokD ps 0)) (σT x0 (some (.val false (.lst (ws.map wD)))) x4 none none none x8 (some (.val false (.lst (placesOf ps 0 ++ [z])))) none none none cs) := by
  have hlw : ws.length = ps.length := by rw [← hm]; simp
  have hl1 : (enumD (ws.map wD)).length = (tokD ps 0).length := by rw [enumD_length, tokD_len ps 0 hg, List.length_map, hlw]
  have run := lcL_pairs (t := (gTp 2 (gsCons (gNm 13) (gsCons (gNm 7) gsNil)))) (mt := eYes) (me := (eTup (aCons (eCallF f__law_kind (aCons (eVar 7) aNil)) (aCons (eVar 7) (aCons (eBin dIx (eVarB 9) (eVarB 13)) aNil))))) (wp := [13, 7])
    (σ0 := σT x0 (some (.val false (.lst (ws.map wD)))) x4 none none none x8 (some (.val false (.lst (placesOf ps 0 ++ [z])))) none none none cs) ((enumD (ws.map wD)).zip (tokD ps 0)) [] (σT x0 (some (.val false (.lst (ws.map wD)))) x4 none none none x8 (some (.val false (.lst (placesOf ps 0 ++ [z])))) none none none cs) rfl
    (by rw [List.length_zip, hl1, tokD_len ps 0 hg]; exact sizeN _ (by simp; omega)) (fun p hp => by
      obtain ⟨i, hi, e⟩ := List.mem_iff_getElem.mp hp
      rw [List.getElem_zip] at e
      have hi1 : i < (enumD (ws.map wD)).length := by rw [List.length_zip] at hi; omega
      have hi2 : i < (tokD ps 0).length := by rw [List.length_zip] at hi; omega
      obtain ⟨n, w, k, q, e1, e2, e3⟩ := tok_at ps 0 i _ (List.getElem?_eq_getElem hi2)
      have hok := hw _ (List.mem_of_getElem? e1)
      have hwi : (ws.map wD)[i]? = some (.str (tx w)) := by
        rw [← hm]
        simp [e1, wD]
      have e4 := enumD_at hwi
      have e5 : (enumD (ws.map wD))[i] = .tup [.int (i : Nat), .str (tx w)] := by
        have := List.getElem?_eq_getElem hi1
        rw [e4] at this
        exact (Option.some.inj this).symm
      rw [e5, e2] at e
      subst e
      have hpl : atI (placesOf ps 0 ++ [z]) (i : Int) = some (.int q) := by
        rw [atI_nat, List.getElem?_append_left (List.getElem?_eq_some_iff.mp e3).1, e3]
      refine ⟨⟨[x0, c0, some (.val false (.lst (ws.map wD))), none, x4, none, none, vS w, x8, some (.val false (.lst (placesOf ps 0 ++ [z]))), none, none, none, vI i, none, none], cs⟩, ⟨[x0, c0, some (.val false (.lst (ws.map wD))), none, x4, none, none, vS w, x8, some (.val false (.lst (placesOf ps 0 ++ [z]))), none, none, none, vI i, none, none], cs⟩, ⟨[x0, c0, some (.val false (.lst (ws.map wD))), none, x4, none, none, vS w, x8, some (.val false (.lst (placesOf ps 0 ++ [z]))), none, none, none, vI i, none, none], cs⟩, ?_, rfl, ?_, rfl⟩
      · simp
      · have hk := kind_ok (cs := cs) hok.tok hok.ok hok.len
        simp only [eTup_at, aCons_at, eCallF_at, eVar_at, List.getElem?_cons_succ, List.getElem?_cons_zero, eVar1_f, aNil_at, aCons1_ok, aCons2_ok, rl_ok, eCallF1_at, hk, eCallF2_ret, eBin_at, eVarB_at, eVarB1_v, bind_ok, eBin1_at, eBin2_at, deref_lst, deref_int, dIx_lst, hpl, lift_some, eTup1_3])
  have f1 : (((enumD (ws.map wD)).zip (tokD ps 0)).map (·.1)) = enumD (ws.map wD) := List.map_fst_zip (by omega)
  have f2 : (((enumD (ws.map wD)).zip (tokD ps 0)).map (·.2)) = tokD ps 0 := List.map_snd_zip (by omega)
  rw [f1, f2] at run
  unfold lDueC
  simp only [eLc_at, iEnumM_at, eVarB_at, List.getElem?_cons_succ, List.getElem?_cons_zero, eVarB1_v, iEnum1_ok, seqD_lst, Option.map_some, iSeq2_some, lc1_ok]
  exact run
theorem sRep_bl {n : Nat} : sRep (tx [32]) (n : Int) = tx (List.replicate n 32) := by
  unfold sRep
  rw [Int.toNat_natCast]
  have : ∀ n : Nat, (List.replicate n [32]).flatten = List.replicate n 32 := by
    intro n
    induction n with
    | zero => rfl
    | succ n ih => simp [List.replicate_succ, ih]
  show tx (List.replicate n [32]).flatten = _
  rw [this n]
theorem dMul_bl {n : Nat} (h : n ≤ 600) : dMul (.str (tx [32])) (.int (n : Int)) = some (.str (tx (List.replicate n 32))) := by
  unfold dMul
  dsimp only
  rw [if_pos ⟨by omega, by omega, by simp⟩, sRep_bl]
/-- blanks ahead -/
theorem shift {ps : List Pc} {fb m : Nat} (ha : AdjOk none ps) (hg : AllGood ps) (hw : ∀ q ∈ ps, WOk q.2.1 q.2.2) : ∃ ps' fb', List.replicate m 32 ++ rnd ps fb = rnd ps' fb' ∧ AdjOk none ps' ∧ AllGood ps' ∧ (∀ q ∈ ps', WOk q.2.1 q.2.2) ∧ ps'.length = ps.length := by
  cases ps with
  | nil => exact ⟨[], m + fb, by simp only [rnd, List.replicate_append_replicate], trivial, fun q hq => by simp at hq, fun q hq => by simp at hq, rfl⟩
  | cons p ps =>
    obtain ⟨n, w, t⟩ := p
    refine ⟨(m + n, w, t) :: ps, fb, by simp only [rnd]; rw [← List.append_assoc, List.replicate_append_replicate], ha, fun q hq => ?_, fun q hq => ?_, rfl⟩
    · rcases List.mem_cons.mp hq with rfl | hq
      · exact hg (n, w, t) (by simp)
      · exact hg q (by simp [hq])
    · rcases List.mem_cons.mp hq with rfl | hq
      · exact hw (n, w, t) (by simp)
      · exact hw q (by simp [hq])
theorem told_good {ps : List Pc} {fb : Nat} {cs : List Cell} (ha : AdjOk none ps) (hg : AllGood ps) (hl : (rnd ps fb).length ≤ 600) (hp : ps.length ≤ 1000) (hw : ∀ q ∈ ps, WOk q.2.1 q.2.2) : f__law_told [.str (tx (rnd ps fb))] cs = .ret (.lst (tokD ps 0 ++ [endT (rnd ps fb).length])) cs := by
  rw [told_ps ha hl hp hw, scan_good ps 0 [] hg]
  rfl
theorem tail_good {x0 : Option SV} {ws : List (List Nat × Tk)} {cs : List Cell} (hs : StAt cs 0) (hws : ∀ p ∈ ws, p ∈ goodsL) (hn : ws.length ≤ 40) :
    ∃ s', lTail (σB x0 (ws.map wD) (some (.val false .non)) none none none cs) = .rt (.bl true) s' := by
  have hw := goods_wok hws
  obtain ⟨ps, fb, cs1, e, h1, h2, h3, h4, h5, h6⟩ := asg_ok (x0 := x0) (x4 := some (.val false .non)) (x5 := none) (x6 := none) (x7 := none) hs hw hn
  have hg : AllGood ps := fun p hp => (goods_ok p.2 (hws p.2 (by rw [← h2]; exact List.mem_map_of_mem hp))).2
  have ht := told_good (cs := cs1) h3 hg h4 h5 h6
  generalize hT : rnd ps fb = T at *
  have hTok : ok1 T ∧ 10 ∉ T := by rw [← hT]; exact rnd_ok h6
  unfold lTail
  rw [sSeq_at, e, seq1_nx, sSeq_at]
  -- no problem
  have s1 : lProb (σT x0 (some (.val false (.lst (ws.map wD)))) (some (.val false .non)) none none none (vS T) (some (.val false (.lst (placesOf ps 0 ++ [.int ((T.length : Nat) + 1)])))) none none none cs1) =
      .nx (σT x0 (some (.val false (.lst (ws.map wD)))) (some (.val false .non)) none none none (vS T) (some (.val false (.lst (placesOf ps 0 ++ [.int ((T.length : Nat) + 1)])))) none none none cs1) := by
    unfold lProb
    rw [sIf_at]
    simp only [eBin_at, eVarB_at, List.getElem?_cons_succ, List.getElem?_cons_zero, eVarB1_v, bind_ok, eBin1_at, eC_at, eBin2_at, deref_non, notN_non, lift_some, bindS_ok, sIf1_f, sNil_at]
  rw [s1, seq1_nx, sSeq_at]
  have hc := dueC_ok (x0 := x0) (x4 := some (.val false .non)) (x8 := vS T) (cs := cs1) (fb := fb) h2 hg h6 h5 (.int ((T.length : Nat) + 1))
  have htl : (tokD ps 0).length ≤ 1000 := by rw [tokD_len ps 0 hg]; exact h5
  have s2 : lDue (σT x0 (some (.val false (.lst (ws.map wD)))) (some (.val false .non)) none none none (vS T) (some (.val false (.lst (placesOf ps 0 ++ [.int ((T.length : Nat) + 1)])))) none none none cs1) =
      .nx (σT x0 (some (.val false (.lst (ws.map wD)))) (some (.val false .non)) none none none (vS T) (some (.val false (.lst (placesOf ps 0 ++ [.int ((T.length : Nat) + 1)])))) (vO (tokD ps 0 ++ [endT T.length])) none none cs1) := by
    unfold lDue
    have hcat : dCat (.lst (tokD ps 0)) (.lst [.tup [.str "end", .str "", .int ((T.length : Nat) + 1)]]) = some (.lst (tokD ps 0 ++ [endT T.length])) := dCat_at (by simp; omega)
    simp only [sSetO_at, eBin_at, hc, bind_ok, eBin1_at, eLst_at, aCons_at, eTup_at, eC_at, eVarB_at, List.getElem?_cons_succ, List.getElem?_cons_zero, eVarB1_v, eUn_at, eUn1_at, deref_int, dNeg_int, lift_some, eBin2_at, deref_lst, dIx_lst, atI_neg1, aNil_at, aCons1_ok, aCons2_ok, rl_ok, eTup1_3, eLst1_1, hcat, bindS_ok, setO1_at, List.set_cons_succ, List.set_cons_zero]
  rw [s2, seq1_nx, sSeq_at]
  have hpl : Plain 8 (.lst [.lst (tokD ps 0 ++ [endT T.length]), .lst (tokD ps 0 ++ [endT T.length])]) := by
    refine .lst _ (fun x hx => ?_) (by simp)
    have hx : x = .lst (tokD ps 0 ++ [endT T.length]) := by simpa using hx
    subst hx
    refine .lst _ (fun y hy => ?_) (by simp; omega)
    rcases List.mem_append.mp hy with hy | hy
    · exact tokD_plain (n := 4) h6 y hy
    · rw [List.mem_singleton] at hy
      subst hy
      exact endT_plain (n := 4)
  have heq := plain_eq 8 _ cs1 hpl
  have s3 : lCmp (σT x0 (some (.val false (.lst (ws.map wD)))) (some (.val false .non)) none none none (vS T) (some (.val false (.lst (placesOf ps 0 ++ [.int ((T.length : Nat) + 1)])))) (vO (tokD ps 0 ++ [endT T.length])) none none cs1) =
      .nx (σT x0 (some (.val false (.lst (ws.map wD)))) (some (.val false .non)) none none none (vS T) (some (.val false (.lst (placesOf ps 0 ++ [.int ((T.length : Nat) + 1)])))) (some (.val false (.lst (tokD ps 0 ++ [endT T.length])))) none none cs1) := by
    unfold lCmp
    rw [sIf_at]
    simp only [eNot_at, eCallF_at, aCons_at, eLst_at, eVar_at, List.getElem?_cons_succ, List.getElem?_cons_zero, eVar1_f, eVar1_t, aNil_at, aCons1_ok, aCons2_ok, rl_ok, eCallF1_at, ht, eCallF2_ret, eLst1_2, List.set_cons_succ, List.set_cons_zero, heq, bind_ok, eNot1_at, Bool.not_true, bindS_ok, sIf1_f, sNil_at]
  rw [s3, seq1_nx, sSeq_at]
  have hTl : T.length ≤ 100000 := by omega
  obtain ⟨m, hm⟩ : ∃ m : Nat, m = 600 - T.length := ⟨_, rfl⟩
  have hmI : (600 : Int) - (T.length : Int) = (m : Int) := by omega
  have hmul := dMul_bl (n := m) (by omega)
  have s4 : lBlank (σT x0 (some (.val false (.lst (ws.map wD)))) (some (.val false .non)) none none none (vS T) (some (.val false (.lst (placesOf ps 0 ++ [.int ((T.length : Nat) + 1)])))) (some (.val false (.lst (tokD ps 0 ++ [endT T.length])))) none none cs1) =
      .nx (σT x0 (some (.val false (.lst (ws.map wD)))) (some (.val false .non)) none none none (vS T) (some (.val false (.lst (placesOf ps 0 ++ [.int ((T.length : Nat) + 1)])))) (some (.val false (.lst (tokD ps 0 ++ [endT T.length])))) (vS (List.replicate m 32)) none cs1) := by
    unfold lBlank
    simp only [sp_eq, sSet_at, eBin_at, eC_at, bind_ok, eBin1_at, eUn_at, eVarB_at, List.getElem?_cons_succ, List.getElem?_cons_zero, eVarB1_v, eUn1_at, deref_str, dLen_tx hTl, lift_some, eBin2_at, deref_int, dSub_int, hmI, hmul, bindS_ok, set1_at, List.set_cons_succ, List.set_cons_zero]
  rw [s4, seq1_nx, sSeq_at]
  have a1 := dAdd_tx (a := T) (b := [10]) (by simp; omega)
  have a2 := dAdd_tx (a := List.replicate m 32) (b := T) (by simp; omega)
  have a3 := dAdd_tx (a := List.replicate m 32 ++ T) (b := [32]) (by simp; omega)
  obtain ⟨d, c, ep, hd, hst⟩ := pick_ok (ds := [.non, .lst [.str (tx T)], .str (tx (T ++ [10])), .str (tx [10]), .str (tx (List.replicate m 32 ++ T ++ [32])), .int 7]) h1 (by simp) (by simp)
  have s5 : lPick (σT x0 (some (.val false (.lst (ws.map wD)))) (some (.val false .non)) none none none (vS T) (some (.val false (.lst (placesOf ps 0 ++ [.int ((T.length : Nat) + 1)])))) (some (.val false (.lst (tokD ps 0 ++ [endT T.length])))) (vS (List.replicate m 32)) none cs1) =
      .nx (σT x0 (some (.val false (.lst (ws.map wD)))) (some (.val false .non)) none none none (vS T) (some (.val false (.lst (placesOf ps 0 ++ [.int ((T.length : Nat) + 1)])))) (some (.val false (.lst (tokD ps 0 ++ [endT T.length])))) (vS (List.replicate m 32)) (some (.val false d)) (cs1.set 0 c)) := by
    unfold lPick
    have e6 : ∀ s : S, eLst1 [.non, .lst [.str (tx T)], .str (tx (T ++ [10])), .str (tx [10]), .str (tx (List.replicate m 32 ++ T ++ [32])), .int 7] s = .ok (.lst [.non, .lst [.str (tx T)], .str (tx (T ++ [10])), .str (tx [10]), .str (tx (List.replicate m 32 ++ T ++ [32])), .int 7]) s := fun s => eLst1_at (sizeN _ (by simp))
    simp only [nl_eq, sp_eq, sSet_at, eCallF_at, aCons_at, eVar_at, List.getElem?_cons_succ, List.getElem?_cons_zero, eVar1_f, eLst_at, eC_at, aNil_at, aCons1_ok, aCons2_ok, rl_ok, eLst1_1, eBin_at, eVarB_at, eVarB1_v, bind_ok, eBin1_at, eBin2_at, deref_str, a1, a2, a3, lift_some, e6, eCallF1_at, ep, eCallF2_ret, bindS_ok, set1_at, List.set_cons_succ, List.set_cons_zero]
  rw [s5, seq1_nx]
  -- the refused
  have hno : f__law_told [d] (cs1.set 0 c) = .ret (.str "text") (cs1.set 0 c) := by
    simp only [List.mem_cons, List.mem_nil_iff, or_false] at hd
    rcases hd with rfl | rfl | rfl | rfl | rfl | rfl
    · exact told_no (check_no (by simp))
    · exact told_no (check_no (by simp))
    · by_cases hz : (T ++ [10]).length ≤ 600
      · exact told_no (check_nl hz (by simp))
      · exact told_no (check_long (by simp; omega) (by omega))
    · exact told_no (check_nl (by simp) (by simp))
    · exact told_no (check_long (by simp; omega) (by simp; omega))
    · exact told_no (check_no (by simp))
  obtain ⟨ps', fb', q1, q2, q3, q4, q5⟩ := shift (m := m) (fb := fb) h3 hg h6
  have hfin := told_good (fb := fb') (cs := cs1.set 0 c) q2 q3 (by rw [← q1, hT]; simp; omega) (by omega) q4
  rw [← q1, hT] at hfin
  have ht1 : dEq (.str "text") (.str "text") = some (.bl true) := by
    rw [dEq_str (by decide +kernel) (by decide +kernel)]
    simp
  unfold lFin
  simp only [sRet_at, eAnd_at, eBin_at, eCallF_at, aCons_at, eVar_at, List.getElem?_cons_succ, List.getElem?_cons_zero, eVar1_f, aNil_at, aCons1_ok, aCons2_ok, rl_ok, eCallF1_at, hno, eCallF2_ret, bind_ok, eBin1_at, eC_at, eBin2_at, deref_str, ht1, lift_some, eAnd1_t, eUn_at, eVarB_at, eVarB1_v, a2, hfin, eUn1_at, deref_lst, is_lst, decide_true, bindS_ok, ret1_at]
  exact ⟨_, rfl⟩
theorem law_true (ns : List Int) (h : ns.length ≤ 63) : ∃ cs, f_law [.scr ns] [] = .ret (.bl true) cs := by
  unfold f_law
  rw [fnF_at, m_law_eq]
  have e0 : startS 16 [.scr ns] [] = ⟨[some (.val false (.scr ns)), none, none, none, none, none, none, none, none, none, none, none, none, none, none, none], []⟩ := rfl
  rw [e0, sSeq_at]
  have st : f__law_stream [.scr ns] [] = .ret (.cell 0) [strmC ns 0 0] := by
    unfold f__law_stream
    rw [fnF_at, startS1 rfl]
    unfold m__law_stream strmC
    have : dList (.scr ns) = some (.lst (ns.map .int)) := rfl
    simp [this]
  have hst : StAt [strmC ns 0 0] 0 := ⟨ns, 0, 0, rfl, Int.le_refl _, Int.le_refl _⟩
  have s1 : (sSet 1 (eCallF f__law_stream (aCons (eVar 0) aNil))) ⟨[some (.val false (.scr ns)), none, none, none, none, none, none, none, none, none, none, none, none, none, none, none], []⟩ = .nx ⟨[some (.val false (.scr ns)), c0, none, none, none, none, none, none, none, none, none, none, none, none, none, none], [strmC ns 0 0]⟩ := by
    simp only [sSet_at, eCallF_at, aCons_at, eVar_at, List.getElem?_cons_zero, eVar1_f, aNil_at, aCons1_ok, aCons2_ok, rl_ok, eCallF1_at, st, eCallF2_ret, bindS_ok, set1_at, List.set_cons_succ, List.set_cons_zero]
  rw [s1, seq1_nx, sSeq_at, sSetO_at, eLst_at, aNil_at, rl_ok, eLst1_0, bindS_ok, setO1_at, seq1_nx, sSeq_at]
  simp only [List.set_cons_succ, List.set_cons_zero]
  obtain ⟨d, c, e1, g0, g1, h1⟩ := next_ok (many := 21) hst (by omega) (by omega)
  obtain ⟨n, rfl⟩ : ∃ n : Nat, d = n := ⟨d.toNat, by omega⟩
  rw [← next_eq] at e1
  obtain ⟨ws, cs2, e2, h2, hl, hws⟩ := loop_run (x0 := some (.val false (.scr ns))) (r := [none, none, none, none, none, none, none, none, none, none, none, none]) (rgF 0 n) [] none _ h1 (by rw [rgF_len]; simp; omega)
  have s2 : lLoop ⟨[some (.val false (.scr ns)), c0, vO [], none, none, none, none, none, none, none, none, none, none, none, none, none], [strmC ns 0 0]⟩ = .nx ⟨[some (.val false (.scr ns)), c0, vO (ws.map wD), none, none, none, none, none, none, none, none, none, none, none, none, none], cs2⟩ := by
    unfold lLoop
    simp only [sFor_at, iRng1_at, eCallF_at, aCons_at, eVar_at, List.getElem?_cons_succ, List.getElem?_cons_zero, eVar1_f, eC_at, aNil_at, aCons1_ok, aCons2_ok, rl_ok, eCallF1_at, e1, eCallF2_ret, iRng11_nat (show n ≤ 16777216 by omega), for1_ok]
    exact e2
  rw [rgF_len] at hl
  rw [s2, seq1_nx, sSeq_at, sSet_at, eC_at, bindS_ok, set1_at, seq1_nx, sSeq_at]
  simp only [List.set_cons_succ, List.set_cons_zero]
  obtain ⟨d3, k3, e3, g3, g4, h3⟩ := next_ok (many := 2) h2 (by omega) (by omega)
  rw [← next_eq] at e3
  have c1 : (eBin dEq (eCallF f__law_next (aCons (eVar 1) (aCons (eC (.int 2)) aNil))) (eC (.int 1))) ⟨[some (.val false (.scr ns)), c0, vO (ws.map wD), none, some (.val false .non), none, none, none, none, none, none, none, none, none, none, none], cs2⟩ =
      .ok (.bl (decide (d3 = 1))) (σB (some (.val false (.scr ns))) (ws.map wD) (some (.val false .non)) none none none (cs2.set 0 k3)) := by
    simp only [eBin_at, eCallF_at, aCons_at, eVar_at, List.getElem?_cons_succ, List.getElem?_cons_zero, eVar1_f, eC_at, aNil_at, aCons1_ok, aCons2_ok, rl_ok, eCallF1_at, e3, eCallF2_ret, bind_ok, eBin1_at, eBin2_at, deref_int, dEq_int, lift_some]
  rw [sIf_at, c1, bindS_ok]
  by_cases hd : d3 = 1
  · rw [decide_eq_true hd, sIf1_t]
    obtain ⟨a, q, ex, y5, y7, cs4, e4, h4, ha, hq, hex, hexo⟩ := bad_ok (x0 := some (.val false (.scr ns))) (ws := ws) h3 (by omega)
    rw [e4, seq1_nx]
    have hta : (ws.take a).length = a := by rw [List.length_take]; omega
    obtain ⟨s', e5⟩ := tail_bad (x0 := some (.val false (.scr ns))) (y5 := y5) (y7 := y7) (pre := ws.take a) (suf := ws.drop a ++ ex) (q := q) h4 (fun p hp => hws p (List.mem_of_mem_take hp)) (fun p hp => by
      rcases List.mem_append.mp hp with hp | hp
      · exact (goods_ok p (hws p (List.mem_of_mem_drop hp))).1
      · exact hexo p hp) hq (by simp; omega)
    rw [hta] at e5
    rw [e5, fin1_rt]
    exact ⟨_, rfl⟩
  · rw [decide_eq_false hd, sIf1_f, sNil_at, seq1_nx]
    obtain ⟨s', e5⟩ := tail_good (x0 := some (.val false (.scr ns))) h3 hws (by omega)
    rw [e5, fin1_rt]
    exact ⟨_, rfl⟩
end K72
set_option Elab.async false
set_option linter.all false
set_option maxRecDepth 100000
set_option maxHeartbeats 0
namespace K72
open PySem PySem.Spec PyProof.Rows L2 Mv
/-! ### the head -/
def d__law_is_integer : He.DefD := ⟨("_law_is_integer", none), "_law_is_integer", "_law_is_integer", defArgs s__law_is_integer, defBody s__law_is_integer, defScope s__law_is_integer, [], []⟩
def d__law_equal : He.DefD := ⟨("_law_equal", none), "_law_equal", "_law_equal", defArgs s__law_equal, defBody s__law_equal, defScope s__law_equal, [], []⟩
def d__law_kind : He.DefD := ⟨("_law_kind", none), "_law_kind", "_law_kind", defArgs s__law_kind, defBody s__law_kind, defScope s__law_kind, [], []⟩
def d__law_next : He.DefD := ⟨("_law_next", none), "_law_next", "_law_next", defArgs s__law_next, defBody s__law_next, defScope s__law_next, [], []⟩
def d__law_laid : He.DefD := ⟨("_law_laid", none), "_law_laid", "_law_laid", defArgs s__law_laid, defBody s__law_laid, defScope s__law_laid, [], []⟩
def d__law_pick : He.DefD := ⟨("_law_pick", none), "_law_pick", "_law_pick", defArgs s__law_pick, defBody s__law_pick, defScope s__law_pick, [], []⟩
def d__law_stream : He.DefD := ⟨("_law_stream", none), "_law_stream", "_law_stream", defArgs s__law_stream, defBody s__law_stream, defScope s__law_stream, [], []⟩
def d_check_text : He.DefD := ⟨("check_text", none), "check_text", "check_text", defArgs s_check_text, defBody s_check_text, defScope s_check_text, [], []⟩
def d_chars_at : He.DefD := ⟨("chars_at", none), "chars_at", "chars_at", defArgs s_chars_at, defBody s_chars_at, defScope s_chars_at, [], []⟩
def d_token_at : He.DefD := ⟨("token_at", none), "token_at", "token_at", defArgs s_token_at, defBody s_token_at, defScope s_token_at, [], []⟩
def d_scan : He.DefD := ⟨("scan", none), "scan", "scan", defArgs s_scan, defBody s_scan, defScope s_scan, [], []⟩
def d__law_told : He.DefD := ⟨("_law_told", none), "_law_told", "_law_told", defArgs s__law_told, defBody s__law_told, defScope s__law_told, [], []⟩
def d_law : He.DefD := ⟨("law", none), "law", "law", defArgs s_law, defBody s_law, defScope s_law, [], []⟩
abbrev i_BadValue : Stmt := (clsB (top 2)).getD 0 (.Pass ⟨0, 0, 0, 0⟩)
def d_BadValue : He.DefD := ⟨("BadValue", some "__init__"), "__init__", "BadValue.__init__", defArgs i_BadValue, defBody i_BadValue, defScope i_BadValue, [], []⟩
abbrev i_TextError : Stmt := (clsB (top 3)).getD 0 (.Pass ⟨0, 0, 0, 0⟩)
def d_TextError : He.DefD := ⟨("TextError", some "__init__"), "__init__", "TextError.__init__", defArgs i_TextError, defBody i_TextError, defScope i_TextError, [], []⟩
def fn : List He.DefD := [d__law_is_integer, d__law_equal, d__law_kind, d__law_next, d__law_laid, d__law_pick, d__law_stream, d_check_text, d_chars_at, d_token_at, d_scan, d__law_told, d_law, d_BadValue, d_TextError]
def fa : List He.Fa := [.glo "_law_is_integer", .glo "_law_equal", .glo "_law_kind", .glo "_law_next", .glo "_law_laid", .glo "_law_pick", .glo "_law_stream", .glo "check_text", .glo "chars_at", .glo "token_at", .glo "scan", .glo "_law_told", .glo "law", .glo "BadValue", .glo "BideError", .glo "TextError", .free "abs", .free "all", .free "bool", .free "enumerate", .free "int", .free "isinstance", .free "len", .free "list", .free "max", .free "range", .free "str", .free "tuple", .str "DIGITS" "0123456789", .str "EVENTS" "abcdef", .int "LONGEST_TEXT" (600), .str "LOWER" "abcdefghijklmnopqrstuvwxyz", .int "MOST_DIGITS" (6), .glo "SIGNS"]
def exl : List (PySem.W.Frag → Bool) := [(fun K => He.tupB K "SIGNS" [.str ":", .str ";", .str ",", .str "=", .str "-", .str ".."]), (excB "BadValue" ["name"]), (excB "TextError" ["column", "words"]), (exmB "BadValue" (cvRef "BadValue") true), (exmB "TextError" (cvRef "BadValue") false), (exmB "BadValue" (cvRef "TextError") false), (exmB "TextError" (cvRef "TextError") true), (isB "BadValue" (cvRef "BideError") true), (isB "TextError" (cvRef "BideError") true), (fldB "TextError" "column"), (fldB "BadValue" "name"), (fldB "TextError" "words")]
def loose : List PySem.Str := ["check_text", "chars_at", "token_at", "scan", "_law_stream", "_law_next", "_law_is_integer", "_law_equal", "_law_pick", "_law_laid", "_law_kind", "_law_told", "BideError", "BadValue", "TextError", "LOWER", "DIGITS", "EVENTS", "SIGNS", "LONGEST_TEXT", "MOST_DIGITS"]
abbrev R : PySem.W.OpenRow := PySem.W.OpenLaw.row PySem.Challenge.rw_allbide_k72_tokens_of_texts
abbrev hk : PySem.W.Hook := He.hookX 5 fa fn [] [] (exAll exl)
def ob (s : PySem.W.SharedT) : He.AlX := He.obsX 5 fa fn [] [] (exAll exl) (HandSHeadRun.getT s)
theorem ob_eq (s : PySem.W.SharedT) : ob s = hk.obs s.abs := He.obsX_eq (HandSHeadRun.getT_eq s)
theorem run (w : World) : HandSHeadRun.RunEq R (PySem.W.view R.prog [24]) hk ob 4000 loose w := by
  intro os
  kernel_rfl
theorem facts {P : Program} {w : World} {K : PySem.W.Frag} {h : Heap} {mg : Str → Option Value} {f : Addr} (X : K.In h) (G : h.Ns mainGlobals mg) (hfa : mg ("law" : Str) = some (.ref f)) (c : He.SaysX fa fn [] [] (exAll exl) w h K) :
    ∃ fd : FuncData, (∀ (s : Shared) (v : Value), BindsTo s fd ⟨[v], []⟩ [("_law_script", v)]) ∧ ∀ base : Heap, K.In base → base.Ns mainGlobals mg → FnOk P w K mg base (L2.CX P w) 11 f fd ["_law_script"] (spF ⟨K, mg⟩ 1 f_law) := by
  have cd := c.t.d
  obtain ⟨fd__law_is_integer, F__law_is_integer⟩ := cd.def_ 0 (d := d__law_is_integer) rfl
  obtain ⟨fd__law_equal, F__law_equal⟩ := cd.def_ 1 (d := d__law_equal) rfl
  obtain ⟨fd__law_kind, F__law_kind⟩ := cd.def_ 2 (d := d__law_kind) rfl
  obtain ⟨fd__law_next, F__law_next⟩ := cd.def_ 3 (d := d__law_next) rfl
  obtain ⟨fd__law_laid, F__law_laid⟩ := cd.def_ 4 (d := d__law_laid) rfl
  obtain ⟨fd__law_pick, F__law_pick⟩ := cd.def_ 5 (d := d__law_pick) rfl
  obtain ⟨fd__law_stream, F__law_stream⟩ := cd.def_ 6 (d := d__law_stream) rfl
  obtain ⟨fd_check_text, F_check_text⟩ := cd.def_ 7 (d := d_check_text) rfl
  obtain ⟨fd_chars_at, F_chars_at⟩ := cd.def_ 8 (d := d_chars_at) rfl
  obtain ⟨fd_token_at, F_token_at⟩ := cd.def_ 9 (d := d_token_at) rfl
  obtain ⟨fd_scan, F_scan⟩ := cd.def_ 10 (d := d_scan) rfl
  obtain ⟨fd__law_told, F__law_told⟩ := cd.def_ 11 (d := d__law_told) rfl
  obtain ⟨fd_law, F_law⟩ := cd.def_ 12 (d := d_law) rfl
  obtain ⟨fi_BadValue, FI_BadValue⟩ := cd.def_ 13 (d := d_BadValue) rfl
  obtain ⟨fi_TextError, FI_TextError⟩ := cd.def_ 14 (d := d_TextError) rfl
  have m__law_is_integer := He.glo_ok X G (cd.fact 0 (f := .glo "_law_is_integer") rfl)
  have m__law_equal := He.glo_ok X G (cd.fact 1 (f := .glo "_law_equal") rfl)
  have m__law_kind := He.glo_ok X G (cd.fact 2 (f := .glo "_law_kind") rfl)
  have m__law_next := He.glo_ok X G (cd.fact 3 (f := .glo "_law_next") rfl)
  have m__law_laid := He.glo_ok X G (cd.fact 4 (f := .glo "_law_laid") rfl)
  have m__law_pick := He.glo_ok X G (cd.fact 5 (f := .glo "_law_pick") rfl)
  have m__law_stream := He.glo_ok X G (cd.fact 6 (f := .glo "_law_stream") rfl)
  have m_check_text := He.glo_ok X G (cd.fact 7 (f := .glo "check_text") rfl)
  have m_chars_at := He.glo_ok X G (cd.fact 8 (f := .glo "chars_at") rfl)
  have m_token_at := He.glo_ok X G (cd.fact 9 (f := .glo "token_at") rfl)
  have m_scan := He.glo_ok X G (cd.fact 10 (f := .glo "scan") rfl)
  have m__law_told := He.glo_ok X G (cd.fact 11 (f := .glo "_law_told") rfl)
  have m_law := He.glo_ok X G (cd.fact 12 (f := .glo "law") rfl)
  have m_BadValue := He.glo_ok X G (cd.fact 13 (f := .glo "BadValue") rfl)
  have m_BideError := He.glo_ok X G (cd.fact 14 (f := .glo "BideError") rfl)
  have m_TextError := He.glo_ok X G (cd.fact 15 (f := .glo "TextError") rfl)
  have e := hfa.symm.trans m_law
  cases e
  have b := FunD.bindsA (ps := ["_law_script"]) F_law fun _ _ _ _ _ _ us hl => match us, hl with | [_], _ => rfl
  refine ⟨fd_law, fun s v => b s [v] rfl, fun base _ _ => ?_⟩
  have g : GF P w K mg base := ⟨He.free_ok X G (cd.fact 16 (f := .free "abs") rfl),
    He.free_ok X G (cd.fact 17 (f := .free "all") rfl),
    He.free_ok X G (cd.fact 18 (f := .free "bool") rfl),
    He.free_ok X G (cd.fact 19 (f := .free "enumerate") rfl),
    He.free_ok X G (cd.fact 20 (f := .free "int") rfl),
    He.free_ok X G (cd.fact 21 (f := .free "isinstance") rfl),
    He.free_ok X G (cd.fact 22 (f := .free "len") rfl),
    He.free_ok X G (cd.fact 23 (f := .free "list") rfl),
    He.free_ok X G (cd.fact 24 (f := .free "max") rfl),
    He.free_ok X G (cd.fact 25 (f := .free "range") rfl),
    He.free_ok X G (cd.fact 26 (f := .free "str") rfl),
    He.free_ok X G (cd.fact 27 (f := .free "tuple") rfl),
    He.str_ok X G (cd.fact 28 (f := .str "DIGITS" "0123456789") rfl),
    He.str_ok X G (cd.fact 29 (f := .str "EVENTS" "abcdef") rfl),
    He.int_ok X G (cd.fact 30 (f := .int "LONGEST_TEXT" (600)) rfl),
    He.str_ok X G (cd.fact 31 (f := .str "LOWER" "abcdefghijklmnopqrstuvwxyz") rfl),
    He.int_ok X G (cd.fact 32 (f := .int "MOST_DIGITS" (6)) rfl),
    ktup_of (vs := [.str ":", .str ";", .str ",", .str "=", .str "-", .str ".."]) (He.glo_ok X G (cd.fact 33 (f := .glo "SIGNS") rfl)) (exAll_at c.more 0 (f := fun K => He.tupB K "SIGNS" [.str ":", .str ";", .str ",", .str "=", .str "-", .str ".."]) rfl) rfl rfl,
    m_BadValue,
    m_BideError,
    m_TextError,
    each_of (R := fun C b => PySem.W.exmOne K (.ref C) (.ref (He.ga K "BadValue")) = some b) (by
      intro q hq
      simp only [List.mem_cons, List.mem_nil_iff, or_false] at hq
      rcases hq with rfl | rfl
      · exact ⟨m_BadValue, of_decide_eq_true (exAll_at c.more 3 (f := exmB "BadValue" (cvRef "BadValue") true) rfl)⟩
      · exact ⟨m_TextError, of_decide_eq_true (exAll_at c.more 4 (f := exmB "TextError" (cvRef "BadValue") false) rfl)⟩),
    each_of (R := fun C b => PySem.W.exmOne K (.ref C) (.ref (He.ga K "TextError")) = some b) (by
      intro q hq
      simp only [List.mem_cons, List.mem_nil_iff, or_false] at hq
      rcases hq with rfl | rfl
      · exact ⟨m_BadValue, of_decide_eq_true (exAll_at c.more 5 (f := exmB "BadValue" (cvRef "TextError") false) rfl)⟩
      · exact ⟨m_TextError, of_decide_eq_true (exAll_at c.more 6 (f := exmB "TextError" (cvRef "TextError") true) rfl)⟩),
    each_of (R := fun C b => IsF K C ∧ PySem.W.kitOne K (.ref C) (.ref (He.ga K "BideError")) = some b) (by
      intro q hq
      simp only [List.mem_cons, List.mem_nil_iff, or_false] at hq
      rcases hq with rfl | rfl
      · exact ⟨m_BadValue, isB_ok (exAll_at c.more 7 (f := isB "BadValue" (cvRef "BideError") true) rfl)⟩
      · exact ⟨m_TextError, isB_ok (exAll_at c.more 8 (f := isB "TextError" (cvRef "BideError") true) rfl)⟩),
    each_of1 (R := fun C => XfC K C ∧ PySem.W.findIn K (.ref C) "column" = some none) (by
      intro q hq
      simp only [List.mem_cons, List.mem_nil_iff, or_false] at hq
      rcases hq with rfl
      · exact ⟨m_TextError, fldB_ok (exAll_at c.more 9 (f := fldB "TextError" "column") rfl)⟩),
    each_of1 (R := fun C => XfC K C ∧ PySem.W.findIn K (.ref C) "name" = some none) (by
      intro q hq
      simp only [List.mem_cons, List.mem_nil_iff, or_false] at hq
      rcases hq with rfl
      · exact ⟨m_BadValue, fldB_ok (exAll_at c.more 10 (f := fldB "BadValue" "name") rfl)⟩),
    each_of1 (R := fun C => XfC K C ∧ PySem.W.findIn K (.ref C) "words" = some none) (by
      intro q hq
      simp only [List.mem_cons, List.mem_nil_iff, or_false] at hq
      rcases hq with rfl
      · exact ⟨m_TextError, fldB_ok (exAll_at c.more 11 (f := fldB "TextError" "words") rfl)⟩)⟩
  have x_BadValue : ExMk P w K mg base 1 "BadValue" ["name"] := exmk_of (exAll_at c.more 1 (f := excB "BadValue" ["name"]) rfl) m_BadValue (init1 FI_BadValue ⟨rfl, rfl, rfl, by decide +kernel, rfl, by decide +kernel, by decide +kernel⟩ (.inl rfl) (.inl rfl) (by decide) (by decide)) (FI_BadValue.bindsN fun _ _ _ _ _ _ us hl => match us, hl with | [_, _], _ => rfl)
  have x_TextError : ExMk P w K mg base 1 "TextError" ["column", "words"] := exmk_of (exAll_at c.more 2 (f := excB "TextError" ["column", "words"]) rfl) m_TextError (init2 FI_TextError ⟨rfl, rfl, rfl, by decide +kernel, rfl, by decide +kernel, by decide +kernel⟩ (.inl rfl) (.inl rfl) (.inl rfl) (by decide) (by decide) (by decide) (by decide)) (FI_TextError.bindsN fun _ _ _ _ _ _ us hl => match us, hl with | [_, _, _], _ => rfl)
  have c__law_is_integer := w__law_is_integer F__law_is_integer m__law_is_integer g
  have c__law_equal := w__law_equal F__law_equal m__law_equal g c__law_is_integer 8
  have c__law_kind := w__law_kind F__law_kind m__law_kind g
  have c__law_next := w__law_next F__law_next m__law_next g
  have c__law_laid := w__law_laid F__law_laid m__law_laid g c__law_next
  have c__law_pick := w__law_pick F__law_pick m__law_pick g c__law_next
  have c__law_stream := w__law_stream F__law_stream m__law_stream g
  have c_check_text := w_check_text F_check_text m_check_text g x_BadValue
  have c_chars_at := w_chars_at F_chars_at m_chars_at g
  have c_token_at := w_token_at F_token_at m_token_at g c_chars_at x_TextError
  have c_scan := w_scan F_scan m_scan g c_check_text c_token_at
  have c__law_told := w__law_told F__law_told m__law_told g c_scan
  exact w_law F_law g c__law_equal c__law_kind c__law_laid c__law_next c__law_pick c__law_stream c__law_told
end K72
open PySem PySem.W PySem.Calls PyProof.Rows
theorem PySem.Challenge.cw_allbide_k72_tokens_of_texts_holds : PySem.Challenge.rw_allbide_k72_tokens_of_texts.Holds := by
  w_on; o_law
  refine HandSHeadRun.head_any (r := OpenLaw.row PySem.Challenge.rw_allbide_k72_tokens_of_texts) (q := view (OpenLaw.row PySem.Challenge.rw_allbide_k72_tokens_of_texts).prog [24]) (H := K72.hk) (ob := K72.ob) (M := 4000) (loose := K72.loose) (d := HandSHeadRun.topDef (OpenLaw.row PySem.Challenge.rw_allbide_k72_tokens_of_texts).prog 24) (kwd := []) K72.ob_eq
    (by kernel_rfl) (fun s => by kernel_rfl) K72.run (by kernel_rfl) (by kernel_rfl) (by kernel_rfl) (by rfl) (by first | assumption | decide +kernel) (by decide +kernel) ⟨rfl, rfl, rfl, rfl, rfl, by decide +kernel⟩ ?hw ?hc
  case hw => w_witness2
  case hc =>
    refine Mv.walk_ofW (l := PySem.Challenge.rw_allbide_k72_tokens_of_texts) (n := 63) (k := 11) (x := "_law_script") (CX := fun w => L2.CX (PySem.Challenge.rw_allbide_k72_tokens_of_texts).prog w) rfl (by decide) (by kernel_rfl) ⟨rfl, by decide, by decide⟩ ?F (fun _ _ _ _ _ z => Mv.cx_no z)
    intro w mg fa h Y G hmg0
    obtain ⟨K, KX, c⟩ := Y
    have hmg : mg ("law" : PySem.Str) = some (.ref fa) := by
      have e : (HandSHeadRun.topDef (OpenLaw.row PySem.Challenge.rw_allbide_k72_tokens_of_texts).prog 24).name = ("law" : PySem.Str) := by kernel_rfl
      rw [← e]
      exact hmg0
    obtain ⟨fd, hb, hF⟩ := K72.facts (P := (PySem.Challenge.rw_allbide_k72_tokens_of_texts).prog) (w := w) KX G hmg c
    exact ⟨K, fd, _, KX, hb, fun H a ns hl _ hS => Mv.sp_law (K72.law_true ns hl) hS, hF⟩
